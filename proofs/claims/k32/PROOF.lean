import PyProof.Rows.All
import Wide.All
import OpenK.AllK
import Wide.FinOn
import HandS.ForMost
import HandS.ForExc
import HandS.Wide
import HandS.Deep
import HandS.EndBits
import HandS.CallSlots
import KE.KDictKeyed
import HandS.TupAny
import HandS.TupMul
import HandS.Text
import HandS.Style
import HandS.IsInst
import HandS.TryOnly
import KE.GoesEnum
import HandS.Rev
import HandS.RevRange
import PyProof.StrLawsChain
import HandS.StrMore
import KE.DataMinMax
import KE.SortData
import HandS.SortKw
import KE.IntTextLaws
import HandS.Codes
import HandS.RaiseMore
import KE.KxMul
import PyProof.Rows.BitMore
import KE.KIsAll
import HandS.ExcIs
import PyProof.StrOps2
import HandS.Dict
import KE.KDictLaws
import KE.KDictDisplayH
import HandS.Iter
import KE.KDictWalk
import KE.KDictSum
import KE.KDictCopyH
import HandS.More
import PyProof.TupleOps
import KE.KRevIter
import PyProof.FactsAll.subtypes_4
import HandS.SetFor
import HandS.Strs
import HandS.Conv
import HandS.TryMany
import HandS.Defaults
import PyProof.TupleOfSeq
import PySem.Challenge.RW_vellum_k32_texts_that_are_no_apparatus
set_option Elab.async false
section
set_option Elab.async false
set_option linter.all false
set_option maxRecDepth 100000
open PySem PySem.W PyProof.Rows
set_option maxHeartbeats 0 in
open_top vp_hd for PySem.Challenge.rw_vellum_k32_texts_that_are_no_apparatus
end
section
set_option linter.all false
namespace Vm
inductive PV where
 | non | bl (b:Bool) | int (i:Int) | str (s:List Nat) | tup (l:List PV) | lst (l:List PV) | dic (ks l:List PV) | exo (c:Nat) (l:List PV)
inductive Tg where
 | fz | bw (d:Nat) | ow (d:Nat)
inductive Res (α:Type) where
 | ok (a:α) | exc (c:Nat) | bad
abbrev TV:=Tg×PV
abbrev Sl:=Option TV
abbrev En:=List Sl
def Res.bind{α β:Type}(r:Res α)(f:α→Res β):Res β:=match r with
 | .ok a=>f a
 | .exc c=>.exc c
 | .bad=>.bad
@[simp] theorem bind_ok {α β:Type} (a:α) (f:α→Res β):(Res.ok a).bind f=f a:=rfl
@[simp] theorem bind_exc {α β:Type} (c:Nat) (f:α→Res β):(Res.exc c).bind f = .exc c:=rfl
@[simp] theorem bind_bad {α β:Type} (f:α→Res β):(Res.bad:Res α).bind f = .bad:=rfl
@[simp] def boxed:PV→Bool
 | .lst _=>true
 | .dic _ _=>true
 | .exo 0 _=>true
 | _=>false
def strG(l:List Nat):Bool:=decide (l.length≤16777216) && l.all (fun c=>decide (c < 1114112))
mutual
@[simp] def eqv:PV→PV→Bool
 | .non,.non=>true
 | .bl a,.bl b=>a == b
 | .bl a,.int j=>(if a then 1 else 0) == j
 | .int i,.bl b=>i == (if b then 1 else 0)
 | .int i,.int j=>i == j
 | .str x,.str y=>x == y
 | .lst xs,.lst ys=>eqvL xs ys
 | .tup xs,.tup ys=>eqvL xs ys
 | _,_=>false
@[simp] def eqvL:List PV→List PV→Bool
 | [],[]=>true
 | x :: xs,y :: ys=>eqv x y && eqvL xs ys
 | _,_=>false
end
mutual
@[simp] def shp:Nat→PV→Bool
 | _,.non=>true
 | _,.bl _=>true
 | _,.int _=>true
 | _,.str _=>true
 | 0,.tup _=>false
 | 0,.lst _=>false
 | n+1,.tup l=>shpL n l
 | n+1,.lst l=>shpL n l
 | _,.dic _ _=>false
 | _,.exo _ _=>false
@[simp] def shpL:Nat→List PV→Bool
 | _,[]=>true
 | n,x :: xs=>shp n x && shpL n xs
end
@[simp] def plainP:PV→Bool
 | .non=>true
 | .bl _=>true
 | .int _=>true
 | .str _=>true
 | _=>false
mutual
@[simp] def stab:PV→Bool
 | .non=>true
 | .bl _=>true
 | .int _=>true
 | .str _=>true
 | .tup l=>stabL l
 | _=>false
@[simp] def stabL:List PV→Bool
 | []=>true
 | x :: xs=>stab x && stabL xs
end
@[simp] def stabO:Nat→PV→Bool
 | 0,p=>stab p
 | d+1,.lst l=>l.all (stabO d)
 | d+1,.dic _ l=>l.all (stabO d)
 | _,_=>false
def vIxN(n:Nat)(i:Int):Option Nat:=if 0≤i then (if i < n then some i.toNat else none) else if -(n:Int)≤i then some (i+n).toNat else none
def vAt{α:Type}(xs:List α)(i:Int):Option α:=(vIxN xs.length i).bind fun j=>xs[j]?
def vSix(n d:Nat):Option Int→Nat
 | none=>d
 | some v=>if v < 0 then (v+(n:Int)).toNat else min v.toNat n
def cutL{α:Type}(xs:List α)(lo hi:Option Int):List α:=(xs.drop (vSix xs.length 0 lo)).take (vSix xs.length xs.length hi - vSix xs.length 0 lo)
@[simp] def En.get (Γ:En) (i:Nat):Sl:=Γ.getD i none
@[simp] def wipeE (Γ:En):List Nat→En
 | []=>Γ
 | v :: vs=>(wipeE Γ vs).set v none
@[simp] def putV:TV→Res PV
 | (.fz,p)=>.ok p
 | (.ow _,p)=>.ok p
 | (.bw 0,p)=>.ok p
 | (.bw _,_)=>.bad
abbrev EX:=En→Res TV
abbrev EXs:=En→Res (List TV)
@[simp] def fzv (p:PV):Res TV:=.ok (.fz,p)
@[simp] def eC (p:PV):EX:=fun _=>.ok (.fz,p)
@[simp] def eVar (i:Nat):EX:=fun Γ=>match Γ.get i with
 | some (.fz,p)=>.ok (.fz,p)
 | some (.bw d,p)=>.ok (.bw d,p)
 | some (.ow d,p)=>.ok (.bw d,p)
 | none=>.bad
@[simp] def eOp2 (op:PV→PV→Res PV) (a b:EX):EX:=fun Γ=>(a Γ).bind fun x=>(b Γ).bind fun y=>(op x.2 y.2).bind fzv
@[simp] def eOp1 (op:PV→Res PV) (a:EX):EX:=fun Γ=>(a Γ).bind fun x=>(op x.2).bind fzv
@[simp] def eNil:EXs:=fun _=>.ok []
@[simp] def eCons (a:EX) (as:EXs):EXs:=fun Γ=>(a Γ).bind fun x=>(as Γ).bind fun xs=>.ok (x :: xs)
@[simp] def putVs:List TV→Res (List PV)
 | []=>.ok []
 | x :: xs=>(putV x).bind fun p=>(putVs xs).bind fun ps=>.ok (p :: ps)
@[simp] def eTup (as:EXs):EX:=fun Γ=>(as Γ).bind fun xs=>(putVs xs).bind fun ps=>if ps.length≤16777216 then .ok (.fz,.tup ps) else .bad
@[simp] def eLst (as:EXs):EX:=fun Γ=>(as Γ).bind fun xs=>(putVs xs).bind fun ps=>if ps.length≤16777216 then .ok (.ow 1,.lst ps) else .bad
@[simp] def opAdd:PV→PV→Res PV
 | .int i,.int j=>.ok (.int (i+j))
 | .str a,.str b=>if a.length+b.length≤16777216 then .ok (.str (a++b)) else .bad
 | _,_=>.bad
@[simp] def opSub:PV→PV→Res PV
 | .int i,.int j=>.ok (.int (i - j))
 | _,_=>.bad
def mulOk(i j:Int):Bool:=decide (i.natAbs.log2+j.natAbs.log2 < 50000000)
@[simp] def opMul:PV→PV→Res PV
 | .int i,.int j=>if mulOk i j then .ok (.int (i * j)) else .bad
 | _,_=>.bad
@[simp] def opFdiv:PV→PV→Res PV
 | .int i,.int j=>if 0 < j∧j.natAbs.log2 < 9000 then .ok (.int (i / j)) else .bad
 | _,_=>.bad
@[simp] def opMod:PV→PV→Res PV
 | .int i,.int j=>if 0 < j then .ok (.int (i % j)) else .bad
 | _,_=>.bad
@[simp] def opPow:PV→PV→Res PV
 | .int i,.int j=>if 0≤j∧j≤1000∧i.natAbs < 2 ^ 64 then .ok (.int (i ^ j.toNat)) else .bad
 | _,_=>.bad
@[simp] def opNeg:PV→Res PV
 | .int i=>.ok (.int (-i))
 | _=>.bad
@[simp] def opLt:PV→PV→Res PV
 | .int i,.int j=>.ok (.bl (decide (i < j)))
 | _,_=>.bad
@[simp] def opLe:PV→PV→Res PV
 | .int i,.int j=>.ok (.bl (decide (i≤j)))
 | _,_=>.bad
@[simp] def opGt:PV→PV→Res PV
 | .int i,.int j=>.ok (.bl (decide (j < i)))
 | _,_=>.bad
@[simp] def opGe:PV→PV→Res PV
 | .int i,.int j=>.ok (.bl (decide (j≤i)))
 | _,_=>.bad
@[simp] def opEq (x y:PV):Res PV:=if shp 60 x && shp 60 y then .ok (.bl (eqv x y)) else .bad
@[simp] def opNe (x y:PV):Res PV:=if shp 60 x && shp 60 y then .ok (.bl (!eqv x y)) else .bad
@[simp] def isNon:PV→Bool
 | .non=>true
 | _=>false
@[simp] def opIsN (x:PV):Res PV:=.ok (.bl (isNon x))
@[simp] def opNotN (x:PV):Res PV:=.ok (.bl (!isNon x))
@[simp] def isBl (b:Bool):PV→Bool
 | .bl c=>c == b
 | _=>false
@[simp] def opIsB (b:Bool) (x:PV):Res PV:=.ok (.bl (isBl b x))
@[simp] def opNotB (b:Bool) (x:PV):Res PV:=.ok (.bl (!isBl b x))
@[simp] def opNot:PV→Res PV
 | .bl b=>.ok (.bl (!b))
 | _=>.bad
@[simp] def inB (x y:PV):Res Bool:=match y with
 | .str t=>match x with
  | .str [c]=>.ok (t.elem c)
  | _=>.bad
 | .lst l=>if shp 50 x && shpL 50 l then .ok (l.any fun z=>eqv z x) else .bad
 | .tup l=>if plainP x && l.all plainP then .ok (l.any fun z=>eqv z x) else .bad
 | _=>.bad
@[simp] def opIn (x y:PV):Res PV:=(inB x y).bind fun b=>.ok (.bl b)
@[simp] def opNotIn (x y:PV):Res PV:=(inB x y).bind fun b=>.ok (.bl (!b))
@[simp] def dn:Tg→Tg
 | .fz=>.fz
 | .bw 0=>.fz
 | .bw 1=>.fz
 | .bw (d+2)=>.bw (d+1)
 | .ow 0=>.fz
 | .ow 1=>.fz
 | .ow (d+2)=>.bw (d+1)
@[simp] def ixV (o:TV) (i:PV):Res TV:=match o,i with
 | (t,.lst l),.int k=>match vAt l k with
  | some x=>.ok (dn t,x)
  | none=>.bad
 | (_,.tup l),.int k=>match vAt l k with
  | some x=>.ok (.fz,x)
  | none=>.bad
 | (_,.str s),.int k=>match vAt s k with
  | some c=>.ok (.fz,.str [c])
  | none=>.bad
 | _,_=>.bad
@[simp] def eIdx (a b:EX):EX:=fun Γ=>(a Γ).bind fun x=>(b Γ).bind fun y=>ixV x y.2
abbrev OX:=En→Res (Option Int)
@[simp] def oNone:OX:=fun _=>.ok none
@[simp] def oSome (a:EX):OX:=fun Γ=>(a Γ).bind fun x=>match x.2 with
 | .int i=>.ok (some i)
 | _=>.bad
@[simp] def flat1:Tg→Bool
 | .fz=>true
 | .bw 0=>true
 | .bw 1=>true
 | .ow 0=>true
 | .ow 1=>true
 | _=>false
@[simp] def sliceV (o:TV) (lo hi:Option Int):Res TV:=match o with
 | (t,.lst l)=>if flat1 t then .ok (.ow 1,.lst (cutL l lo hi)) else .bad
 | (_,.tup l)=>.ok (.fz,.tup (cutL l lo hi))
 | (_,.str s)=>.ok (.fz,.str (cutL s lo hi))
 | _=>.bad
@[simp] def eSlice (a:EX) (lo hi:OX):EX:=fun Γ=>(a Γ).bind fun x=>(lo Γ).bind fun l=>(hi Γ).bind fun h=>sliceV x l h
@[simp] def addV (x y:TV):Res TV:=match x,y with
 | (t,.lst a),(u,.lst b)=>if flat1 t && flat1 u && decide (a.length+b.length≤16777216) then .ok (.ow 1,.lst (a++b)) else .bad
 | (_,.tup a),(_,.tup b)=>if a.length+b.length≤16777216 then .ok (.fz,.tup (a++b)) else .bad
 | x,y=>(opAdd x.2 y.2).bind fzv
@[simp] def eAdd (a b:EX):EX:=fun Γ=>(a Γ).bind fun x=>(b Γ).bind fun y=>addV x y
@[simp] def own1:Tg→Bool
 | .ow 1=>true
 | _=>false
def repOk(n:Nat):Int→Bool
 | .ofNat j=>Nat.ble j 1152921504606846975 && Nat.ble (n * j) 16777216
 | .negSucc j=>Nat.ble j 1152921504606846975
theorem repOk_iff{n:Nat}{k:Int}:repOk n k=true ↔ -(2 ^ 60)≤k∧k < 2 ^ 60∧n * k.toNat≤16777216:=by
 cases k with
 | ofNat j =>
  rw [repOk,Bool.and_eq_true,Nat.ble_eq,Nat.ble_eq]
  simp only [Int.ofNat_eq_natCast,Int.toNat_natCast]
  exact ⟨fun h=>⟨by omega,by omega,h.2⟩,fun h=>⟨by omega,h.2.2⟩⟩
 | negSucc j =>
  rw [repOk,Nat.ble_eq]
  have e:(Int.negSucc j).toNat=0:=rfl
  rw [e,Nat.mul_zero]
  exact ⟨fun h=>⟨by omega,by omega,by omega⟩,fun h=>by omega⟩
@[simp] def mulV (x y:TV):Res TV:=match x.2,y.2 with
 | .lst a,.int k=>if own1 x.1 && repOk a.length k then .ok (.ow 1,.lst (List.replicate k.toNat a).flatten) else .bad
 | p,q=>(opMul p q).bind fzv
@[simp] def eMul (a b:EX):EX:=fun Γ=>(a Γ).bind fun x=>(b Γ).bind fun y=>mulV x y
abbrev TX:=En→Res Bool
@[simp] def xVal (a:EX):TX:=fun Γ=>(a Γ).bind fun x=>match x.2 with
 | .bl b=>.ok b
 | _=>.bad
@[simp] def xAnd (a b:TX):TX:=fun Γ=>(a Γ).bind fun x=>if x then b Γ else .ok false
@[simp] def xOr (a b:TX):TX:=fun Γ=>(a Γ).bind fun x=>if x then .ok true else b Γ
@[simp] def xNot (a:TX):TX:=fun Γ=>(a Γ).bind fun x=>.ok (!x)
@[simp] def eTest (a:TX):EX:=fun Γ=>(a Γ).bind fun b=>.ok (.fz,.bl b)
@[simp] def eIf (t:TX) (a b:EX):EX:=fun Γ=>(t Γ).bind fun c=>if c then a Γ else b Γ
@[simp] def eAnd (a b:EX):EX:=fun Γ=>(a Γ).bind fun x=>match x.2 with
 | .bl true=>b Γ
 | .bl false=>.ok (.fz,.bl false)
 | _=>.bad
@[simp] def eOr (a b:EX):EX:=fun Γ=>(a Γ).bind fun x=>match x.2 with
 | .bl true=>.ok (.fz,.bl true)
 | .bl false=>b Γ
 | _=>.bad
abbrev FN:=List PV→Res TV
@[simp] def isBw:TV→Bool
 | (.bw 0,_)=>false
 | (.bw _,_)=>true
 | _=>false
@[simp] def stabR:TV→Bool
 | (.fz,p)=>stab p
 | (.bw _,_)=>false
 | (.ow d,p)=>stabO d p
@[simp] def eCall (f:FN) (as:EXs):EX:=fun Γ=>(as Γ).bind fun xs=>(f (xs.map (·.2))).bind fun r=>if xs.any isBw && !stabR r then .bad else .ok r
@[simp] def eLen (a:EX):EX:=fun Γ=>(a Γ).bind fun x=>match x.2 with
 | .lst l=>.ok (.fz,.int l.length)
 | .tup l=>.ok (.fz,.int l.length)
 | .str l=>.ok (.fz,.int l.length)
 | .dic _ _=>.bad
 | _=>.bad
@[simp] def eTuple (a:EX):EX:=fun Γ=>(a Γ).bind fun x=>match x with
 | (t,.lst l)=>if flat1 t then .ok (.fz,.tup l) else .bad
 | (_,.tup l)=>.ok (.fz,.tup l)
 | _=>.bad
@[simp] def eList (a:EX):EX:=fun Γ=>(a Γ).bind fun x=>match x with
 | (t,.lst l)=>if flat1 t then .ok (.ow 1,.lst l) else .bad
 | (_,.tup l)=>.ok (.ow 1,.lst l)
 | _=>.bad
def allBl:List PV→Res Bool
 | []=>.ok true
 | .bl b :: r=>(allBl r).bind fun c=>.ok (b && c)
 | _=>.bad
def anyBl:List PV→Res Bool
 | []=>.ok false
 | .bl b :: r=>(anyBl r).bind fun c=>.ok (b || c)
 | _=>.bad
def intsOf:List PV→Res (List Int)
 | []=>.ok []
 | .int i :: r=>(intsOf r).bind fun is=>.ok (i :: is)
 | _=>.bad
@[simp] def lstOf:PV→Res (List PV)
 | .lst l=>.ok l
 | _=>.bad
@[simp] def eAll (a:EX):EX:=fun Γ=>(a Γ).bind fun x=>match x.2 with
 | .lst l=>(allBl l).bind fun b=>.ok (.fz,.bl b)
 | _=>.bad
@[simp] def eAny (a:EX):EX:=fun Γ=>(a Γ).bind fun x=>match x.2 with
 | .lst l=>(anyBl l).bind fun b=>.ok (.fz,.bl b)
 | _=>.bad
@[simp] def eSum (a:EX):EX:=fun Γ=>(a Γ).bind fun x=>match x.2 with
 | .lst l=>(intsOf l).bind fun is=>.ok (.fz,.int is.sum)
 | _=>.bad
def minI:List Int→Option Int
 | []=>none
 | x :: xs=>some (xs.foldl (fun a b=>if b < a then b else a) x)
def maxI:List Int→Option Int
 | []=>none
 | x :: xs=>some (xs.foldl (fun a b=>if a < b then b else a) x)
@[simp] def eMin2 (a b:EX):EX:=eOp2 (fun x y=>match x,y with
 | .int i,.int j=>.ok (.int (if j < i then j else i))
 | _,_=>.bad) a b
@[simp] def eMax2 (a b:EX):EX:=eOp2 (fun x y=>match x,y with
 | .int i,.int j=>.ok (.int (if i < j then j else i))
 | _,_=>.bad) a b
@[simp] def eMin (a:EX):EX:=fun Γ=>(a Γ).bind fun x=>(lstOf x.2).bind fun l=>(intsOf l).bind fun is=>match minI is with
 | some m=>.ok (.fz,.int m)
 | none=>.bad
@[simp] def eMax (a:EX):EX:=fun Γ=>(a Γ).bind fun x=>(lstOf x.2).bind fun l=>(intsOf l).bind fun is=>match maxI is with
 | some m=>.ok (.fz,.int m)
 | none=>.bad
@[simp] def kindIs:String→PV→Bool
 | "tuple",.tup _=>true
 | "list",.lst _=>true
 | "str",.str _=>true
 | "int",.int _=>true
 | "int",.bl _=>true
 | "bool",.bl _=>true
 | "dict",.dic _ _=>true
 | _,_=>false
@[simp] def isExo:PV→Bool
 | .exo _ _=>true
 | _=>false
@[simp] def eIsI (a:EX) (t:String):EX:=fun Γ=>eOp1 (fun x=>if isExo x then .bad else .ok (.bl (kindIs t x))) a Γ
abbrev IX:=En→Res (Bool×List TV)
@[simp] def jSeq (a:EX):IX:=fun Γ=>(a Γ).bind fun x=>match x.2 with
 | .lst l=>match x.1 with
  | .bw d=>.ok (false,l.map fun p=>(dn (.bw d),p))
  | _=>.ok (true,l.map fun p=>(.fz,p))
 | .tup l=>.ok (true,l.map fun p=>(.fz,p))
 | .str l=>.ok (true,l.map fun c=>(.fz,.str [c]))
 | _=>.bad
def rngL(lo hi:Int):List PV:=(List.range (hi - lo).toNat).map fun (k:Nat)=>.int (lo+(k:Int))
def rngOk:Int→Bool
 | .ofNat n=>Nat.ble n 4611686018427387903
 | .negSucc n=>Nat.ble n 4611686018427387903
theorem rngOk_iff{i:Int}:rngOk i=true ↔ -(2 ^ 62)≤i∧i < 2 ^ 62:=by
 cases i with
 | ofNat n=>rw [rngOk,Nat.ble_eq]; exact ⟨fun h=>⟨by simp only [Int.ofNat_eq_natCast]; omega,by simp only [Int.ofNat_eq_natCast]; omega⟩,fun h=>by simp only [Int.ofNat_eq_natCast] at h; omega⟩
 | negSucc n=>rw [rngOk,Nat.ble_eq]; exact ⟨fun h=>⟨by omega,by omega⟩,fun h=>by omega⟩
theorem rngOk_of{i:Int}(a:-(2 ^ 62)≤i)(b:i < 2 ^ 62):rngOk i=true:=rngOk_iff.mpr ⟨a,b⟩
@[simp] def jRange (a:EX):IX:=fun Γ=>(a Γ).bind fun x=>match x.2 with
 | .int n=>if rngOk n then .ok (true,(rngL 0 n).map fun p=>(.fz,p)) else .bad
 | _=>.bad
@[simp] def jRange2 (a b:EX):IX:=fun Γ=>(a Γ).bind fun x=>(b Γ).bind fun y=>match x.2,y.2 with
 | .int m,.int n=>if rngOk m && rngOk n then .ok (true,(rngL m n).map fun p=>(.fz,p)) else .bad
 | _,_=>.bad
@[simp] def seqV (x:TV):Res (Bool×List PV):=match x.2 with
 | .lst l=>match x.1 with
  | .bw 0=>.ok (false,l)
  | .bw 1=>.ok (false,l)
  | .bw _=>.bad
  | _=>.ok (true,l)
 | .tup l=>.ok (true,l)
 | .str l=>.ok (true,l.map fun c=>.str [c])
 | _=>.bad
def enumL(l:List PV):List PV:=l.mapIdx fun i p=>.tup [.int (i:Nat),p]
def zipL(l m:List PV):List PV:=List.zipWith (fun p q=>.tup [p,q]) l m
@[simp] def jEnum (a:EX):IX:=fun Γ=>(a Γ).bind fun x=>(seqV x).bind fun y=>.ok (y.1,(enumL y.2).map fun p=>(.fz,p))
@[simp] def jZip (a b:EX):IX:=fun Γ=>(a Γ).bind fun x=>(b Γ).bind fun y=>(seqV x).bind fun l=>(seqV y).bind fun m=>.ok (l.1 && m.1,(zipL l.2 m.2).map fun p=>(.fz,p))
@[simp] def isStr:PV→Bool
 | .str _=>true
 | _=>false
@[simp] def jRev (a:EX):IX:=fun Γ=>(a Γ).bind fun x=>match isStr x.2 with
 | true=>.bad
 | false=>(seqV x).bind fun y=>.ok (y.1,y.2.reverse.map fun p=>(.fz,p))
@[simp] def jRevR (a:EX):IX:=fun Γ=>(a Γ).bind fun x=>match x.2 with
 | .int n=>if rngOk n then .ok (true,(rngL 0 n).reverse.map fun p=>(.fz,p)) else .bad
 | _=>.bad
inductive Pat where
 | v (i:Nat) | t (l:List Nat)
@[simp] def Pat.slots:Pat→List Nat
 | .v i=>[i]
 | .t l=>l
@[simp] def setAll:En→List Nat→List PV→Option En
 | Γ,[],[]=>some Γ
 | Γ,i :: is,p :: ps=>setAll (Γ.set i (some (.fz,p))) is ps
 | _,_,_=>none
@[simp] def seqP (x:TV):Option (List PV):=match x.2 with
 | .tup ps=>some ps
 | .lst ps=>if flat1 x.1 then some ps else none
 | _=>none
@[simp] def bindP (Γ:En) (x:TV):Pat→Res En
 | .v i=>match x with
  | (.bw 0,p)=>.ok (Γ.set i (some (.fz,p)))
  | (.ow d,p)=>.ok (Γ.set i (some (.bw d,p)))
  | (t,p)=>.ok (Γ.set i (some (t,p)))
 | .t is=>match seqP x with
  | some ps=>match setAll Γ is ps with
   | some Γ'=>.ok Γ'
   | none=>.bad
  | none=>.bad
def lcGo(Γ:En)(pat:Pat)(c:TX)(e:EX):List TV→Res (List PV)
 | []=>.ok []
 | x :: xs=>(bindP Γ x pat).bind fun Γ'=>(c Γ').bind fun b =>
   if b then (e Γ').bind fun y=>(putV y).bind fun p=>(lcGo Γ pat c e xs).bind fun ps=>.ok (p :: ps) else lcGo Γ pat c e xs
@[simp] def xYes:TX:=fun _=>.ok true
@[simp] def noExc {α:Type}:Res α→Res α
 | .exc _=>.bad
 | r=>r
@[simp] def eLC (own:List Nat) (it:IX) (pat:Pat) (c:TX) (e:EX):EX:=fun Γ=>(it Γ).bind fun xs =>
 (noExc (lcGo (wipeE Γ own) pat c e xs.2)).bind fun ps=>if ps.length≤16777216 then .ok (.ow 1,.lst ps) else .bad
@[simp] def opAddI:PV→PV→Res PV
 | .int i,.int j=>.ok (.int (i+j))
 | _,_=>.bad
@[simp] def intV (x:TV):Res TV:=match x.2 with
 | .int i=>.ok (.fz,.int i)
 | .bl b=>.ok (.fz,.int (if b then 1 else 0))
 | _=>.bad
@[simp] def eInt (a:EX):EX:=fun Γ=>(a Γ).bind intV
@[simp] def opMax2:PV→PV→Res PV
 | .int i,.int j=>.ok (.int (if j > i then j else i))
 | _,_=>.bad
@[simp] def opMin2:PV→PV→Res PV
 | .int i,.int j=>.ok (.int (if j < i then j else i))
 | _,_=>.bad
def strsOf:List PV→Option (List (List Nat))
 | []=>some []
 | .str l :: r=>(strsOf r).map (l :: ·)
 | _ :: _=>none
@[simp] theorem strsOf_map:∀ ws:List (List Nat),strsOf (ws.map PV.str)=some ws
 | []=>rfl
 | w :: ws=>by rw [List.map_cons,strsOf,strsOf_map ws]; rfl
def joinL(sep:List Nat):List (List Nat)→List Nat
 | []=>[]
 | [w]=>w
 | w :: v :: r=>w++sep++joinL sep (v :: r)
@[simp] def listOf:PV→Option (List PV)
 | .lst l=>some l
 | .tup l=>some l
 | _=>none
@[simp] def eTxt (f:List Nat→TV→Res TV) (a b:EX):EX:=fun Γ=>(a Γ).bind fun x=>match x.2 with
 | .str s=>(b Γ).bind fun y=>f s y
 | _=>.bad
@[simp] def joinV (s:List Nat) (y:TV):Res TV:=match listOf y.2 with
 | some l=>match strsOf l with
  | some ws=>if (ws.map (·.length)).sum+ws.length * s.length≤16777216 then .ok (.fz,.str (joinL s ws)) else .bad
  | none=>.bad
 | none=>.bad
def splS(Y:List Nat):List Nat→Nat→List Nat→List (List Nat)
 | [],_,acc=>[acc.reverse]
 | c :: S,0,acc=>if Y.isPrefixOf (c :: S) then acc.reverse :: splS Y S (Y.length - 1) [] else splS Y S 0 (c :: acc)
 | _ :: S,n+1,acc=>splS Y S n acc
@[simp] def splitV (s:List Nat) (y:TV):Res TV:=match y.2 with
 | .str (c :: Y)=>if s.length+2≤16777216 then .ok (.ow 1,.lst ((splS (c :: Y) s 0 []).map .str)) else .bad
 | _=>.bad
def firstIx{α:Type}(p:α→Bool):List α→Option Nat
 | []=>none
 | x :: xs=>if p x then some 0 else (firstIx p xs).map (· + 1)
@[simp] def indexSV (s:List Nat) (y:TV):Res TV:=match y.2 with
 | .str [c]=>match firstIx (· == c) s with
  | some k=>.ok (.fz,.int k)
  | none=>.bad
 | _=>.bad
@[simp] def eIndexL (a b:EX):EX:=fun Γ=>(a Γ).bind fun x=>match x.2 with
 | .lst l=>(b Γ).bind fun y=>match plainP y.2 && l.all plainP with
  | true=>match firstIx (fun z=>eqv z y.2) l with
   | some k=>.ok (.fz,.int k)
   | none=>.bad
  | false=>.bad
 | _=>.bad
inductive Out where
 | nx (Γ:En) | rt (t:Tg) (p:PV) (Γ:En) | bk (Γ:En) | ct (Γ:En) | exc (c:Nat) (Γ:En) | bad
abbrev ST:=En→Out
@[simp] def Out.then (o:Out) (f:ST):Out:=match o with
 | .nx Γ=>f Γ
 | o=>o
@[simp] def aft {α:Type} (r:Res α) (Γ:En) (f:α→Out):Out:=match r with
 | .ok a=>f a
 | .exc c=>.exc c Γ
 | .bad=>.bad
theorem after_ok{α:Type}(a:α)(Γ:En)(f:α→Out):aft (.ok a) Γ f=f a:=rfl
@[simp] def dNil:ST:=fun Γ=>.nx Γ
@[simp] def dSeq (a b:ST):ST:=fun Γ=>(a Γ).then b
@[simp] def dSet (i:Nat) (e:EX):ST:=fun Γ=>aft (e Γ) Γ fun x=>aft (putV x) Γ fun p=>.nx (Γ.set i (some (.fz,p)))
@[simp] def dSetO (i:Nat) (e:EX):ST:=fun Γ=>aft (e Γ) Γ fun x=>match x with
 | (.ow d,p)=>.nx (Γ.set i (some (.ow d,p)))
 | _=>.bad
@[simp] def dSetT (is:List Nat) (e:EX):ST:=fun Γ=>aft (e Γ) Γ fun x=>aft (putV x) Γ fun p=>aft (bindP Γ (.fz,p) (.t is)) Γ .nx
@[simp] def dAug (op:PV→PV→Res PV) (i:Nat) (e:EX):ST:=fun Γ=>match Γ.get i with
 | some (.fz,p)=>aft (e Γ) Γ fun x=>aft (op p x.2) Γ fun z=>.nx (Γ.set i (some (.fz,z)))
 | _=>.bad
@[simp] def dIf (t:TX) (a b:ST):ST:=fun Γ=>aft (t Γ) Γ fun c=>if c then a Γ else b Γ
@[simp] def dRet (e:EX):ST:=fun Γ=>aft (e Γ) Γ fun x=>match x with
 | (.bw 0,p)=>.rt .fz p Γ
 | (.bw _,_)=>.bad
 | (t,p)=>.rt t p Γ
@[simp] def dRetV (i:Nat):ST:=fun Γ=>match Γ.get i with
 | some (.bw _,_)=>.bad
 | some (t,p)=>.rt t p Γ
 | none=>.bad
@[simp] def dRetN:ST:=fun Γ=>.rt .fz .non Γ
@[simp] def dRaise (c:Nat):ST:=fun Γ=>.exc c Γ
@[simp] def dBreak:ST:=fun Γ=>.bk Γ
@[simp] def dCont:ST:=fun Γ=>.ct Γ
@[simp] def dEx (e:EX):ST:=fun Γ=>aft (e Γ) Γ fun _=>.nx Γ
@[simp] def dFrz (i:Nat) (rest:ST):ST:=fun Γ=>match Γ.get i with
 | some (.ow _,p)=>rest (Γ.set i (some (.fz,p)))
 | some (.fz,p)=>rest Γ
 | _=>.bad
@[simp] def dForget (is:List Nat) (rest:ST):ST:=fun Γ=>rest (wipeE Γ is)
@[simp] def dApp (i:Nat) (e:EX):ST:=fun Γ=>match Γ.get i with
 | some (.ow 1,.lst l)=>aft (e Γ) Γ fun x=>aft (putV x) Γ fun p=>if l.length < 16777216 then .nx (Γ.set i (some (.ow 1,.lst (l++[p])))) else .bad
 | _=>.bad
@[simp] def dExt (i:Nat) (e:EX):ST:=fun Γ=>match Γ.get i with
 | some (.ow 1,.lst l)=>aft (e Γ) Γ fun x=>match x.2 with
  | .lst m=>if flat1 x.1 && decide (l.length+m.length≤16777216) then .nx (Γ.set i (some (.ow 1,.lst (l++m)))) else .bad
  | .tup m=>if l.length+m.length≤16777216 then .nx (Γ.set i (some (.ow 1,.lst (l++m)))) else .bad
  | _=>.bad
 | _=>.bad
@[simp] def dSetIx (i:Nat) (j e:EX):ST:=fun Γ=>match Γ.get i with
 | some (.ow 1,.lst l)=>aft (e Γ) Γ fun x=>aft (j Γ) Γ fun y=>aft (putV x) Γ fun p=>match y.2 with
  | .int k=>match vIxN l.length k with
   | some n=>.nx (Γ.set i (some (.ow 1,.lst (l.set n p))))
   | none=>.bad
  | _=>.bad
 | _=>.bad
@[simp] def dRev (i:Nat):ST:=fun Γ=>match Γ.get i with
 | some (.ow 1,.lst l)=>.nx (Γ.set i (some (.ow 1,.lst l.reverse)))
 | _=>.bad
def forL(pat:Pat)(ws:List Nat)(body:ST):List TV→ST
 | [],Γ=>.nx Γ
 | x :: xs,Γ=>match bindP Γ x pat with
  | .ok Γ'=>match body Γ' with
   | .nx Γ2=>forL pat ws body xs (wipeE Γ2 ws)
   | .ct Γ2=>forL pat ws body xs (wipeE Γ2 ws)
   | .bk Γ2=>.nx (wipeE Γ2 ws)
   | o=>o
  | _=>.bad
@[simp] def dFor (it:IX) (pat:Pat) (ws:List Nat) (body:ST):ST:=fun Γ=>aft (it Γ) Γ fun xs=>if xs.1 then forL pat ws body xs.2 (wipeE Γ ws) else .bad
def runFn(np ns:Nat)(body:ST):FN:=fun args=>if args.length=np then
  match body (args.map (fun p=>some (.fz,p))++List.replicate (ns - np) none) with
  | .nx _=>.ok (.fz,.non)
  | .rt t p _=>.ok (t,p)
  | .exc c _=>.exc c
  | _=>.bad
 else .bad
end Vm
end
section
set_option linter.all false
namespace Vm
abbrev Tk:=Int ⊕ List Nat
mutual
def toks:PV→List Tk
 | .bl b=>[.inl (if b then 1 else 0)]
 | .int n=>[.inl n]
 | .str l=>[.inr l]
 | .tup l=>toksL l
 | .lst l=>toksL l
 | _=>[]
def toksL:List PV→List Tk
 | []=>[.inl 0]
 | x :: xs=>.inl 1 :: (toks x++toksL xs)
end
def tkLt:Tk→Tk→Bool
 | .inl a,.inl b=>decide (a < b)
 | .inl _,.inr _=>true
 | .inr _,.inl _=>false
 | .inr a,.inr b=>decide (a < b)
def lexT:List Tk→List Tk→Bool
 | [],[]=>false
 | [],_ :: _=>true
 | _ :: _,[]=>false
 | x :: r,y :: t=>tkLt x y || (!tkLt y x && lexT r t)
def ltv(p q:PV):Bool:=lexT (toks p) (toks q)
mutual
def alk:PV→PV→Bool
 | .bl _,.bl _=>true
 | .int _,.int _=>true
 | .str _,.str _=>true
 | .lst xs,.lst ys=>alkL xs ys
 | .tup xs,.tup ys=>alkL xs ys
 | .non,.non=>true
 | _,_=>false
def alkL:List PV→List PV→Bool
 | x :: xs,y :: ys=>alk x y && alkL xs ys
 | [],_=>true
 | _ :: _,[]=>true
end
def ordOk(l:List PV):Bool:=l.all (fun x=>!isNon x && l.all (fun y=>alk x y)) && shpL 50 l
def minP(x:PV)(xs:List PV):PV:=xs.foldl (fun a y=>if ltv y a then y else a) x
def maxP(x:PV)(xs:List PV):PV:=xs.foldl (fun a y=>if ltv a y then y else a) x
@[simp] def itemsV (x:TV):Res (List PV):=match x with
 | (t,.lst l)=>if flat1 t then .ok l else .bad
 | (_,.tup l)=>.ok l
 | _=>.bad
@[simp] def bestV (f:PV→List PV→PV) (x:TV):Res TV:=(itemsV x).bind fun l=>match l with
 | y :: ys=>if ordOk (y :: ys) then .ok (.fz,f y ys) else .bad
 | []=>.bad
@[simp] def eMinD (a:EX):EX:=fun Γ=>(a Γ).bind (bestV minP)
@[simp] def eMaxD (a:EX):EX:=fun Γ=>(a Γ).bind (bestV maxP)
@[simp] def bestDV (f:PV→List PV→PV) (x:TV) (d:PV):Res TV:=(itemsV x).bind fun l=>match l with
 | y :: ys=>if ordOk (y :: ys) then .ok (.fz,f y ys) else .bad
 | []=>if plainP d then .ok (.fz,d) else .bad
@[simp] def eMinDf (a b:EX):EX:=fun Γ=>(a Γ).bind fun x=>(b Γ).bind fun d=>bestDV minP x d.2
@[simp] def eMaxDf (a b:EX):EX:=fun Γ=>(a Γ).bind fun x=>(b Γ).bind fun d=>bestDV maxP x d.2
def srtOk(l:List PV):Bool:=ordOk l && (l.all (fun x=>match x with | .tup (_ :: _)=>true | _=>false) || l.all (fun x=>match x with | .tup _=>false | _=>true))
def sortP(l:List PV):List PV:=l.mergeSort fun a b=>!ltv b a
@[simp] def sortV (x:TV):Res TV:=match x with
 | (t,.lst l)=>if flat1 t && srtOk l && decide (l.length≤16777216) then .ok (.ow 1,.lst (sortP l)) else .bad
 | _=>.bad
@[simp] def eSorted (a:EX):EX:=fun Γ=>(a Γ).bind sortV
@[simp] def eChain (op op':PV→PV→Res PV) (a b c:EX):EX:=fun Γ=>(a Γ).bind fun x=>(b Γ).bind fun y=>(op x.2 y.2).bind fun z=>match z with
 | .bl true=>(c Γ).bind fun w=>(op' y.2 w.2).bind fzv
 | .bl false=>.ok (.fz,.bl false)
 | _=>.bad
@[simp] def opShl:PV→PV→Res PV
 | .int i,.int j=>if 0≤j∧j≤1000∧i.natAbs < 2 ^ 64 then .ok (.int (i * 2 ^ j.toNat)) else .bad
 | _,_=>.bad
@[simp] def revV (o:TV):Res TV:=match o with
 | (t,.lst l)=>if flat1 t then .ok (.ow 1,.lst l.reverse) else .bad
 | (_,.tup l)=>.ok (.fz,.tup l.reverse)
 | _=>.bad
@[simp] def eRevS (a:EX):EX:=fun Γ=>(a Γ).bind revV
def stepN(i j c:Int):Nat:=((j - i+c - 1) / c).toNat
def stepL(i j c:Int):List PV:=(List.range (stepN i j c)).map fun (k:Nat)=>.int (i+(k:Int) * c)
@[simp] def jRange3 (a b c:EX):IX:=fun Γ=>(a Γ).bind fun x=>(b Γ).bind fun y=>(c Γ).bind fun z=>match x.2,y.2,z.2 with
 | .int i,.int j,.int k=>if 0 < k∧k < 1073741824∧0≤i∧i < 1073741824∧0≤j∧j < 1073741824 then .ok (true,(stepL i j k).map fun p=>(.fz,p)) else .bad
 | _,_,_=>.bad
def natS(n:Nat):List Nat:=(Nat.toDigits 10 n).map Char.toNat
@[simp] def strV (x:TV):Res TV:=match x.2 with
 | .int (.ofNat n)=>if n.log2 < 1920 then .ok (.fz,.str (natS n)) else .bad
 | .str s=>.ok (.fz,.str s)
 | _=>.bad
@[simp] def eStr (a:EX):EX:=fun Γ=>(a Γ).bind strV
def figN(l:List Nat):Nat:=l.foldl (fun n c=>n * 10+(c - 48)) 0
def isFig(c:Nat):Bool:=Nat.ble 48 c && Nat.ble c 57
@[simp] def intTV (x:TV):Res TV:=match x.2 with
 | .str s=>if s ≠ []∧s.all isFig∧s.length≤640 then .ok (.fz,.int (figN s)) else .bad
 | x=>intV (.fz,x)
@[simp] def eIntT (a:EX):EX:=fun Γ=>(a Γ).bind intTV
def partS(Y:List Nat):List Nat→List Nat→List (List Nat)
 | [],acc=>[acc.reverse,[],[]]
 | c :: S,acc=>if Y.isPrefixOf (c :: S) then [acc.reverse,Y,(c :: S).drop Y.length] else partS Y S (c :: acc)
@[simp] def partV (s:List Nat) (y:TV):Res TV:=match y.2 with
 | .str (c :: Y)=>if s.length≤16777216 then .ok (.fz,.tup ((partS (c :: Y) s []).map .str)) else .bad
 | _=>.bad
end Vm
end
section
set_option linter.all false
set_option maxHeartbeats 1000000
namespace Vm
@[simp] def stepOut (ws:List Nat):Out→Option En
 | .nx Γ=>some (wipeE Γ ws)
 | .ct Γ=>some (wipeE Γ ws)
 | _=>none
@[simp] def turn (pat:Pat) (ws:List Nat) (body:ST) (Γ:En) (x:TV):Option En:=match bindP Γ x pat with
 | .ok Γ1=>stepOut ws (body Γ1)
 | _=>none
@[simp] def lcOne (Γ:En) (pat:Pat) (c:TX) (e:EX) (x:TV):Option (Option PV):=match bindP Γ x pat with
 | .ok Γ1=>match c Γ1 with
  | .ok true=>match e Γ1 with
   | .ok y=>match putV y with
    | .ok p=>some (some p)
    | _=>none
   | _=>none
  | .ok false=>some none
  | _=>none
 | _=>none
theorem lcGo_one{Γ:En}{pat:Pat}{c:TX}{e:EX}{x:TV}{xs:List TV}{o:Option PV}{r:List PV}(h:lcOne Γ pat c e x=some o)(h2:lcGo Γ pat c e xs = .ok r):lcGo Γ pat c e (x :: xs) = .ok (o.toList++r):=by
 unfold lcOne at h
 unfold lcGo
 cases e1:bindP Γ x pat with
 | ok Γ1 =>
  rw [e1] at h
  simp only at h
  rw [bind_ok]
  cases e2:c Γ1 with
  | ok b =>
   rw [e2] at h
   rw [bind_ok]
   cases b with
   | true =>
    simp only at h
    rw [if_pos rfl]
    cases e3:e Γ1 with
    | ok y =>
     rw [e3] at h
     simp only at h
     rw [bind_ok]
     cases e4:putV y with
     | ok p=>rw [e4] at h; simp only [Option.some.injEq] at h; subst h; rw [bind_ok,h2,bind_ok]; rfl
     | _=>rw [e4] at h; cases h
    | _=>rw [e3] at h; cases h
   | false =>
    simp only [Option.some.injEq] at h
    subst h
    rw [if_neg (by simp)]
    exact h2
  | _=>rw [e2] at h; cases h
 | _=>rw [e1] at h; cases h
theorem lcGo_map{α:Type}{Γ:En}{pat:Pat}{c:TX}{e:EX}(enc:α→TV)(g:α→PV):∀ xs:List α,(∀ x∈xs,lcOne Γ pat c e (enc x)=some (some (g x)))→lcGo Γ pat c e (xs.map enc) = .ok (xs.map g)
 | [],_=>rfl
 | x :: xs,h=>lcGo_one (h x (by simp)) (lcGo_map enc g xs fun z hz=>h z (by simp [hz]))
theorem map_map{α:Type}(f:α→PV)(xs:List α):(xs.map f).map (fun p=>((.fz,p):TV))=xs.map fun x=>(.fz,f x):=by rw [List.map_map]; rfl
theorem rng0_eq(hi:Int):(rngL 0 hi).map (fun p=>((.fz,p):TV))=(List.range hi.toNat).map fun (k:Nat)=>(.fz,.int (k:Int)):=by unfold rngL; rw [List.map_map,Int.sub_zero]; exact List.map_congr_left fun k _=>by show ((Tg.fz,PV.int (0+(k:Int))):TV)=_; rw [Int.zero_add]
theorem vAt_int{α:Type}{xs:List α}{i:Int}(h0:0≤i)(h1:i < xs.length):vAt xs i=some (xs[i.toNat]'(by omega)):=by
 unfold vAt vIxN
 rw [if_pos h0,if_pos h1]
 simp [List.getElem?_eq_getElem (show i.toNat < xs.length by omega)]
theorem vAt_map{α β:Type}(f:α→β)(xs:List α)(i:Int):vAt (xs.map f) i=(vAt xs i).map f:=by
 unfold vAt
 rw [List.length_map]
 cases vIxN xs.length i with
 | none=>rfl
 | some j=>show (xs.map f)[j]? = (xs[j]?).map f; rw [List.getElem?_map]
theorem vSix_nat{n d:Nat}{i:Int}(h:0≤i):vSix n d (some i)=min i.toNat n:=by
 show (if i < 0 then _ else _)=_
 rw [if_neg (by omega)]
theorem cut_take{α:Type}{xs:List α}{i:Int}(h:0≤i):cutL xs none (some i)=xs.take i.toNat:=by
 show (xs.drop 0).take (vSix xs.length xs.length (some i) - 0)=_
 rw [vSix_nat h,List.drop_zero,Nat.sub_zero]
 by_cases hl:i.toNat≤xs.length
 ·rw [Nat.min_eq_left hl]
 ·rw [Nat.min_eq_right (by omega),List.take_length,List.take_of_length_le (by omega)]
theorem cut_drop{α:Type}{xs:List α}{i:Int}(h:0≤i):cutL xs (some i) none=xs.drop i.toNat:=by
 show (xs.drop (vSix xs.length 0 (some i))).take (xs.length - vSix xs.length 0 (some i))=_
 rw [vSix_nat h]
 by_cases hl:i.toNat≤xs.length
 ·rw [Nat.min_eq_left hl]; exact List.take_of_length_le (by rw [List.length_drop]; omega)
 ·rw [Nat.min_eq_right (by omega),List.drop_of_length_le (by omega:xs.length≤xs.length),List.drop_of_length_le (by omega)]; simp
theorem cut_map{α β:Type}(f:α→β)(xs:List α)(lo hi:Option Int):cutL (xs.map f) lo hi=(cutL xs lo hi).map f:=by
 unfold cutL
 rw [List.length_map,List.map_take,List.map_drop]
theorem log2_lt_pow{a n:Nat}(h:a < 2 ^ n):a.log2≤n:=by
 by_cases ha:a=0
 ·subst ha; rw [Nat.log2_zero]; exact Nat.zero_le _
 ·exact Nat.le_of_lt ((Nat.log2_lt ha).mpr h)
theorem mulOk_of{a b:Int}{m n:Nat}(ha:a.natAbs < 2 ^ m)(hb:b.natAbs < 2 ^ n)(h:m+n < 50000000):mulOk a b=true:=by
 have h1:=log2_lt_pow ha
 have h2:=log2_lt_pow hb
 exact decide_eq_true (by omega)
end Vm
end
section
set_option linter.all false
set_option maxHeartbeats 1000000
namespace Vm
@[simp] def stopOut:Out→Option Out
 | .rt t p Γ=>some (.rt t p Γ)
 | .exc c Γ=>some (.exc c Γ)
 | _=>none
@[simp] def halt (pat:Pat) (body:ST) (Γ:En) (x:TV):Option Out:=match bindP Γ x pat with
 | .ok Γ1=>stopOut (body Γ1)
 | _=>none
theorem rng0_eq'(m:Nat):(rngL 0 (m:Int)).map (fun p=>((.fz,p):TV))=(List.range m).map fun (k:Nat)=>(.fz,.int (k:Int)):=by rw [rng0_eq]; rfl
end Vm
end
section
set_option linter.all false
set_option maxHeartbeats 1000000
set_option maxRecDepth 10000
namespace Vm
def RefG{α β:Type}(f:α→β)(o:Res β):Res α→Prop
 | .ok a=>o = .ok (f a)
 | .exc c=>o = .exc c
 | .bad=>True
section
variable {α β γ δ ι κ σ τ ρ:Type} {f:α→β} {g:γ→δ} {o:Res β} {r:Res α}
theorem RefG.bind{F:β→Res δ}{k:α→Res γ}(h:RefG f o r)(q:∀ a,RefG g (F (f a)) (k a)):RefG g (o.bind F) (r.bind k):=by
 cases r with
 | ok a =>
  have h:o = .ok (f a):=h
  rw [h]; exact q a
 | exc c =>
  have h:o = .exc c:=h
  rw [h]; exact rfl
 | bad=>exact trivial
theorem RefG.self{o:Res β}:RefG id o o:=by cases o <;> first | exact rfl | exact trivial
theorem RefG.ok{a:α}{o:Res β}(h:o = .ok (f a)):RefG f o (.ok a):=h
theorem RefG.eq{a:α}(h:RefG f o r)(e:r = .ok a):o = .ok (f a):=by rw [e] at h; exact h
theorem RefG.bad{o:Res β}:RefG f o .bad:=trivial
@[simp] def Res.map (f:α→β) (r:Res α):Res β:=r.bind fun a=>.ok (f a)
theorem bind_assoc(r:Res α)(f:α→Res β)(g:β→Res γ):(r.bind f).bind g=r.bind fun a=>(f a).bind g:=by cases r <;> rfl
theorem RefG.co{f':γ→β}{c:α→γ}(h:RefG f o r)(e:∀ a,f' (c a)=f a):RefG f' o (r.map c):=by
 cases r with
 | ok a =>
  have h:o = .ok (f a):=h
  rw [h,← e a]; exact rfl
 | exc c=>exact h
 | bad=>exact trivial
end
@[simp] def kI:Int→PV:=.int
@[simp] def kB:Bool→PV:=.bl
@[simp] def kS:List Nat→PV:=.str
@[simp] def kN:Unit→PV:=fun _=>.non
@[simp] def kV:PV→PV:=fun p=>p
@[simp] def kO {α:Type} (k:α→PV):Option α→PV
 | none=>.non
 | some a=>k a
@[simp] def kL {α:Type} (k:α→PV) (l:List α):PV:=.lst (l.map k)
@[simp] def kT {α:Type} (k:α→PV) (l:List α):PV:=.tup (l.map k)
@[simp] def kP1 {α:Type} (a:α→PV) (x:α):PV:=.tup [a x]
@[simp] def kP2 {α β:Type} (a:α→PV) (b:β→PV) (x:α×β):PV:=.tup [a x.1,b x.2]
@[simp] def kP3 {α β γ:Type} (a:α→PV) (b:β→PV) (c:γ→PV) (x:α×β×γ):PV:=.tup [a x.1,b x.2.1,c x.2.2]
@[simp] def kP4 {α β γ δ:Type} (a:α→PV) (b:β→PV) (c:γ→PV) (d:δ→PV) (x:α×β×γ×δ):PV:=.tup [a x.1,b x.2.1,c x.2.2.1,d x.2.2.2]
@[simp] def kP5 {α β γ δ ε:Type} (a:α→PV) (b:β→PV) (c:γ→PV) (d:δ→PV) (e:ε→PV) (x:α×β×γ×δ×ε):PV:=.tup [a x.1,b x.2.1,c x.2.2.1,d x.2.2.2.1,e x.2.2.2.2]
@[simp] def kQ1 {α:Type} (a:α→PV) (x:α):PV:=.lst [a x]
@[simp] def kQ2 {α β:Type} (a:α→PV) (b:β→PV) (x:α×β):PV:=.lst [a x.1,b x.2]
@[simp] def kQ3 {α β γ:Type} (a:α→PV) (b:β→PV) (c:γ→PV) (x:α×β×γ):PV:=.lst [a x.1,b x.2.1,c x.2.2]
@[simp] def kQ4 {α β γ δ:Type} (a:α→PV) (b:β→PV) (c:γ→PV) (d:δ→PV) (x:α×β×γ×δ):PV:=.lst [a x.1,b x.2.1,c x.2.2.1,d x.2.2.2]
abbrev tv{α:Type}(t:Tg)(k:α→PV)(a:α):TV:=(t,k a)
class Enc {α:Type} [DecidableEq α] (k:α→PV) where
 d:Nat
 eq:∀ a b,eqv (k a) (k b)=decide (a=b)
 sh:∀ n,d≤n→∀ a,shp n (k a)=true
class NN {α:Type} (k:α→PV):Prop where
 n:∀ a,k a ≠ .non
theorem eqv_non_l{p:PV}(h:p ≠ .non):eqv .non p=false:=by cases p <;> first | rfl | exact absurd rfl h
theorem eqv_non_r{p:PV}(h:p ≠ .non):eqv p .non=false:=by cases p <;> first | rfl | exact absurd rfl h
theorem isNon_f{p:PV}(h:p ≠ .non):isNon p=false:=by cases p <;> first | rfl | exact absurd rfl h
instance:Enc kI where
 d:=0
 eq:=fun a b=>by simp only [kI,eqv]; rw [Bool.eq_iff_iff]; simp
 sh:=fun n _ a=>by cases n <;> rfl
instance:Enc kB where
 d:=0
 eq:=fun a b=>by cases a <;> cases b <;> rfl
 sh:=fun n _ a=>by cases n <;> rfl
instance:Enc kS where
 d:=0
 eq:=fun a b=>by simp only [kS,eqv]; rw [Bool.eq_iff_iff]; simp
 sh:=fun n _ a=>by cases n <;> rfl
instance:Enc kN where
 d:=0
 eq:=fun a b=>rfl
 sh:=fun n _ a=>by cases n <;> rfl
instance:NN kI:=⟨fun a h=>by cases h⟩
instance:NN kB:=⟨fun a h=>by cases h⟩
instance:NN kS:=⟨fun a h=>by cases h⟩
section
variable {α β γ δ ε:Type} [DecidableEq α] [DecidableEq β] [DecidableEq γ] [DecidableEq δ] [DecidableEq ε] {a:α→PV} {b:β→PV} {c:γ→PV} {d:δ→PV} {e:ε→PV}
instance {k:α→PV}:NN (kL k):=⟨fun a h=>by cases h⟩
instance {k:α→PV}:NN (kT k):=⟨fun a h=>by cases h⟩
instance:NN (kP1 a):=⟨fun a h=>by cases h⟩
instance:NN (kP2 a b):=⟨fun a h=>by cases h⟩
instance:NN (kP3 a b c):=⟨fun a h=>by cases h⟩
instance:NN (kP4 a b c d):=⟨fun a h=>by cases h⟩
instance:NN (kP5 a b c d e):=⟨fun a h=>by cases h⟩
instance:NN (kQ1 a):=⟨fun a h=>by cases h⟩
instance:NN (kQ2 a b):=⟨fun a h=>by cases h⟩
instance:NN (kQ3 a b c):=⟨fun a h=>by cases h⟩
instance [Enc a] [NN a]:Enc (kO a) where
 d:=Enc.d a
 eq:=fun x y=>by
  cases x <;> cases y <;> simp only [kO]
  ·rfl
  ·rw [eqv_non_l (NN.n _)]; simp
  ·rw [eqv_non_r (NN.n _)]; simp
  ·rw [Enc.eq]; simp
 sh:=fun n h x=>by
  cases x
  ·cases n <;> rfl
  ·exact Enc.sh n h _
theorem eqvL_enc[Enc a]:∀ l m:List α,eqvL (l.map a) (m.map a)=decide (l=m)
 | [],[]=>rfl
 | [],_ :: _=>rfl
 | _ :: _,[]=>rfl
 | x :: l,y :: m=>by
  rw [List.map_cons,List.map_cons,eqvL,Enc.eq,eqvL_enc l m,Bool.eq_iff_iff]
  simp
theorem shpL_enc[Enc a](n:Nat)(h:Enc.d a≤n):∀ l:List α,shpL n (l.map a)=true
 | []=>by rw [List.map_nil,shpL]
 | x :: l=>by rw [List.map_cons,shpL,Enc.sh n h,shpL_enc n h l]; rfl
instance [Enc a]:Enc (kL a) where
 d:=Enc.d a+1
 eq:=fun x y=>by simp only [kL,eqv]; exact eqvL_enc x y
 sh:=fun n h x=>by
  cases n with
  | zero=>omega
  | succ n=>simp only [kL,shp]; exact shpL_enc n (by omega) x
instance [Enc a]:Enc (kT a) where
 d:=Enc.d a+1
 eq:=fun x y=>by simp only [kT,eqv]; exact eqvL_enc x y
 sh:=fun n h x=>by
  cases n with
  | zero=>omega
  | succ n=>simp only [kT,shp]; exact shpL_enc n (by omega) x
instance [Enc a]:Enc (kP1 a) where
 d:=Enc.d a+1
 eq:=fun x y=>by simp only [kP1,eqv,eqvL,Enc.eq,Bool.and_true]
 sh:=fun n h x=>by
  cases n with
  | zero=>omega
  | succ n=>simp only [kP1,shp,shpL,Enc.sh (k:=a) n (by omega),Bool.and_true]
instance [Enc a] [Enc b]:Enc (kP2 a b) where
 d:=max (Enc.d a) (Enc.d b)+1
 eq:=fun x y=>by
  simp only [kP2,eqv,eqvL,Enc.eq,Bool.and_true]; rw [Bool.eq_iff_iff]; simp [Prod.ext_iff]
 sh:=fun n h x=>by
  cases n with
  | zero=>omega
  | succ n=>simp only [kP2,shp,shpL,Enc.sh (k:=a) n (by omega),Enc.sh (k:=b) n (by omega),Bool.and_true]
instance [Enc a] [Enc b] [Enc c]:Enc (kP3 a b c) where
 d:=max (Enc.d a) (max (Enc.d b) (Enc.d c))+1
 eq:=fun x y=>by
  simp only [kP3,eqv,eqvL,Enc.eq,Bool.and_true]; rw [Bool.eq_iff_iff]; simp [Prod.ext_iff]
 sh:=fun n h x=>by
  cases n with
  | zero=>omega
  | succ n=>simp only [kP3,shp,shpL,Enc.sh (k:=a) n (by omega),Enc.sh (k:=b) n (by omega),Enc.sh (k:=c) n (by omega),Bool.and_true]
instance [Enc a] [Enc b] [Enc c] [Enc d]:Enc (kP4 a b c d) where
 d:=max (Enc.d a) (max (Enc.d b) (max (Enc.d c) (Enc.d d)))+1
 eq:=fun x y=>by
  simp only [kP4,eqv,eqvL,Enc.eq,Bool.and_true]; rw [Bool.eq_iff_iff]; simp [Prod.ext_iff]
 sh:=fun n h x=>by
  cases n with
  | zero=>omega
  | succ n=>simp only [kP4,shp,shpL,Enc.sh (k:=a) n (by omega),Enc.sh (k:=b) n (by omega),Enc.sh (k:=c) n (by omega),Enc.sh (k:=d) n (by omega),Bool.and_true]
instance [Enc a]:Enc (kQ1 a) where
 d:=Enc.d a+1
 eq:=fun x y=>by simp only [kQ1,eqv,eqvL,Enc.eq,Bool.and_true]
 sh:=fun n h x=>by
  cases n with
  | zero=>omega
  | succ n=>simp only [kQ1,shp,shpL,Enc.sh (k:=a) n (by omega),Bool.and_true]
instance [Enc a] [Enc b]:Enc (kQ2 a b) where
 d:=max (Enc.d a) (Enc.d b)+1
 eq:=fun x y=>by
  simp only [kQ2,eqv,eqvL,Enc.eq,Bool.and_true]; rw [Bool.eq_iff_iff]; simp [Prod.ext_iff]
 sh:=fun n h x=>by
  cases n with
  | zero=>omega
  | succ n=>simp only [kQ2,shp,shpL,Enc.sh (k:=a) n (by omega),Enc.sh (k:=b) n (by omega),Bool.and_true]
end
end Vm
end
section
set_option linter.all false
set_option maxHeartbeats 1000000
set_option maxRecDepth 10000
namespace Vm
def ixR{α:Type}(l:List α)(i:Int):Res α:=match vAt l i with
 | some x=>.ok x
 | none=>.bad
def getO{α:Type}:Option α→Res α
 | some a=>.ok a
 | none=>.bad
def mulR(i j:Int):Res Int:=if mulOk i j then .ok (i * j) else .bad
def modR(i j:Int):Res Int:=if 0 < j then .ok (i % j) else .bad
def szR{α:Type}(l:List α):Res (List α):=if l.length≤16777216 then .ok l else .bad
def appR{α:Type}(l:List α)(x:α):Res (List α):=if l.length < 16777216 then .ok (l++[x]) else .bad
def catR{α:Type}(l m:List α):Res (List α):=if l.length+m.length≤16777216 then .ok (l++m) else .bad
def rngI(lo hi:Int):List Int:=(List.range (hi - lo).toNat).map fun (k:Nat)=>lo+(k:Int)
def rngR(hi:Int):Res (List Int):=if rngOk hi then .ok (rngI 0 hi) else .bad
def setR{α:Type}(l:List α)(i:Int)(x:α):Res (List α):=match vIxN l.length i with
 | some n=>.ok (l.set n x)
 | none=>.bad
def enumT{α:Type}(l:List α):List (Int×α):=l.mapIdx fun i x=>((i:Int),x)
def joinR(s:List Nat)(ws:List (List Nat)):Res (List Nat):=if (ws.map (·.length)).sum+ws.length * s.length≤16777216 then .ok (joinL s ws) else .bad
def splitR(s y:List Nat):Res (List (List Nat)):=if 0 < y.length∧s.length+2≤16777216 then .ok (splS y s 0 []) else .bad
def signIn(x t:List Nat):Res Bool:=match x with
 | [c]=>.ok (t.elem c)
 | _=>.bad
def memB{α:Type}[DecidableEq α](x:α)(l:List α):Bool:=decide (x∈l)
theorem memB_iff{α:Type}[DecidableEq α]{x:α}{l:List α}:memB x l=true ↔ x∈l:=by unfold memB; exact decide_eq_true_iff
def lcR{ι α:Type}(c:ι→Res Bool)(f:ι→Res α):List ι→Res (List α)
 | []=>.ok []
 | x :: xs=>(c x).bind fun b=>if b then (f x).bind fun y=>(lcR c f xs).bind fun r=>.ok (y :: r) else lcR c f xs
def mapR{ι α:Type}(f:ι→Res α):List ι→Res (List α)
 | []=>.ok []
 | x :: xs=>(f x).bind fun y=>(mapR f xs).bind fun r=>.ok (y :: r)
inductive Ctl (σ ρ:Type) where
 | nx (s:σ) | bk (s:σ) | rt (r:ρ)
def forT{σ ρ ι:Type}(F:σ→ι→Res (Ctl σ ρ)):List ι→σ→Res (Ctl σ ρ)
 | [],s=>.ok (.nx s)
 | x :: xs,s=>(F s x).bind fun
  | .nx s'=>forT F xs s'
  | .bk s'=>.ok (.nx s')
  | .rt r=>.ok (.rt r)
def forS{σ ι:Type}(F:σ→ι→Res σ):List ι→σ→Res σ
 | [],s=>.ok s
 | x :: xs,s=>(F s x).bind fun s'=>forS F xs s'
def Ctl.then{σ ρ β:Type}(c:Ctl σ ρ)(ret:ρ→Res β)(k:σ→Res β):Res β:=match c with
 | .nx s=>k s
 | .bk s=>k s
 | .rt r=>ret r
section
variable {Γ:En} {α β γ δ ε ι σ τ ρ κ:Type} {a b c:EX} {A B C:Res α}
theorem rV{e:EX}(t:Tg)(k:α→PV)(x:α)(h:e Γ = .ok (t,k x):=by rfl):RefG (tv t k) (e Γ) (.ok x):=h
variable {t u v:Tg} {ka:α→PV} {kb:β→PV} {kc:γ→PV} {kd:δ→PV}
theorem rAddI{A B:Res Int}(ha:RefG (tv t kI) (a Γ) A)(hb:RefG (tv u kI) (b Γ) B):RefG (tv .fz kI) (eAdd a b Γ) (A.bind fun x=>B.bind fun y=>.ok (x+y)) :=
 ha.bind fun x=>hb.bind fun y=>rfl
theorem rFdivC{A:Res Int}{n:Int}(ha:RefG (tv t kI) (a Γ) A)(h:(0 < n∧n.natAbs.log2 < 9000):=by decide):RefG (tv .fz kI) (eOp2 opFdiv a (eC (.int n)) Γ) (A.bind fun x=>.ok (x / n)) :=
 ha.bind fun x=>by show (opFdiv (.int x) (.int n)).bind fzv=_; rw [opFdiv,if_pos h]; rfl
theorem rMod{A B:Res Int}(ha:RefG (tv t kI) (a Γ) A)(hb:RefG (tv u kI) (b Γ) B):RefG (tv .fz kI) (eOp2 opMod a b Γ) (A.bind fun x=>B.bind fun y=>modR x y) :=
 ha.bind fun x=>hb.bind fun y=>by
  unfold modR; by_cases h:0 < y
  ·rw [if_pos h]; simp [opMod,h,RefG]
  ·rw [if_neg h]; exact trivial
theorem rNeg{A:Res Int}(ha:RefG (tv t kI) (a Γ) A):RefG (tv .fz kI) (eOp1 opNeg a Γ) (A.bind fun x=>.ok (-x)):=ha.bind fun x=>rfl
theorem rLt{A B:Res Int}(ha:RefG (tv t kI) (a Γ) A)(hb:RefG (tv u kI) (b Γ) B):RefG (tv .fz kB) (eOp2 opLt a b Γ) (A.bind fun x=>B.bind fun y=>.ok (decide (x < y))) :=
 ha.bind fun x=>hb.bind fun y=>rfl
theorem rLe{A B:Res Int}(ha:RefG (tv t kI) (a Γ) A)(hb:RefG (tv u kI) (b Γ) B):RefG (tv .fz kB) (eOp2 opLe a b Γ) (A.bind fun x=>B.bind fun y=>.ok (decide (x≤y))) :=
 ha.bind fun x=>hb.bind fun y=>rfl
theorem rGt{A B:Res Int}(ha:RefG (tv t kI) (a Γ) A)(hb:RefG (tv u kI) (b Γ) B):RefG (tv .fz kB) (eOp2 opGt a b Γ) (A.bind fun x=>B.bind fun y=>.ok (decide (y < x))) :=
 ha.bind fun x=>hb.bind fun y=>rfl
theorem rGe{A B:Res Int}(ha:RefG (tv t kI) (a Γ) A)(hb:RefG (tv u kI) (b Γ) B):RefG (tv .fz kB) (eOp2 opGe a b Γ) (A.bind fun x=>B.bind fun y=>.ok (decide (y≤x))) :=
 ha.bind fun x=>hb.bind fun y=>rfl
theorem rEq[DecidableEq α][Enc ka](ha:RefG (tv t ka) (a Γ) A)(hb:RefG (tv u ka) (b Γ) B)(hd:Enc.d ka≤60:=by decide):RefG (tv .fz kB) (eOp2 opEq a b Γ) (A.bind fun x=>B.bind fun y=>.ok (decide (x=y))) :=
 ha.bind fun x=>hb.bind fun y=>by simp [opEq,Enc.sh (k:=ka) 60 hd,Enc.eq,RefG,tv]
theorem rNe[DecidableEq α][Enc ka](ha:RefG (tv t ka) (a Γ) A)(hb:RefG (tv u ka) (b Γ) B)(hd:Enc.d ka≤60:=by decide):RefG (tv .fz kB) (eOp2 opNe a b Γ) (A.bind fun x=>B.bind fun y=>.ok (!decide (x=y))) :=
 ha.bind fun x=>hb.bind fun y=>by simp [opNe,Enc.sh (k:=ka) 60 hd,Enc.eq,RefG,tv]
theorem rNotN[NN ka]{A:Res (Option α)}(ha:RefG (tv t (kO ka)) (a Γ) A):RefG (tv .fz kB) (eOp1 opNotN a Γ) (A.bind fun x=>.ok (Option.isSome x)):=ha.bind fun x=>by
 cases x with
 | none=>rfl
 | some x=>simp [opNotN,isNon_f (NN.n (k:=ka) x),RefG,tv,-isNon]
theorem rGetO{A:Res (Option α)}{e:EX}(ha:RefG (tv t (kO ka)) (e Γ) A):RefG (tv t ka) (e Γ) (A.bind getO):=by
 cases A with
 | ok x=>cases x with
  | none=>exact trivial
  | some x=>exact ha
 | exc c=>exact ha
 | bad=>exact trivial
theorem xV{A:Res Bool}(ha:RefG (tv t kB) (a Γ) A):RefG id (xVal a Γ) A:=by
 cases A with
 | ok b =>
  have h:a Γ = .ok (t,.bl b):=ha
  show (a Γ).bind _=_
  rw [h]; rfl
 | exc c =>
  have h:a Γ = .exc c:=ha
  show (a Γ).bind _=_
  rw [h]; rfl
 | bad=>exact trivial
variable {T U:TX} {D E:Res Bool}
theorem xA(ha:RefG id (T Γ) D)(hb:RefG id (U Γ) E):RefG id (xAnd T U Γ) (D.bind fun x=>if x then E else .ok false):=ha.bind fun x=>by cases x <;> first | exact hb | exact rfl
theorem xO(ha:RefG id (T Γ) D)(hb:RefG id (U Γ) E):RefG id (xOr T U Γ) (D.bind fun x=>if x then .ok true else E):=ha.bind fun x=>by cases x <;> first | exact hb | exact rfl
theorem xN(ha:RefG id (T Γ) D):RefG id (xNot T Γ) (D.bind fun x=>.ok (!x)):=ha.bind fun x=>rfl
theorem rAnd{A B:Res Bool}(ha:RefG (tv t kB) (a Γ) A)(hb:RefG (tv .fz kB) (b Γ) B):RefG (tv .fz kB) (eAnd a b Γ) (A.bind fun x=>if x then B else .ok false):=ha.bind fun x=>by cases x <;> first | exact hb | exact rfl
@[simp] def ixT:Tg→Tg:=dn
theorem rIxL{A:Res (List α)}{B:Res Int}(ha:RefG (tv t (kL ka)) (a Γ) A)(hb:RefG (tv u kI) (b Γ) B):RefG (tv (dn t) ka) (eIdx a b Γ) (A.bind fun x=>B.bind fun y=>ixR x y) :=
 ha.bind fun x=>hb.bind fun y=>by
  unfold ixR
  cases h:vAt x y with
  | none=>exact trivial
  | some z=>simp [ixV,vAt_map,h,RefG,tv]
theorem rIxT{A:Res (List α)}{B:Res Int}(ha:RefG (tv t (kT ka)) (a Γ) A)(hb:RefG (tv u kI) (b Γ) B):RefG (tv .fz ka) (eIdx a b Γ) (A.bind fun x=>B.bind fun y=>ixR x y) :=
 ha.bind fun x=>hb.bind fun y=>by
  unfold ixR
  cases h:vAt x y with
  | none=>exact trivial
  | some z=>simp [ixV,vAt_map,h,RefG,tv]
theorem rIxS{A:Res (List Nat)}{B:Res Int}(ha:RefG (tv t kS) (a Γ) A)(hb:RefG (tv u kI) (b Γ) B):RefG (tv .fz kS) (eIdx a b Γ) (A.bind fun x=>B.bind fun y=>(ixR x y).bind fun c=>.ok [c]) :=
 ha.bind fun x=>hb.bind fun y=>by
  unfold ixR
  cases h:vAt x y with
  | none=>exact trivial
  | some z=>simp [ixV,h,RefG,tv]
theorem rIxP{i:Int}{pr:α→β}(ha:RefG (tv t ka) (a Γ) A)(h:∀ x,ixV (t,ka x) (.int i) = .ok (u,kb (pr x)):=by intro _; rfl):RefG (tv u kb) (eIdx a (eC (.int i)) Γ) (A.bind fun x=>.ok (pr x)) :=
 ha.bind fun x=>h x
theorem oN:RefG id (oNone Γ) (.ok none):=rfl
theorem oS{A:Res Int}(ha:RefG (tv t kI) (a Γ) A):RefG id (oSome a Γ) (A.bind fun x=>.ok (some x)):=ha.bind fun x=>rfl
variable {lo hi:OX} {L H:Res (Option Int)}
theorem rSlL{A:Res (List α)}(ha:RefG (tv t (kL ka)) (a Γ) A)(hl:RefG id (lo Γ) L)(hh:RefG id (hi Γ) H)(hf:flat1 t=true:=by rfl):RefG (tv (.ow 1) (kL ka)) (eSlice a lo hi Γ) (A.bind fun x=>L.bind fun l=>H.bind fun h=>.ok (cutL x l h)) :=
 ha.bind fun x=>hl.bind fun l=>hh.bind fun h=>by simp [sliceV,hf,cut_map,RefG,tv,-flat1]
theorem rSlS{A:Res (List Nat)}(ha:RefG (tv t kS) (a Γ) A)(hl:RefG id (lo Γ) L)(hh:RefG id (hi Γ) H):RefG (tv .fz kS) (eSlice a lo hi Γ) (A.bind fun x=>L.bind fun l=>H.bind fun h=>.ok (cutL x l h)) :=
 ha.bind fun x=>hl.bind fun l=>hh.bind fun h=>rfl
theorem rAddS{A B:Res (List Nat)}(ha:RefG (tv t kS) (a Γ) A)(hb:RefG (tv u kS) (b Γ) B):RefG (tv .fz kS) (eAdd a b Γ) (A.bind fun x=>B.bind fun y=>catR x y) :=
 ha.bind fun x=>hb.bind fun y=>by
  unfold catR
  by_cases h:x.length+y.length≤16777216
  ·rw [if_pos h]; simp [addV,h,RefG,tv]
  ·rw [if_neg h]; exact trivial
theorem rAddL{A B:Res (List α)}(ha:RefG (tv t (kL ka)) (a Γ) A)(hb:RefG (tv u (kL ka)) (b Γ) B)(h1:flat1 t=true:=by rfl)(h2:flat1 u=true:=by rfl):RefG (tv (.ow 1) (kL ka)) (eAdd a b Γ) (A.bind fun x=>B.bind fun y=>catR x y) :=
 ha.bind fun x=>hb.bind fun y=>by
  unfold catR
  by_cases h:x.length+y.length≤16777216
  ·rw [if_pos h]; simp [addV,h,h1,h2,RefG,tv,-flat1]
  ·rw [if_neg h]; exact trivial
theorem rAddT{A B:Res (List α)}(ha:RefG (tv t (kT ka)) (a Γ) A)(hb:RefG (tv u (kT ka)) (b Γ) B):RefG (tv .fz (kT ka)) (eAdd a b Γ) (A.bind fun x=>B.bind fun y=>catR x y) :=
 ha.bind fun x=>hb.bind fun y=>by
  unfold catR
  by_cases h:x.length+y.length≤16777216
  ·rw [if_pos h]; simp [addV,h,RefG,tv]
  ·rw [if_neg h]; exact trivial
theorem rLenL{A:Res (List α)}(ha:RefG (tv t (kL ka)) (a Γ) A):RefG (tv .fz kI) (eLen a Γ) (A.bind fun x=>.ok (x.length:Int)):=ha.bind fun x=>by simp [RefG,tv]
theorem rLenT{A:Res (List α)}(ha:RefG (tv t (kT ka)) (a Γ) A):RefG (tv .fz kI) (eLen a Γ) (A.bind fun x=>.ok (x.length:Int)):=ha.bind fun x=>by simp [RefG,tv]
theorem rLenS{A:Res (List Nat)}(ha:RefG (tv t kS) (a Γ) A):RefG (tv .fz kI) (eLen a Γ) (A.bind fun x=>.ok (x.length:Int)):=ha.bind fun x=>by simp [RefG,tv]
theorem rTupL{A:Res (List α)}(ha:RefG (tv t (kL ka)) (a Γ) A)(hf:flat1 t=true:=by rfl):RefG (tv .fz (kT ka)) (eTuple a Γ) A:=by
 have:=ha.bind (F:=fun x=>match x with
  | (t,.lst l)=>if flat1 t then .ok (.fz,.tup l) else .bad
  | (_,.tup l)=>.ok (.fz,.tup l)
  | _=>.bad) (g:=tv .fz (kT ka)) (k:=fun l=>.ok l) fun x=>by simp [hf,RefG,tv,-flat1]
 cases A <;> exact this
theorem allBl_map:∀ l:List Bool,allBl (l.map .bl) = .ok (l.all id)
 | []=>rfl
 | b :: l=>by rw [List.map_cons,allBl,allBl_map l]; rfl
theorem rAll{A:Res (List Bool)}(ha:RefG (tv t (kL kB)) (a Γ) A):RefG (tv .fz kB) (eAll a Γ) (A.bind fun x=>.ok (x.all id)):=ha.bind fun x=>by
 have:=allBl_map x
 simp [kB,RefG,tv] at this ⊢
 rw [this]; rfl
theorem rIntB{A:Res Bool}(ha:RefG (tv t kB) (a Γ) A):RefG (tv .fz kI) (eInt a Γ) (A.bind fun b=>.ok (if b then 1 else 0)):=ha.bind fun x=>rfl
theorem any_eqv[DecidableEq α][Enc ka](x:α):∀ l:List α,((l.map ka).any fun z=>eqv z (ka x))=decide (x∈l)
 | []=>by simp
 | y :: l=>by
  rw [List.map_cons,List.any_cons,any_eqv x l,Enc.eq,Bool.eq_iff_iff,Bool.or_eq_true,decide_eq_true_eq,decide_eq_true_eq,decide_eq_true_eq,List.mem_cons]
  exact ⟨fun h=>h.elim (fun e=>.inl e.symm) .inr,fun h=>h.elim (fun e=>.inl e.symm) .inr⟩
theorem inB_L[DecidableEq α][Enc ka](hd:Enc.d ka≤50)(x:α)(l:List α):inB (ka x) (kL ka l) = .ok (decide (x∈l)):=by
 simp only [kL,inB]
 rw [Enc.sh (k:=ka) 50 hd,shpL_enc 50 hd,any_eqv]; rfl
theorem rInL[DecidableEq α][Enc ka]{B:Res (List α)}(ha:RefG (tv t ka) (a Γ) A)(hb:RefG (tv u (kL ka)) (b Γ) B)(hd:Enc.d ka≤50:=by decide):RefG (tv .fz kB) (eOp2 opIn a b Γ) (A.bind fun x=>B.bind fun y=>.ok (memB x y)) :=
 ha.bind fun x=>hb.bind fun y=>by
  show (((inB (ka x) (kL ka y)).bind fun b=>.ok (.bl b)):Res PV).bind fzv=_
  rw [inB_L hd]; rfl
class Pl (k:α→PV):Prop where
 p:∀ a,plainP (k a)=true
instance:Pl kI:=⟨fun _=>rfl⟩
instance:Pl kB:=⟨fun _=>rfl⟩
instance:Pl kS:=⟨fun _=>rfl⟩
instance [Pl ka]:Pl (kO ka):=⟨fun a=>by cases a with
 | none=>rfl
 | some a=>exact Pl.p (k:=ka) a⟩
theorem inB_S(x y:List Nat)(b:Bool)(h:signIn x y = .ok b):inB (.str x) (.str y) = .ok b:=by
 match x,h with
 | [c],h=>exact h
theorem rNotInS{A B:Res (List Nat)}(ha:RefG (tv t kS) (a Γ) A)(hb:RefG (tv u kS) (b Γ) B):RefG (tv .fz kB) (eOp2 opNotIn a b Γ) (A.bind fun x=>B.bind fun y=>(signIn x y).bind fun b=>.ok (!b)) :=
 ha.bind fun x=>hb.bind fun y=>by
  cases h:signIn x y with
  | ok r=>show (((inB (.str x) (.str y)).bind fun b=>.ok (.bl (!b))):Res PV).bind fzv=_; rw [inB_S _ _ _ h]; rfl
  | exc c=>unfold signIn at h; split at h <;> cases h
  | bad=>exact trivial
theorem strsOf_mapS(ws:List (List Nat)):strsOf (ws.map kS)=some ws:=strsOf_map ws
theorem rJoinL{A:Res (List Nat)}{B:Res (List (List Nat))}(ha:RefG (tv t kS) (a Γ) A)(hb:RefG (tv u (kL kS)) (b Γ) B):RefG (tv .fz kS) (eTxt joinV a b Γ) (A.bind fun x=>B.bind fun y=>joinR x y) :=
 ha.bind fun x=>hb.bind fun y=>by
  unfold joinR
  by_cases h:(y.map (·.length)).sum+y.length * x.length≤16777216
  ·rw [if_pos h]
   show joinV x (u,.lst (y.map kS))=_
   simp only [joinV,listOf,strsOf_mapS]
   rw [if_pos h]; rfl
  ·rw [if_neg h]; exact trivial
theorem rSplit{A B:Res (List Nat)}(ha:RefG (tv t kS) (a Γ) A)(hb:RefG (tv u kS) (b Γ) B):RefG (tv (.ow 1) (kL kS)) (eTxt splitV a b Γ) (A.bind fun x=>B.bind fun y=>splitR x y) :=
 ha.bind fun x=>hb.bind fun y=>by
  unfold splitR
  by_cases h:0 < y.length∧x.length+2≤16777216
  ·rw [if_pos h]
   cases y with
   | nil=>exact absurd h.1 (by simp)
   | cons c y =>
    show (if x.length+2≤16777216 then _ else _:Res TV)=_
    rw [if_pos h.2]; rfl
  ·rw [if_neg h]; exact trivial
end
end Vm
end
section
set_option linter.all false
set_option maxHeartbeats 1000000
set_option maxRecDepth 10000
namespace Vm
section
variable {Γ:En} {α β γ δ ε ι σ τ ρ κ:Type} {a b c e:EX} {as:EXs} {A B C:Res α} {t u v:Tg} {ka:α→PV} {kb:β→PV} {kc:γ→PV} {kd:δ→PV}
theorem argsC{f:α→TV}{g:γ→δ}{F:List TV→Res δ}{K:α→Res γ}(ha:RefG f (a Γ) A)(h:∀ x,RefG g ((as Γ).bind fun xs=>F (f x :: xs)) (K x)):RefG g ((eCons a as Γ).bind F) (A.bind K):=by
 show RefG g (((a Γ).bind fun x=>(as Γ).bind fun xs=>.ok (x :: xs)).bind F) _
 rw [bind_assoc]
 refine ha.bind fun x=>?_
 rw [bind_assoc]
 exact h x
theorem argsN{g:γ→δ}{F:List TV→Res δ}{K:Res γ}(h:RefG g (F []) K):RefG g ((eNil Γ).bind F) K:=h
theorem argsE(g:γ→δ)(x:γ){F:List TV→Res δ}(h:F [] = .ok (g x)):RefG g ((eNil Γ).bind F) (.ok x):=h
theorem rCallB{f:FN}{xs:List TV}{g:γ→TV}{R:Res γ}(ps:List PV)(hf:RefG g (f ps) R)(hp:xs.map (·.2)=ps:=by rfl)(hb:xs.any isBw=false:=by rfl):RefG g ((f (xs.map (·.2))).bind fun r=>if xs.any isBw && !stabR r then .bad else .ok r) R:=by
 rw [hp,hb]
 have:=hf.bind (F:=fun r=>if false && !stabR r then .bad else .ok r) (g:=g) (k:=fun x=>.ok x) fun x=>rfl
 cases R <;> exact this
theorem rCallS{f:FN}{xs:List TV}{g:γ→TV}{R:Res γ}(ps:List PV)(hf:RefG g (f ps) R)(hs:∀ x,stabR (g x)=true)(hp:xs.map (·.2)=ps:=by rfl):RefG g ((f (xs.map (·.2))).bind fun r=>if xs.any isBw && !stabR r then .bad else .ok r) R:=by
 rw [hp]
 have:=hf.bind (F:=fun r=>if xs.any isBw && !stabR r then .bad else .ok r) (g:=g) (k:=fun x=>.ok x) fun x=>by rw [hs,Bool.not_true,Bool.and_false]; rfl
 cases R <;> exact this
class St (k:α→PV):Prop where
 s:∀ a,stab (k a)=true
instance:St kI:=⟨fun _=>rfl⟩
instance:St kB:=⟨fun _=>rfl⟩
instance:St kS:=⟨fun _=>rfl⟩
instance:St kN:=⟨fun _=>rfl⟩
instance [St ka]:St (kO ka):=⟨fun a=>by cases a with
 | none=>rfl
 | some a=>exact St.s (k:=ka) a⟩
theorem stabL_map[St ka]:∀ l:List α,stabL (l.map ka)=true
 | []=>rfl
 | x :: l=>by rw [List.map_cons,stabL,St.s,stabL_map l]; rfl
instance [St ka]:St (kT ka):=⟨fun l=>by simp only [kT,stab]; exact stabL_map l⟩
instance [St ka]:St (kP1 ka):=⟨fun x=>by simp only [kP1,stab,stabL,St.s]; rfl⟩
instance [St ka] [St kb]:St (kP2 ka kb):=⟨fun x=>by simp only [kP2,stab,stabL,St.s]; rfl⟩
instance [St ka] [St kb] [St kc]:St (kP3 ka kb kc):=⟨fun x=>by simp only [kP3,stab,stabL,St.s]; rfl⟩
instance [St ka] [St kb] [St kc] [St kd]:St (kP4 ka kb kc kd):=⟨fun x=>by simp only [kP4,stab,stabL,St.s]; rfl⟩
theorem st_fz[St ka](x:α):stabR (tv .fz ka x)=true:=St.s (k:=ka) x
abbrev itv{α:Type}(fl:Bool)(f:α→TV)(xs:List α):Bool×List TV:=(fl,xs.map f)
@[simp] def noBw:Tg→Bool
 | .bw _=>false
 | _=>true
theorem iSeqL{A:Res (List α)}(ha:RefG (tv t (kL ka)) (a Γ) A)(ht:noBw t=true:=by rfl):RefG (itv true (tv .fz ka)) (jSeq a Γ) A:=by
 have:=ha.bind (F:=fun x=>match x.2 with
  | .lst l=>match x.1 with
   | .bw d=>.ok (false,l.map fun p=>(dn (.bw d),p))
   | _=>.ok (true,l.map fun p=>(.fz,p))
  | .tup l=>.ok (true,l.map fun p=>(.fz,p))
  | .str l=>.ok (true,l.map fun c=>(.fz,.str [c]))
  | _=>.bad) (g:=itv true (tv .fz ka)) (k:=fun l=>.ok l) fun x=>by
   cases t with
   | bw d=>cases ht
   | fz=>simp [RefG,itv,tv]
   | ow d=>simp [RefG,itv,tv]
 cases A <;> exact this
theorem iSeqT{A:Res (List α)}(ha:RefG (tv t (kT ka)) (a Γ) A):RefG (itv true (tv .fz ka)) (jSeq a Γ) A:=by
 have:=ha.bind (F:=fun x=>match x.2 with
  | .lst l=>match x.1 with
   | .bw d=>.ok (false,l.map fun p=>(dn (.bw d),p))
   | _=>.ok (true,l.map fun p=>(.fz,p))
  | .tup l=>.ok (true,l.map fun p=>(.fz,p))
  | .str l=>.ok (true,l.map fun c=>(.fz,.str [c]))
  | _=>.bad) (g:=itv true (tv .fz ka)) (k:=fun l=>.ok l) fun x=>by simp [RefG,itv,tv]
 cases A <;> exact this
def signs(l:List Nat):List (List Nat):=l.map fun c=>[c]
theorem iSeqS{A:Res (List Nat)}(ha:RefG (tv t kS) (a Γ) A):RefG (itv true (tv .fz kS)) (jSeq a Γ) (A.bind fun x=>.ok (signs x)):=ha.bind fun x=>by
 show RefG _ (Res.ok (true,x.map fun c=>((Tg.fz,PV.str [c]):TV))) _
 simp [RefG,itv,tv,signs,Function.comp_def]
theorem rngL_I(lo hi:Int):rngL lo hi=(rngI lo hi).map .int:=by unfold rngL rngI; rw [List.map_map]; rfl
theorem iRng{A:Res Int}(ha:RefG (tv t kI) (a Γ) A):RefG (itv true (tv .fz kI)) (jRange a Γ) (A.bind fun n=>rngR n):=ha.bind fun n=>by
 unfold rngR
 by_cases h:rngOk n=true
 ·rw [if_pos h]
  show RefG _ (if rngOk n then _ else _) _
  rw [if_pos h,rngL_I]
  simp [RefG,itv,tv]
 ·rw [if_neg h]; exact trivial
theorem lcGo_R{ki:ι→TV}{pat:Pat}{c:TX}{e:EX}{C:ι→Res Bool}{E:ι→Res α}{f:α→TV}(hp:∀ x,putV (f x) = .ok (f x).2)(hb:∀ x,∃ Γ',bindP Γ (ki x) pat = .ok Γ'∧RefG id (c Γ') (C x)∧RefG f (e Γ') (E x)) :
  ∀ xs:List ι,RefG (fun l:List α=>l.map fun x=>(f x).2) (lcGo Γ pat c e (xs.map ki)) (lcR C E xs)
 | []=>rfl
 | x :: xs=>by
  obtain ⟨Γ',h1,h2,h3⟩:=hb x
  rw [List.map_cons,lcGo,h1,bind_ok,lcR]
  refine h2.bind fun b=>?_
  cases b with
  | false=>exact lcGo_R hp hb xs
  | true =>
   refine h3.bind fun y=>?_
   rw [hp,bind_ok]
   exact (lcGo_R hp hb xs).bind fun r=>rfl
theorem noExc_R{f:α→β}{o:Res β}{r:Res α}(h:RefG f o r):RefG f (noExc o) (noExc r):=by
 cases r with
 | ok x =>
  have h:o = .ok (f x):=h
  rw [h]; exact rfl
 | exc c=>exact trivial
 | bad=>exact trivial
theorem rLC{it:IX}{X:Res (List ι)}{ki:ι→TV}{fl:Bool}{own:List Nat}{pat:Pat}{c:TX}{e:EX}{C:ι→Res Bool}{E:ι→Res α}(hi:RefG (itv fl ki) (it Γ) X)
  (hb:∀ x,∃ Γ',bindP (wipeE Γ own) (ki x) pat = .ok Γ'∧RefG id (c Γ') (C x)∧RefG (tv t ka) (e Γ') (E x))(hp:∀ p,putV (t,p) = .ok p:=by intro _; rfl) :
  RefG (tv (.ow 1) (kL ka)) (eLC own it pat c e Γ) (X.bind fun xs=>(noExc (lcR C E xs)).bind szR):=by
 refine hi.bind fun xs=>?_
 refine (noExc_R (lcGo_R (fun x=>hp _) hb xs)).bind fun l=>?_
 unfold szR
 by_cases h:l.length≤16777216
 ·rw [if_pos h,if_pos (by simpa using h)]; rfl
 ·rw [if_neg h]; exact trivial
theorem lcR_map{C:ι→Res Bool}{E:ι→Res α}(h:∀ x,C x = .ok true):∀ xs,lcR C E xs=mapR E xs
 | []=>rfl
 | x :: xs=>by rw [lcR,mapR,h,bind_ok,if_pos rfl,lcR_map h xs]
theorem rLM{it:IX}{X:Res (List ι)}{ki:ι→TV}{fl:Bool}{own:List Nat}{pat:Pat}{e:EX}{E:ι→Res α}(hi:RefG (itv fl ki) (it Γ) X)
  (hb:∀ x,∃ Γ',bindP (wipeE Γ own) (ki x) pat = .ok Γ'∧RefG (tv t ka) (e Γ') (E x))(hp:∀ p,putV (t,p) = .ok p:=by intro _; rfl) :
  RefG (tv (.ow 1) (kL ka)) (eLC own it pat xYes e Γ) (X.bind fun xs=>(noExc (mapR E xs)).bind szR):=by
 have:=rLC (C:=fun _=>.ok true) (E:=E) (c:=xYes) hi (fun x=>by
  obtain ⟨Γ',h1,h2⟩:=hb x
  exact ⟨Γ',h1,rfl,h2⟩) hp
 have e2:(fun xs=>(noExc (lcR (fun _=>.ok true) E xs)).bind szR)=fun xs=>(noExc (mapR E xs)).bind szR:=funext fun xs=>by rw [lcR_map fun _=>rfl]
 rw [e2] at this
 exact this
def RG(EP:En→Prop)(Post:Out→β→Prop)(o:Out):Res β→Prop
 | .ok x=>Post o x
 | .exc c=>∃ Γ',o = .exc c Γ'∧EP Γ'
 | .bad=>True
def NxP(P:σ→En→Prop):Out→σ→Prop:=fun o s=>∃ Γ',o = .nx Γ'∧P s Γ'
def RtP(f:ρ→TV):Out→ρ→Prop:=fun o x=>(∃ Γ',o = .rt (f x).1 (f x).2 Γ') ∨ ∃ Γ',o = .nx Γ'∧f x=(.fz,.non)
def LpP(ws:List Nat)(st:σ→En)(f:ρ→TV):Out→Ctl σ ρ→Prop:=fun o c=>match c with
 | .nx s=>∃ Γ',(o = .nx Γ' ∨ o = .ct Γ')∧wipeE Γ' ws=st s
 | .bk s=>∃ Γ',o = .bk Γ'∧wipeE Γ' ws=st s
 | .rt x=>∃ Γ',o = .rt (f x).1 (f x).2 Γ'
def LsP(ws:List Nat)(st:σ→En):Out→σ→Prop:=fun o s=>∃ Γ',(o = .nx Γ' ∨ o = .ct Γ')∧wipeE Γ' ws=st s
def CtlP(st:σ→En)(f:ρ→TV):Out→Ctl σ ρ→Prop:=fun o c=>match c with
 | .nx s=>o = .nx (st s)
 | .bk s=>o = .nx (st s)
 | .rt x=>∃ Γ',o = .rt (f x).1 (f x).2 Γ'
variable {EP:En→Prop} {Post:Out→β→Prop} {o:Out} {r:Res β} {d x y rest:ST} {S:Res σ} {u':σ→En} {K:σ→Res β}
abbrev Prim(EP:En→Prop)(d:ST)(Γ:En)(S:Res σ)(u:σ→En):Prop:=RG EP (NxP fun s Γ'=>Γ'=u s) (d Γ) S
theorem gPrim(h:Prim EP d Γ S u')(q:∀ s,RG EP Post (rest (u' s)) (K s)):RG EP Post (dSeq d rest Γ) (S.bind K):=by
 cases S with
 | ok s =>
  obtain ⟨Γ',h1,rfl⟩:=h
  show RG EP Post ((d Γ).then rest) _
  rw [h1]; exact q s
 | exc c =>
  obtain ⟨Γ',h1,h2⟩:=h
  show RG EP Post ((d Γ).then rest) _
  rw [h1]; exact ⟨Γ',rfl,h2⟩
 | bad=>exact trivial
theorem gPrim1(h:Prim EP d Γ S u')(q:∀ s,RG EP Post (.nx (u' s)) (K s)):RG EP Post (d Γ) (S.bind K):=by
 cases S with
 | ok s =>
  obtain ⟨Γ',h1,rfl⟩:=h
  rw [h1]; exact q s
 | exc c=>exact h
 | bad=>exact trivial
theorem gOk{s:β}(h:Post o s):RG EP Post o (.ok s):=h
theorem gNil(h:RG EP Post (rest Γ) r):RG EP Post (dSeq dNil rest Γ) r:=h
theorem gNil1(h:RG EP Post (.nx Γ) r):RG EP Post (dNil Γ) r:=h
theorem gAssoc(h:RG EP Post (dSeq x (dSeq y rest) Γ) r):RG EP Post (dSeq (dSeq x y) rest Γ) r:=by
 have e:(dSeq (dSeq x y) rest) Γ=dSeq x (dSeq y rest) Γ:=by
  show ((x Γ).then y).then rest=(x Γ).then (dSeq y rest)
  cases x Γ <;> rfl
 rw [e]; exact h
variable {T:TX} {D:Res Bool} {R1 R2:Res β} {S1 S2:Res σ}
theorem gIf(ht:RefG id (T Γ) D)(h1:RG EP Post (x Γ) R1)(h2:RG EP Post (y Γ) R2)(hE:EP Γ):RG EP Post (dIf T x y Γ) (D.bind fun c=>if c then R1 else R2):=by
 cases D with
 | ok c =>
  have ht:T Γ = .ok c:=ht
  show RG EP Post (aft (T Γ) Γ _) _
  rw [ht]
  cases c <;> first | exact h1 | exact h2
 | exc c =>
  have ht:T Γ = .exc c:=ht
  show RG EP Post (aft (T Γ) Γ _) _
  rw [ht]
  exact ⟨Γ,rfl,hE⟩
 | bad=>exact trivial
theorem gIfD(ht:RefG id (T Γ) D)(h1:RG EP Post (dSeq x rest Γ) R1)(h2:RG EP Post (dSeq y rest Γ) R2)(hE:EP Γ):RG EP Post (dSeq (dIf T x y) rest Γ) (D.bind fun c=>if c then R1 else R2):=by
 cases D with
 | ok c =>
  have ht:T Γ = .ok c:=ht
  show RG EP Post ((aft (T Γ) Γ _).then rest) _
  rw [ht]
  cases c <;> first | exact h1 | exact h2
 | exc c =>
  have ht:T Γ = .exc c:=ht
  show RG EP Post ((aft (T Γ) Γ _).then rest) _
  rw [ht]
  exact ⟨Γ,rfl,hE⟩
 | bad=>exact trivial
theorem gSeq{P:σ→En→Prop}(h:RG EP (NxP P) (d Γ) S)(q:∀ s Γ',P s Γ'→RG EP Post (rest Γ') (K s)):RG EP Post (dSeq d rest Γ) (S.bind K):=by
 cases S with
 | ok s =>
  obtain ⟨Γ',h1,h2⟩:=h
  show RG EP Post ((d Γ).then rest) _
  rw [h1]; exact q s Γ' h2
 | exc c =>
  obtain ⟨Γ',h1,h2⟩:=h
  show RG EP Post ((d Γ).then rest) _
  rw [h1]; exact ⟨Γ',rfl,h2⟩
 | bad=>exact trivial
@[simp] def retT:Tg→Tg
 | .bw 0=>.fz
 | t=>t
@[simp] def retOk:Tg→Bool
 | .bw (_+1)=>false
 | _=>true
theorem ret_is(t:Tg)(p:PV)(Γ:En)(h:retOk t=true):(match ((t,p):TV) with
 | (.bw 0,p)=>Out.rt .fz p Γ
 | (.bw _,_)=>.bad
 | (t,p)=>.rt t p Γ) = .rt (retT t) p Γ:=by
 match t,h with
 | .fz,_=>rfl
 | .ow _,_=>rfl
 | .bw 0,_=>rfl
theorem gRet{E:Res α}{K:α→Res β}(h:RefG (tv t ka) (e Γ) E)(q:∀ x,RG EP Post (.rt (retT t) (ka x) Γ) (K x))(hE:EP Γ)(ht:retOk t=true:=by rfl):RG EP Post (dRet e Γ) (E.bind K):=by
 cases E with
 | ok x =>
  have h:e Γ = .ok (t,ka x):=h
  show RG EP Post (aft (e Γ) Γ _) _
  rw [h]
  show RG EP Post (match ((t,ka x):TV) with
   | (.bw 0,p)=>Out.rt .fz p Γ
   | (.bw _,_)=>.bad
   | (t,p)=>.rt t p Γ) _
  rw [ret_is _ _ _ ht]
  exact q x
 | exc c =>
  have h:e Γ = .exc c:=h
  show RG EP Post (aft (e Γ) Γ _) _
  rw [h]; exact ⟨Γ,rfl,hE⟩
 | bad=>exact trivial
theorem gRetS{E:Res α}{K:α→Res β}(h:RefG (tv t ka) (e Γ) E)(q:∀ x,RG EP Post (.rt (retT t) (ka x) Γ) (K x))(hE:EP Γ)(ht:retOk t=true:=by rfl):RG EP Post (dSeq (dRet e) rest Γ) (E.bind K):=by
 have:=gRet (K:=K) h q hE ht
 cases E with
 | ok x =>
  have h:e Γ = .ok (t,ka x):=h
  show RG EP Post ((aft (e Γ) Γ _).then rest) _
  rw [h]
  show RG EP Post (Out.then (match ((t,ka x):TV) with
   | (.bw 0,p)=>Out.rt .fz p Γ
   | (.bw _,_)=>.bad
   | (t,p)=>.rt t p Γ) rest) _
  rw [ret_is _ _ _ ht]
  exact q x
 | exc c =>
  have h:e Γ = .exc c:=h
  show RG EP Post ((aft (e Γ) Γ _).then rest) _
  rw [h]; exact ⟨Γ,rfl,hE⟩
 | bad=>exact trivial
theorem gRetV(i:Nat){p:PV}(hg:dRetV i Γ = .rt t p Γ)(q:RG EP Post (.rt t p Γ) r):RG EP Post (dRetV i Γ) r:=by rw [hg]; exact q
theorem gRaise(c:Nat)(hE:EP Γ):RG EP Post (dRaise c Γ) (.exc c):=⟨Γ,rfl,hE⟩
theorem gRaiseS(c:Nat)(hE:EP Γ):RG EP Post (dSeq (dRaise c) rest Γ) (.exc c):=⟨Γ,rfl,hE⟩
theorem prim_of{d:ST}{F:TV→Out}{f:α→TV}{E:Res α}(h:RefG f (e Γ) E)(hE:EP Γ){S:α→Res σ}(hd:d Γ=aft (e Γ) Γ F)(q:∀ x,RG EP (NxP fun s Γ'=>Γ'=u' s) (F (f x)) (S x)):Prim EP d Γ (E.bind S) u':=by
 show RG EP _ (d Γ) _
 rw [hd]
 cases E with
 | ok x =>
  have h:e Γ = .ok (f x):=h
  rw [h]; exact q x
 | exc c =>
  have h:e Γ = .exc c:=h
  rw [h]; exact ⟨Γ,rfl,hE⟩
 | bad=>exact trivial
theorem bind_id(E:Res α):(E.bind fun x=>.ok x)=E:=by cases E <;> rfl
theorem pSet(i:Nat){E:Res α}(h:RefG (tv t ka) (e Γ) E)(hE:EP Γ)(hp:∀ p,putV (t,p) = .ok p:=by intro _; rfl):Prim EP (dSet i e) Γ E (fun x=>Γ.set i (some (.fz,ka x))):=by
 have:=prim_of (EP:=EP) (d:=dSet i e) (u':=fun x=>Γ.set i (some (.fz,ka x))) (S:=fun x=>.ok x) h hE rfl fun x=>by
  show RG EP _ (aft (putV (t,ka x)) Γ _) _
  rw [hp]; exact ⟨_,rfl,rfl⟩
 rw [bind_id] at this
 exact this
theorem pSetO(i:Nat){d:Nat}{E:Res α}(h:RefG (tv (.ow d) ka) (e Γ) E)(hE:EP Γ):Prim EP (dSetO i e) Γ E (fun x=>Γ.set i (some (.ow d,ka x))):=by
 have:=prim_of (EP:=EP) (d:=dSetO i e) (u':=fun x=>Γ.set i (some (.ow d,ka x))) (S:=fun x=>.ok x) h hE rfl fun x=>⟨_,rfl,rfl⟩
 rw [bind_id] at this
 exact this
theorem pSetT(is:List Nat){E:Res α}{u2:α→En}(h:RefG (tv t ka) (e Γ) E)(hE:EP Γ)(hb:∀ x,bindP Γ (.fz,ka x) (.t is) = .ok (u2 x))(hp:∀ p,putV (t,p) = .ok p:=by intro _; rfl):Prim EP (dSetT is e) Γ E u2:=by
 have:=prim_of (EP:=EP) (d:=dSetT is e) (u':=u2) (S:=fun x=>.ok x) h hE rfl fun x=>by
  show RG EP _ (aft (putV (t,ka x)) Γ _) _
  rw [hp]
  show RG EP _ (aft (bindP Γ (.fz,ka x) (.t is)) Γ _) _
  rw [hb]; exact ⟨_,rfl,rfl⟩
 rw [bind_id] at this
 exact this
theorem pEx{E:Res α}{f:α→TV}(h:RefG f (e Γ) E)(hE:EP Γ):Prim EP (dEx e) Γ (E.bind fun _=>.ok ()) (fun _=>Γ) :=
 prim_of (EP:=EP) (d:=dEx e) h hE rfl fun x=>⟨_,rfl,rfl⟩
theorem pApp(i:Nat){E:Res α}{l:List α}(h:RefG (tv t ka) (e Γ) E)(hE:EP Γ)(hg:Γ.get i=some (.ow 1,kL ka l))(hp:∀ p,putV (t,p) = .ok p:=by intro _; rfl):Prim EP (dApp i e) Γ (E.bind fun x=>appR l x) (fun l=>Γ.set i (some (.ow 1,kL ka l))):=by
 refine prim_of (EP:=EP) (d:=dApp i e) (F:=fun x=>aft (putV x) Γ fun p=>if (l.map ka).length < 16777216 then .nx (Γ.set i (some (.ow 1,.lst (l.map ka++[p])))) else .bad) h hE ?_ fun x=>?_
 ·show (match Γ.get i with
   | some (.ow 1,.lst l)=>aft (e Γ) Γ fun x=>aft (putV x) Γ fun p=>if l.length < 16777216 then .nx (Γ.set i (some (.ow 1,.lst (l++[p])))) else .bad
   | _=>.bad)=_
  rw [hg]; rfl
 ·show RG EP _ (aft (putV (t,ka x)) Γ _) _
  rw [hp]
  show RG EP _ (if (l.map ka).length < 16777216 then _ else _) _
  unfold appR
  by_cases hz:l.length < 16777216
  ·rw [if_pos hz,if_pos (by simpa using hz)]; exact ⟨_,rfl,by simp⟩
  ·rw [if_neg hz]; exact trivial
theorem pSetIx(i:Nat){j:EX}{J:Res Int}{E:Res α}{l:List α}(h:RefG (tv t ka) (e Γ) E)(hj:RefG (tv u kI) (j Γ) J)(hE:EP Γ)(hg:Γ.get i=some (.ow 1,kL ka l))(hp:∀ p,putV (t,p) = .ok p:=by intro _; rfl):Prim EP (dSetIx i j e) Γ (E.bind fun x=>J.bind fun n=>setR l n x) (fun l=>Γ.set i (some (.ow 1,kL ka l))):=by
 refine prim_of (EP:=EP) (d:=dSetIx i j e) (F:=fun x=>aft (j Γ) Γ fun y=>aft (putV x) Γ fun p=>match y.2 with
   | .int k=>match vIxN (l.map ka).length k with
    | some n=>.nx (Γ.set i (some (.ow 1,.lst ((l.map ka).set n p))))
    | none=>.bad
   | _=>.bad) h hE ?_ fun x=>?_
 ·show (match Γ.get i with
   | some (.ow 1,.lst l)=>aft (e Γ) Γ fun x=>aft (j Γ) Γ fun y=>aft (putV x) Γ fun p=>match y.2 with
    | .int k=>match vIxN l.length k with
     | some n=>.nx (Γ.set i (some (.ow 1,.lst (l.set n p))))
     | none=>.bad
    | _=>.bad
   | _=>.bad)=_
  rw [hg]; rfl
 ·cases J with
  | ok n =>
   have hj:j Γ = .ok (u,.int n):=hj
   show RG EP _ (aft (j Γ) Γ _) (setR l n x)
   rw [hj]
   show RG EP _ (aft (putV (t,ka x)) Γ _) _
   rw [hp]
   show RG EP _ (match vIxN (l.map ka).length n with
    | some n=>.nx (Γ.set i (some (.ow 1,.lst ((l.map ka).set n (ka x)))))
    | none=>.bad) _
   rw [List.length_map]
   unfold setR
   cases vIxN l.length n with
   | none=>exact trivial
   | some m=>exact ⟨_,rfl,by simp [kL,List.map_set]⟩
  | exc c =>
   have hj:j Γ = .exc c:=hj
   show RG EP _ (aft (j Γ) Γ _) _
   rw [hj]; exact ⟨Γ,rfl,hE⟩
  | bad=>exact trivial
theorem forL_T{ki:ι→TV}{pat:Pat}{ws:List Nat}{body:ST}{st:σ→En}{f:ρ→TV}{F:σ→ι→Res (Ctl σ ρ)}(hb:∀ s x,∃ Γ',bindP (st s) (ki x) pat = .ok Γ'∧RG EP (LpP ws st f) (body Γ') (F s x)) :
  ∀ (xs:List ι) (s:σ),RG EP (CtlP st f) (forL pat ws body (xs.map ki) (st s)) (forT F xs s)
 | [],s=>rfl
 | x :: xs,s=>by
  obtain ⟨Γ',h1,h2⟩:=hb s x
  rw [List.map_cons,forL,h1,forT]
  show RG EP _ (match body Γ' with
   | .nx Γ2=>forL pat ws body (xs.map ki) (wipeE Γ2 ws)
   | .ct Γ2=>forL pat ws body (xs.map ki) (wipeE Γ2 ws)
   | .bk Γ2=>.nx (wipeE Γ2 ws)
   | o=>o) _
  cases hF:F s x with
  | ok c =>
   rw [hF] at h2
   cases c with
   | nx s' =>
    obtain ⟨Γ2,h3,h4⟩:=h2
    rcases h3 with h3 | h3 <;> (rw [h3]; simp only [h4]; exact forL_T hb xs s')
   | bk s' =>
    obtain ⟨Γ2,h3,h4⟩:=h2
    rw [h3]; simp only [h4]; exact rfl
   | rt y =>
    obtain ⟨Γ2,h2⟩:=(h2:∃ Γ2,body Γ' = .rt (f y).1 (f y).2 Γ2)
    rw [h2]; exact ⟨_,rfl⟩
  | exc c =>
   rw [hF] at h2
   obtain ⟨Γ2,h3,h4⟩:=h2
   rw [h3]; exact ⟨Γ2,rfl,h4⟩
  | bad=>exact trivial
theorem gForT{it:IX}{X:Res (List ι)}{ki:ι→TV}{pat:Pat}{ws:List Nat}{body:ST}{f:ρ→TV}{F:σ→ι→Res (Ctl σ ρ)}(st:σ→En)(s0:σ)(hi:RefG (itv true ki) (it Γ) X)(h0:wipeE Γ ws=st s0)(hb:∀ s x,∃ Γ',bindP (st s) (ki x) pat = .ok Γ'∧RG EP (LpP ws st f) (body Γ') (F s x))(hE:EP Γ) :
  RG EP (CtlP st f) (dFor it pat ws body Γ) (X.bind fun xs=>forT F xs s0):=by
 cases X with
 | ok xs =>
  have hi:it Γ = .ok (true,xs.map ki):=hi
  show RG EP _ (aft (it Γ) Γ _) _
  rw [hi]
  show RG EP _ (forL pat ws body (xs.map ki) (wipeE Γ ws)) _
  rw [h0]
  exact forL_T hb xs s0
 | exc c =>
  have hi:it Γ = .exc c:=hi
  show RG EP _ (aft (it Γ) Γ _) _
  rw [hi]; exact ⟨Γ,rfl,hE⟩
 | bad=>exact trivial
theorem forL_S{ki:ι→TV}{pat:Pat}{ws:List Nat}{body:ST}{st:σ→En}{F:σ→ι→Res σ}(hb:∀ s x,∃ Γ',bindP (st s) (ki x) pat = .ok Γ'∧RG EP (LsP ws st) (body Γ') (F s x)) :
  ∀ (xs:List ι) (s:σ),RG EP (NxP fun s Γ'=>Γ'=st s) (forL pat ws body (xs.map ki) (st s)) (forS F xs s)
 | [],s=>⟨_,rfl,rfl⟩
 | x :: xs,s=>by
  obtain ⟨Γ',h1,h2⟩:=hb s x
  rw [List.map_cons,forL,h1,forS]
  show RG EP _ (match body Γ' with
   | .nx Γ2=>forL pat ws body (xs.map ki) (wipeE Γ2 ws)
   | .ct Γ2=>forL pat ws body (xs.map ki) (wipeE Γ2 ws)
   | .bk Γ2=>.nx (wipeE Γ2 ws)
   | o=>o) _
  cases hF:F s x with
  | ok s' =>
   rw [hF] at h2
   obtain ⟨Γ2,h3,h4⟩:=h2
   rcases h3 with h3 | h3 <;> (rw [h3]; simp only [h4]; exact forL_S hb xs s')
  | exc c =>
   rw [hF] at h2
   obtain ⟨Γ2,h3,h4⟩:=h2
   rw [h3]; exact ⟨Γ2,rfl,h4⟩
  | bad=>exact trivial
theorem pFor{it:IX}{X:Res (List ι)}{ki:ι→TV}{pat:Pat}{ws:List Nat}{body:ST}{F:σ→ι→Res σ}(st:σ→En)(s0:σ)(hi:RefG (itv true ki) (it Γ) X)(h0:wipeE Γ ws=st s0)(hb:∀ s x,∃ Γ',bindP (st s) (ki x) pat = .ok Γ'∧RG EP (LsP ws st) (body Γ') (F s x))(hE:EP Γ) :
  Prim EP (dFor it pat ws body) Γ (X.bind fun xs=>forS F xs s0) st:=by
 cases X with
 | ok xs =>
  have hi:it Γ = .ok (true,xs.map ki):=hi
  show RG EP _ (aft (it Γ) Γ _) _
  rw [hi]
  show RG EP _ (forL pat ws body (xs.map ki) (wipeE Γ ws)) _
  rw [h0]
  exact forL_S hb xs s0
 | exc c =>
  have hi:it Γ = .exc c:=hi
  show RG EP _ (aft (it Γ) Γ _) _
  rw [hi]; exact ⟨Γ,rfl,hE⟩
 | bad=>exact trivial
theorem gCtl{st:σ→En}{f:ρ→TV}{R:Res (Ctl σ ρ)}{ret:ρ→Res β}(h:RG EP (CtlP st f) (d Γ) R)(q:∀ s,RG EP Post (rest (st s)) (K s))(hr:∀ x Γ',RG EP Post (.rt (f x).1 (f x).2 Γ') (ret x)):RG EP Post (dSeq d rest Γ) (R.bind fun c=>c.then ret K):=by
 show RG EP Post ((d Γ).then rest) _
 cases R with
 | ok c =>
  cases c with
  | nx s =>
   have h:d Γ = .nx (st s):=h
   rw [h]; exact q s
  | bk s =>
   have h:d Γ = .nx (st s):=h
   rw [h]; exact q s
  | rt x =>
   obtain ⟨Γ2,h⟩:=(h:∃ Γ2,d Γ = .rt (f x).1 (f x).2 Γ2)
   rw [h]; exact hr x Γ2
 | exc c =>
  obtain ⟨Γ2,h3,h4⟩:=h
  rw [h3]; exact ⟨Γ2,rfl,h4⟩
 | bad=>exact trivial
theorem tFn{np ns:Nat}{body:ST}{args:List PV}{f:ρ→TV}{R:Res ρ}(h:RG (fun _=>True) (RtP f) (body (args.map (fun p=>some (.fz,p))++List.replicate (ns - np) none)) R)(hl:args.length=np:=by rfl):RefG f (runFn np ns body args) R:=by
 unfold runFn
 rw [if_pos hl]
 cases R with
 | ok x =>
  rcases h with ⟨Γ',h⟩ | ⟨Γ',h1,h2⟩
  ·rw [h]; exact rfl
  ·rw [h1]; show _=_; rw [h2]
 | exc c =>
  obtain ⟨Γ',h1,_⟩:=h
  rw [h1]; exact rfl
 | bad=>exact trivial
end
end Vm
end
section
set_option linter.all false
set_option maxHeartbeats 1000000
set_option maxRecDepth 10000
namespace Vm
section
variable {Γ:En} {α β γ δ ι σ ρ κ:Type} {a b c e:EX} {ka:α→PV} {kb:β→PV}
theorem RefG.dec{o:Res TV}{r:Res TV}{f:α→TV}{D:TV→Res α}(h:RefG id o r)(hd:∀ x y,D x = .ok y→x=f y)(hx:∀ x c,D x ≠ .exc c):RefG f o (r.bind D):=by
 cases r with
 | ok x =>
  have h:o = .ok x:=h
  show RefG f o (D x)
  cases hD:D x with
  | ok y=>rw [h,hd x y hD]; exact rfl
  | exc c=>exact absurd hD (hx x c)
  | bad=>exact trivial
 | exc c=>exact h
 | bad=>exact trivial
def tvB(x:TV):Res Bool:=match x.2 with
 | .bl b=>.ok b
 | _=>.bad
variable {EP:En→Prop} {Post:Out→β→Prop} {d rest:ST} {S:Res σ} {K:σ→Res β}
end
end Vm
end
section
set_option linter.all false
set_option maxHeartbeats 1000000
set_option maxRecDepth 10000
namespace Vm
theorem tkLt_irr(x:Tk):tkLt x x=false:=by cases x <;> simp [tkLt]
theorem lexT_app:∀ (l a b:List Tk),lexT (l++a) (l++b)=lexT a b
 | [],_,_=>rfl
 | x :: l,a,b=>by rw [List.cons_append,List.cons_append,lexT,tkLt_irr,lexT_app l a b]; simp
class Ordk {α:Type} [DecidableEq α] (k:α→PV) where
 lt:α→α→Bool
 d:Nat
 tok:∀ a b l m,lexT (toks (k a)++l) (toks (k b)++m)=(lt a b || (decide (a=b) && lexT l m))
 irr:∀ a,lt a a=false
 al:∀ a b,alk (k a) (k b)=true
 sh:∀ n,d≤n→∀ a,shp n (k a)=true
 nn:∀ a,isNon (k a)=false
instance:Ordk kI where
 lt:=fun a b=>decide (a < b)
 d:=0
 tok:=fun a b l m=>by
  simp only [kI,toks,List.cons_append,List.nil_append,lexT,tkLt]
  rw [Bool.eq_iff_iff]
  by_cases h:a < b
  ·simp [h]
  ·by_cases e:a=b
   ·simp [e]
   ·have:b < a:=by omega
    simp [h,e,this]
 irr:=fun a=>by simp
 al:=fun _ _=>rfl
 sh:=fun n _ a=>by cases n <;> rfl
 nn:=fun _=>rfl
instance:Ordk kS where
 lt:=fun a b=>decide (a < b)
 d:=0
 tok:=fun a b l m=>by
  simp only [kS,toks,List.cons_append,List.nil_append,lexT,tkLt]
  by_cases h:a < b
  ·simp [h]
  ·by_cases e:a=b
   ·simp [e,List.lt_irrefl]
   ·have:b < a:=by
     rcases List.le_iff_lt_or_eq.mp (List.not_lt.mp h) with z | z
     ·exact z
     ·exact absurd z.symm e
    simp [h,e,this]
 irr:=fun a=>by simp [List.lt_irrefl]
 al:=fun _ _=>rfl
 sh:=fun n _ a=>by cases n <;> rfl
 nn:=fun _=>rfl
section
variable {α β γ δ:Type} [DecidableEq α] [DecidableEq β] {a:α→PV} {b:β→PV}
instance [Ordk a] [Ordk b]:Ordk (kP2 a b) where
 lt:=fun x y=>Ordk.lt a x.1 y.1 || (decide (x.1=y.1) && Ordk.lt b x.2 y.2)
 d:=max (Ordk.d a) (Ordk.d b)+1
 tok:=fun x y l m=>by
  simp only [kP2,toks,toksL,List.cons_append,List.append_assoc,List.nil_append]
  have h1:lexT (Sum.inl 1 :: (toks (a x.1)++(Sum.inl 1 :: (toks (b x.2)++(Sum.inl 0 :: l))))) (Sum.inl 1 :: (toks (a y.1)++(Sum.inl 1 :: (toks (b y.2)++(Sum.inl 0 :: m)))))=lexT (toks (a x.1)++(Sum.inl 1 :: (toks (b x.2)++(Sum.inl 0 :: l)))) (toks (a y.1)++(Sum.inl 1 :: (toks (b y.2)++(Sum.inl 0 :: m)))):=lexT_app [Sum.inl 1] _ _
  rw [h1,Ordk.tok]
  have h2:lexT (Sum.inl 1 :: (toks (b x.2)++(Sum.inl 0 :: l))) (Sum.inl 1 :: (toks (b y.2)++(Sum.inl 0 :: m)))=lexT (toks (b x.2)++(Sum.inl 0 :: l)) (toks (b y.2)++(Sum.inl 0 :: m)):=lexT_app [Sum.inl 1] _ _
  rw [h2,Ordk.tok]
  have h3:lexT (Sum.inl 0 :: l) (Sum.inl 0 :: m)=lexT l m:=lexT_app [Sum.inl 0] _ _
  rw [h3]
  have e:decide (x=y)=(decide (x.1=y.1) && decide (x.2=y.2)):=by rw [Bool.eq_iff_iff]; simp [Prod.ext_iff]
  rw [e]
  cases Ordk.lt a x.1 y.1 <;> cases decide (x.1=y.1) <;> cases Ordk.lt b x.2 y.2 <;> cases decide (x.2=y.2) <;> simp
 irr:=fun x=>by simp [Ordk.irr]
 al:=fun x y=>by simp only [kP2,alk,alkL,Ordk.al,Bool.and_self]
 sh:=fun n h x=>by
  cases n with
  | zero=>omega
  | succ n=>simp only [kP2,shp,shpL,Ordk.sh (k:=a) n (by omega),Ordk.sh (k:=b) n (by omega),Bool.and_true]
 nn:=fun _=>rfl
def ltL(lt:α→α→Bool):List α→List α→Bool
 | [],[]=>false
 | [],_ :: _=>true
 | _ :: _,[]=>false
 | x :: xs,y :: ys=>lt x y || (decide (x=y) && ltL lt xs ys)
theorem ltL_irr{lt:α→α→Bool}(h:∀ a,lt a a=false):∀ l,ltL lt l l=false
 | []=>rfl
 | x :: l=>by rw [ltL,h,ltL_irr h l]; simp
theorem tokL[Ordk a]:∀ (x y:List α) (l m:List Tk),lexT (toksL (x.map a)++l) (toksL (y.map a)++m)=(ltL (Ordk.lt a) x y || (decide (x=y) && lexT l m))
 | [],[],l,m=>by
  have:lexT (Sum.inl 0 :: l) (Sum.inl 0 :: m)=lexT l m:=lexT_app [Sum.inl 0] _ _
  simp [toksL,ltL,this]
 | [],y :: ys,l,m=>by simp [toksL,ltL,lexT,tkLt]
 | x :: xs,[],l,m=>by simp [toksL,ltL,lexT,tkLt]
 | x :: xs,y :: ys,l,m=>by
  simp only [List.map_cons,toksL,List.cons_append,List.append_assoc]
  have h1:lexT (Sum.inl 1 :: (toks (a x)++(toksL (xs.map a)++l))) (Sum.inl 1 :: (toks (a y)++(toksL (ys.map a)++m)))=lexT (toks (a x)++(toksL (xs.map a)++l)) (toks (a y)++(toksL (ys.map a)++m)):=lexT_app [Sum.inl 1] _ _
  rw [h1,Ordk.tok,tokL xs ys l m,ltL]
  have e:decide (x :: xs=y :: ys)=(decide (x=y) && decide (xs=ys)):=by rw [Bool.eq_iff_iff]; simp
  rw [e]
  cases Ordk.lt a x y <;> cases decide (x=y) <;> cases ltL (Ordk.lt a) xs ys <;> cases decide (xs=ys) <;> simp
theorem alkL_map[Ordk a]:∀ x y:List α,alkL (x.map a) (y.map a)=true
 | [],[]=>rfl
 | [],_ :: _=>rfl
 | _ :: _,[]=>rfl
 | x :: xs,y :: ys=>by rw [List.map_cons,List.map_cons,alkL,Ordk.al,alkL_map xs ys]; rfl
theorem shpL_ord[Ordk a](n:Nat)(h:Ordk.d a≤n):∀ l:List α,shpL n (l.map a)=true
 | []=>by rw [List.map_nil,shpL]
 | x :: l=>by rw [List.map_cons,shpL,Ordk.sh n h,shpL_ord n h l]; rfl
instance [Ordk a]:Ordk (kT a) where
 lt:=ltL (Ordk.lt a)
 d:=Ordk.d a+1
 tok:=fun x y l m=>by simp only [kT,toks]; exact tokL x y l m
 irr:=ltL_irr Ordk.irr
 al:=fun x y=>by simp only [kT,alk]; exact alkL_map x y
 sh:=fun n h x=>by
  cases n with
  | zero=>omega
  | succ n=>simp only [kT,shp]; exact shpL_ord n (by omega) x
 nn:=fun _=>rfl
end
section
variable {Γ:En} {α β γ δ ε ι σ τ ρ κ:Type} {a b c e:EX} {as:EXs} {A:Res α} {t u v:Tg} {ka:α→PV} {kb:β→PV} {kc:γ→PV} {kd:δ→PV}
class Srk (k:α→PV):Prop where
 s:(∀ a,∃ x r,k a = .tup (x :: r)) ∨ ∀ a x,k a ≠ .tup x
instance:Srk kI:=⟨.inr fun a x h=>by cases h⟩
instance:Srk kS:=⟨.inr fun a x h=>by cases h⟩
instance:Srk (kP2 ka kb):=⟨.inl fun a=>⟨_,_,rfl⟩⟩
def stepI(i j c:Int):List Int:=(List.range (stepN i j c)).map fun (k:Nat)=>i+(k:Int) * c
def rng3R(i j c:Int):Res (List Int):=if 0 < c∧c < 1073741824∧0≤i∧i < 1073741824∧0≤j∧j < 1073741824 then .ok (stepI i j c) else .bad
def strR(i:Int):Res (List Nat):=match i with
 | .ofNat n=>if n.log2 < 1920 then .ok (natS n) else .bad
 | .negSucc _=>.bad
theorem rStr{A:Res Int}(ha:RefG (tv t kI) (a Γ) A):RefG (tv .fz kS) (eStr a Γ) (A.bind strR):=ha.bind fun x=>by
 unfold strR
 cases x with
 | ofNat n =>
  by_cases h:n.log2 < 1920
  ·simp only [h,if_true]; show (if n.log2 < 1920 then _ else _)=_; rw [if_pos h]; rfl
  ·simp only [h,if_false]; exact trivial
 | negSucc n=>exact trivial
def intTR(s:List Nat):Res Int:=if s ≠ []∧s.all isFig∧s.length≤640 then .ok (figN s) else .bad
theorem rIntT{A:Res (List Nat)}(ha:RefG (tv t kS) (a Γ) A):RefG (tv .fz kI) (eIntT a Γ) (A.bind intTR):=ha.bind fun x=>by
 unfold intTR
 by_cases h:x ≠ []∧x.all isFig∧x.length≤640
 ·rw [if_pos h]; show (if x ≠ []∧x.all isFig∧x.length≤640 then _ else _)=_; rw [if_pos h]; rfl
 ·rw [if_neg h]; exact trivial
def partR(s y:List Nat):Res (List Nat×List Nat×List Nat):=if 0 < y.length∧s.length≤16777216 then (match partS y s [] with
 | [p,q,r]=>.ok (p,q,r)
 | _=>.bad) else .bad
theorem rPart{A B:Res (List Nat)}(ha:RefG (tv t kS) (a Γ) A)(hb:RefG (tv u kS) (b Γ) B):RefG (tv .fz (kP3 kS kS kS)) (eTxt partV a b Γ) (A.bind fun x=>B.bind fun y=>partR x y) :=
 ha.bind fun x=>hb.bind fun y=>by
  unfold partR
  by_cases h:0 < y.length∧x.length≤16777216
  ·rw [if_pos h]
   cases y with
   | nil=>exact absurd h.1 (by simp)
   | cons c y =>
    show RefG _ (if x.length≤16777216 then _ else _:Res TV) _
    rw [if_pos h.2]
    split
    ·rename_i p q r e
     rw [e]; exact rfl
    ·exact trivial
  ·rw [if_neg h]; exact trivial
end
def asB:Res TV→Res Bool
 | .ok (.fz,.bl b)=>.ok b
 | .exc c=>.exc c
 | _=>.bad
theorem RefG.asB{o:Res TV}:RefG (tv .fz kB) o (asB o):=by
 unfold Vm.asB
 split
 ·exact rfl
 ·exact rfl
 ·exact trivial
section
variable {Γ:En} {a b:EX} {E E2:Res TV}
theorem xVD(ha:RefG id (a Γ) E):RefG id (xVal a Γ) (E.bind fun x=>tvB x):=ha.bind fun _=>RefG.self
@[simp] def isiD (s:String) (x:TV):Res TV:=if isExo x.2 then .bad else .ok (tv .fz kB (kindIs s x.2))
theorem rOp1D{op:PV→Res PV}(ha:RefG id (a Γ) E):RefG id (eOp1 op a Γ) (E.bind fun x=>(op x.2).bind fzv):=ha.bind fun _=>RefG.self
end
end Vm
end
section
set_option linter.all false
set_option maxHeartbeats 1000000
namespace Vm
def repT(n:Nat)(k:Int):Bool:=decide (k≤1000) && decide (-1000≤k) && decide (n≤1000)
@[simp] def mulV2 (x y:TV):Res TV:=match x.2,y.2 with
 | .lst a,.int k=>if flat1 x.1 && repOk a.length k then .ok (.ow 1,.lst (List.replicate k.toNat a).flatten) else .bad
 | .tup a,.int k=>if repT a.length k then .ok (.fz,.tup (List.replicate k.toNat a).flatten) else .bad
 | p,q=>(opMul p q).bind fzv
@[simp] def eMul2 (a b:EX):EX:=fun Γ=>(a Γ).bind fun x=>(b Γ).bind fun y=>mulV2 x y
end Vm
end
section
set_option linter.all false
set_option maxHeartbeats 1000000
set_option maxRecDepth 10000
namespace Vm
section
variable {Γ:En} {α:Type} {a b:EX} {t u:Tg} {ka:α→PV}
theorem rMul2{A B:Res Int}(ha:RefG (tv t kI) (a Γ) A)(hb:RefG (tv u kI) (b Γ) B):RefG (tv .fz kI) (eMul2 a b Γ) (A.bind fun x=>B.bind fun y=>mulR x y) :=
 ha.bind fun x=>hb.bind fun y=>by
  unfold mulR; cases h:mulOk x y with
  | true=>simp [mulV2,h,RefG]
  | false=>exact trivial
end
end Vm
end
section
set_option linter.all false
set_option maxHeartbeats 1000000
namespace Vm
@[simp] def opShr:PV→PV→Res PV
 | .int i,.int j=>if 0≤j∧j≤1000 then .ok (.int (i / 2 ^ j.toNat)) else .bad
 | _,_=>.bad
@[simp] def opBit:PV→PV→Res PV
 | .int i,.int j=>if 0≤i∧0≤j then .ok (.int ((i.toNat &&& j.toNat:Nat):Int)) else .bad
 | _,_=>.bad
end Vm
end
section
set_option linter.all false
set_option maxHeartbeats 1000000
namespace Vm
def takesC(cs:List (Nat×Bool))(c:Nat):Option Bool:=(cs.find? fun x=>x.1 == c).map (·.2)
@[simp] def dTry1 (cs:List (Nat×Bool)) (b h:ST):ST:=fun Γ=>match b Γ with
 | .exc c Γ'=>match takesC cs c with
  | some true=>match h Γ' with
   | .exc _ _=>.bad
   | o=>o
  | some false=>.exc c Γ'
  | none=>.bad
 | o=>o
end Vm
end
section
set_option linter.all false
set_option maxHeartbeats 1000000
set_option maxRecDepth 10000
namespace Vm
section
variable {Γ:En} {a b:EX} {t u:Tg}
end
end Vm
end
section
set_option linter.all false
set_option maxHeartbeats 1000000
set_option maxRecDepth 10000
namespace Vm
end Vm
end
section
set_option linter.all false
set_option maxHeartbeats 1000000
set_option maxRecDepth 10000
namespace Vm
@[simp] theorem bind_ite {α β:Type} (c:Bool) (x y:Res α) (f:α→Res β):(if c then x else y).bind f=if c then x.bind f else y.bind f:=by cases c <;> rfl
@[simp] theorem then_nx' {σ ρ β:Type} (s:σ) (r:ρ→Res β) (k:σ→Res β):(Ctl.nx s).then r k=k s:=rfl
@[simp] theorem then_bk' {σ ρ β:Type} (s:σ) (r:ρ→Res β) (k:σ→Res β):(Ctl.bk s).then r k=k s:=rfl
@[simp] theorem then_rt' {σ ρ β:Type} (x:ρ) (r:ρ→Res β) (k:σ→Res β):(Ctl.rt x:Ctl σ ρ).then r k=r x:=rfl
@[simp] theorem noExc_ok {α:Type} (a:α):noExc (Res.ok a) = .ok a:=rfl
@[simp] theorem signs_length (l:List Nat):(signs l).length=l.length:=by simp [signs]
def gt{α:Type}[Inhabited α](l:List α)(i:Int):α:=l.getD i.toNat default
theorem gt_mem{α:Type}[Inhabited α]{l:List α}{i:Int}(h1:i.toNat < l.length):gt l i∈l:=by
 unfold gt; rw [List.getD,List.getElem?_eq_getElem h1]; exact List.getElem_mem h1
theorem ixR_gt{α:Type}[Inhabited α]{l:List α}{i:Int}(h0:0≤i)(h1:i < l.length):ixR l i = .ok (gt l i):=by
 unfold ixR
 rw [vAt_int h0 h1]
 have:i.toNat < l.length:=by omega
 simp [gt,List.getD,this]
def rngN(n:Nat):List Int:=(List.range n).map fun (k:Nat)=>(k:Int)
@[simp] theorem rngN_length (n:Nat):(rngN n).length=n:=by simp [rngN]
theorem rngI0(n:Int):rngI 0 n=rngN n.toNat:=by unfold rngI rngN; rw [Int.sub_zero]; exact List.map_congr_left fun k _=>by omega
theorem rngN_get{n i:Nat}{x:Int}(h:(rngN n)[i]? = some x):x=i∧i < n:=by
 unfold rngN at h
 rw [List.getElem?_map] at h
 have hi:i < n:=by
  cases e:(List.range n)[i]? with
  | none=>rw [e] at h; cases h
  | some k=>simpa using (List.getElem?_eq_some_iff.mp e).1
 rw [List.getElem?_range hi] at h
 exact ⟨by simpa using h.symm,hi⟩
theorem rngR_nat{n:Nat}(h:n≤1000000000):rngR (n:Int) = .ok (rngN n):=by
 unfold rngR
 rw [if_pos (rngOk_of (by omega) (by omega)),rngI0]; rfl
theorem rngR_int{n:Int}(h0:0≤n)(h:n≤1000000000):rngR n = .ok (rngN n.toNat):=by
 unfold rngR
 rw [if_pos (rngOk_of (by omega) (by omega)),rngI0]
@[simp] theorem rngI_length (lo hi:Int):(rngI lo hi).length=(hi - lo).toNat:=by simp [rngI]
theorem appR_ok{α:Type}{l:List α}{x:α}(h:l.length < 16777216):appR l x = .ok (l++[x]):=if_pos h
theorem catR_ok{α:Type}{l m:List α}(h:l.length+m.length≤16777216):catR l m = .ok (l++m):=if_pos h
theorem szR_ok{α:Type}{l:List α}(h:l.length≤16777216):szR l = .ok l:=if_pos h
theorem setR_ok{α:Type}{l:List α}{i:Int}{x:α}(h0:0≤i)(h1:i < l.length):setR l i x = .ok (l.set i.toNat x):=by
 unfold setR vIxN; rw [if_pos h0,if_pos h1]
theorem modR_ok{i j:Int}(h:0 < j):modR i j = .ok (i % j):=if_pos h
theorem mulR_ok{i j:Int}{m n:Nat}(ha:i.natAbs < 2 ^ m)(hb:j.natAbs < 2 ^ n)(h:m+n < 50000000):mulR i j = .ok (i * j):=if_pos (mulOk_of ha hb h)
@[simp] theorem getO_s {α:Type} (a:α):getO (some a) = .ok a:=rfl
theorem mapR_ok{ι α:Type}{f:ι→Res α}{g:ι→α}:∀ {l:List ι},(∀ x∈l,f x = .ok (g x))→mapR f l = .ok (l.map g)
 | [],_=>rfl
 | x :: l,h=>by rw [mapR,h x (by simp),bind_ok,mapR_ok fun y hy=>h y (by simp [hy])]; rfl
theorem mapR_sz{ι α:Type}{f:ι→Res α}(g:ι→α){l:List ι}(h:∀ x∈l,f x = .ok (g x))(hz:l.length≤16777216):(noExc (mapR f l)).bind szR = .ok (l.map g):=by
 rw [mapR_ok h]; exact szR_ok (by simpa using hz)
theorem forS_inv{σ ι:Type}{F:σ→ι→Res σ}(I:Nat→σ→Prop)(l:List ι)(s:σ)(h0:I 0 s)(hs:∀ i x s,l[i]? = some x→I i s→∃ s',F s x = .ok s'∧I (i+1) s'):∃ s',forS F l s = .ok s'∧I l.length s':=by
 have go:∀ (m:List ι) (k:Nat) (s:σ),I k s→(∀ j,m[j]? = l[k+j]?)→∃ s',forS F m s = .ok s'∧I (k+m.length) s':=by
  intro m
  induction m with
  | nil=>intro k s hi _; exact ⟨s,rfl,hi⟩
  | cons y m ih =>
   intro k s hi hm
   obtain ⟨s',h1,h2⟩:=hs k y s (by have:=hm 0; simpa using this.symm) hi
   obtain ⟨s2,h3,h4⟩:=ih (k+1) s' h2 fun j=>by have:=hm (j+1); rw [List.getElem?_cons_succ] at this; rw [this]; congr 1; omega
   refine ⟨s2,by rw [forS,h1]; exact h3,?_⟩
   rw [List.length_cons,show k+(m.length+1)=k+1+m.length by omega]
   exact h4
 obtain ⟨s',h1,h2⟩:=go l 0 s h0 fun j=>by rw [Nat.zero_add]
 exact ⟨s',h1,by rw [Nat.zero_add] at h2; exact h2⟩
theorem forT_all{ρ ι:Type}{F:Unit→ι→Res (Ctl Unit ρ)}:∀ {l:List ι},(∀ x∈l,F () x = .ok (.nx ()))→forT F l () = .ok (.nx ())
 | [],_=>rfl
 | x :: l,h=>by rw [forT,h x (by simp),bind_ok]; exact forT_all fun y hy=>h y (by simp [hy])
@[simp] theorem enumT_length {α:Type} (l:List α):(enumT l).length=l.length:=by simp [enumT]
theorem gt_map{α β:Type}[Inhabited α][Inhabited β](f:α→β){l:List α}{i:Int}(h:i.toNat < l.length):gt (l.map f) i=f (gt l i):=by
 unfold gt
 simp [List.getD,h]
end Vm
end
section
set_option Elab.async false
set_option linter.all false
set_option maxRecDepth 100000
set_option maxHeartbeats 1000000
namespace L2
open PySem PySem.Spec PyProof.Rows
theorem okD {P:Program} {w:World} {H:Hp} {h:Heap} {a:Addr} {its:List Value} {xs:List V} (hz:xs.length≤sizeLine) (r:Vals xs its) (e:h.get? a=some { cls:=.type "tuple",data:=.seq its.toArray }) :
  ObjOk P w H h a (.frz { cls:=.type "tuple",data:=.seq its.toArray } (.tup xs)):=⟨e,hz,its,r,_,e,rfl,_,rfl⟩
def NewT(xs:List V)(H:Hp)(Q:VK):Prop:=∀ (p:Addr) (o:Obj),H p=none→o.dict=none→Q (.ref p) (upd H p (.frz o (.tup xs)))
section
variable {X:Cx}
theorem newD{pins:List (Addr×Obj)}{σ:St}{H:Hp}{s:Shared}{Q:VK}{xs:List V}{its:List Value}(t':Nat)(I:Inv X pins σ H s)(hz:xs.length≤sizeLine)(r:Vals xs its)(q:NewT xs H Q) :
  EP X pins σ Q (.ref s.heap.objs.size) { s with heap:=s.heap.push { cls:=.type "tuple",data:=.seq its.toArray },toks:=t' } :=
 ⟨.ref s.heap.objs.size,upd H s.heap.objs.size (.frz { cls:=.type "tuple",data:=.seq its.toArray } (.tup xs)),I.laid (t':=t') (fun b u e=>Heap.get?_push_of_some _ e) (Nat.le_refl _) (okD hz r (Heap.get?_push_size _ rfl)),rfl,q _ _ (I.hok.fresh (Nat.le_refl _)) rfl⟩
def tTupD(t:TA):TE:=fun σ H Q=>t σ H fun xs H1=>xs.length≤sizeLine∧NewT xs H1 Q
theorem pe_tupD{es:List Expr}{t:TA}{pos:Pos}{x1}(h:PA X es t):PE X (.Tuple es x1 pos) (tTupD t):=by
 refine ⟨fun pins s σ H Q I hq=>?_⟩
 refine wpAny_Tuple_spliced (thn (h.run pos pins s σ H _ I hq) fun us s1 ⟨xs,H1,I1,r,z,q⟩=>⟨by rw [← r.length]; exact z,?_⟩)
 exact newD s1.toks I1 z r q
theorem call_tupleD:CallR X (.type "tuple") (fun xs H Q=>∃ p ys,xs=[.ref p]∧((SqL X.K H p ys∧NewT ys H Q) ∨ (SqT X.K H p ys∧Q (.ref p) H))):=by
 intro pins s σ H xs us Q I r h
 obtain ⟨p,ys,rfl,h⟩:=h
 obtain ⟨u,rfl,rx⟩:=vals1 r
 cases rx
 rcases h with ⟨hq,q⟩ | ⟨hq,q⟩
 ·obtain ⟨its,r',pl,hz⟩:=I.list hq
  have hlen:=r'.length
  refine call_tuple_list pl.isList (fun h' kp=>?_) (by simp only [List.size_toArray] <;> omega)
  have I1:Inv X pins σ H { s with heap:=h' }:=I.kept (t':=s.toks) kp
  have I2:Inv X pins σ (upd H h'.objs.size (.frz { cls:=.type "tuple",data:=.seq its.toArray } (.tup ys))) { s with heap:=h'.push { cls:=.type "tuple",data:=.seq its.toArray } } :=
   I1.laid (t':=s.toks) (fun b o e=>Heap.get?_push_of_some _ e) (Nat.le_refl _) (okD hz r' (Heap.get?_push_size _ rfl))
  exact ⟨.ref h'.objs.size,_,I2,rfl,q _ _ (I1.hok.fresh (Nat.le_refl _)) rfl⟩
 ·obtain ⟨its,r',pl,hz⟩:=I.tuple hq
  exact call_tuple_same pl ⟨.ref p,H,I,rfl,q⟩
def rSlD(K:PySem.W.Frag):V→Option Int→Option Int→Hp→VK→Prop:=fun x lo hi H Q=>∃ a xs,x = .ref a∧SqT K H a xs ∧
 (HT.sIx xs.length 0 lo=0∧HT.sIx xs.length xs.length hi=xs.length→Q (.ref a) H)∧(¬ (HT.sIx xs.length 0 lo=0∧HT.sIx xs.length xs.length hi=xs.length)→NewT (cutV xs lo hi) H Q)
theorem sl_tupD:SlR X (rSlD X.K):=by
 intro pins s σ H x v vl vu lo hi sl Q I rx hs pl pu h
 obtain ⟨a,xs,rfl,hx,q1,q2⟩:=h
 cases rx
 obtain ⟨its,r,ht,hz⟩:=I.tuple hx
 have hlen:its.toArray.size=xs.length:=by rw [List.size_toArray]; exact r.length.symm
 refine ⟨"tuple",_,PyProof.Rows.slot_tuple_getitem.lookup,ht.typeIs,?_⟩
 by_cases hw:HT.sIx xs.length 0 lo=0∧HT.sIx xs.length xs.length hi=xs.length
 ·exact getItem_tuple_whole ht hs pl pu (by rw [hlen]; exact hw) ⟨.ref a,H,I,rfl,q1 hw⟩
 ·refine HT.getItem_tuple_cut ht hs pl pu (by rw [hlen]; exact hw) ?_ (by rw [hlen]; exact hz)
  rw [hlen]
  exact newD s.toks I (Nat.le_trans (cutV_length xs lo hi) hz) ((r.drop (HT.sIx xs.length 0 lo)).take (HT.sIx xs.length xs.length hi - HT.sIx xs.length 0 lo)) (q2 hw)
def rCatD(K:PySem.W.Frag):R2:=fun x y H Q=>∃ a b xs ys,x = .ref a∧y = .ref b∧SqT K H a xs∧SqT K H b ys∧xs.length+ys.length≤sizeLine ∧
 (xs=[]→Q (.ref b) H)∧(xs ≠ []→ys=[]→Q (.ref a) H)∧(xs ≠ []→ys ≠ []→NewT (xs++ys) H Q)
theorem op_catD:OpR X (binaryOp .Add) (rCatD X.K):=by
 intro pins s σ H x y v u Q I rx ry h
 obtain ⟨a,b,xs,ys,rfl,rfl,ha,hb,hz,q0,q1,q2⟩:=h
 cases rx
 cases ry
 obtain ⟨its,r1,p1,_⟩:=I.tuple ha
 obtain ⟨its2,r2,p2,_⟩:=I.tuple hb
 by_cases hx:xs=[]
 ·subst hx
  cases r1
  exact cat_tup0 p1 p2 ⟨.ref b,H,I,rfl,q0 rfl⟩
 ·refine HT.cat_tup p1 p2 (fun z=>hx (r1.nil_iff.mp z)) (fun z=>⟨.ref a,H,I,rfl,q1 hx (r2.nil_iff.mp z)⟩) (fun z=>?_) (by rw [← r1.length,← r2.length]; exact hz)
  exact newD s.toks I (by rw [List.length_append]; exact hz) (r1.append r2) (q2 hx (fun w=>z (r2.nil_iff.mpr w)))
def rRepD(K:PySem.W.Frag):R2:=fun x y H Q=>∃ l k xs,x = .ref l∧y = .int k∧SqT K H l xs∧xs ≠ []∧2≤k∧k≤1000∧xs.length≤1000∧NewT (List.replicate k.toNat xs).flatten H Q
theorem op_repD:OpR X (binaryOp .Mult) (rRepD X.K):=by
 intro pins s σ H x y v u Q I rx ry h
 obtain ⟨l,k,xs,rfl,rfl,hT,hne,h1,h2,hz,q⟩:=h
 cases rx
 obtain ⟨t,rfl⟩:=ry
 obtain ⟨its,r,⟨⟨cls,dd,data,sl⟩,ho,hc,n,hd⟩,hs⟩:=I.tuple hT
 simp only at hc hd
 subst hc hd
 have hle:its.length=xs.length:=r.length.symm
 have hn:its ≠ []:=fun e=>hne (by
  rw [e] at hle
  exact List.eq_nil_of_length_eq_zero hle.symm)
 have hi:its.toArray.isEmpty=false:=by
  cases its with
  | nil=>exact absurd rfl hn
  | cons a b=>rfl
 have hsz0:its.toArray.size=xs.length:=by rw [List.size_toArray,hle]
 have hm:((its.toArray.size:Nat):Int) * k≤1000000:=by
  rw [hsz0]
  have a1:((xs.length:Nat):Int) * k≤1000 * k:=Int.mul_le_mul_of_nonneg_right (by omega) (by omega)
  omega
 have flen:(List.replicate k.toNat its).flatten.length≤sizeLine:=by
  rw [PyProof.Rows.lm_len_rep_flat,hle,sizeLine_eq]
  have a1:k.toNat * xs.length≤1000 * 1000:=Nat.mul_le_mul (by omega) hz
  omega
 have c0:(decide (k < -(2 ^ 63)) || decide (k ≥ 2 ^ 63))=false:=by
  rw [decide_eq_false (by omega),decide_eq_false (by omega)] <;> rfl
 have c1:(its.toArray.isEmpty || k == 1)=false:=by
  rw [hi,Bool.false_or]
  exact beq_eq_false_iff_ne.mpr (by omega)
 have c2:(decide (k≤0) || its.toArray.isEmpty)=false:=by
  rw [hi,Bool.or_false]
  exact decide_eq_false (by omega)
 have c4:Builtin.Tuple.tupleTooMany (((its.toArray.size:Nat):Int) * k)=false:=by
  unfold Builtin.Tuple.tupleTooMany
  rw [sizeLine_eq]
  exact decide_eq_false (by omega)
 refine wpAny_binaryOp_repeat_ref (T:="tuple") (U:="int") (by decide) ⟨_,ho,rfl⟩ (fun s'=>typeIs_int s' k t) noFill_tuple_mul F.fills_int_mul F.slot_int_rmul repeat_tuple F.slot_int_index.lookup
  (call_meets F.slot_int_rmul (typeIs_int s k t) F.entry_int_rmul (F.args_int_rmul_2 _ _) (int_rmul_tuple k t l its.toArray n dd sl)
   ⟨ho,rfl,⟨_,ho,rfl⟩,call_meets F.slot_tuple_mul ⟨_,ho,rfl⟩ F.entry_tuple_mul (F.args_tuple_mul_2 _ _) (tuple_mulW l its.toArray n dd sl k t c0 c1 c2 (by omega) c4 (by rw [size_rep,List.size_toArray]; exact flen)) ⟨ho,?_⟩⟩)
 rw [size_rep]
 exact newD s.toks I (by rw [PyProof.Rows.lm_len_rep_flat,sizeLine_eq]; have a1:k.toNat * xs.length≤1000 * 1000:=Nat.mul_le_mul (by omega) hz; omega) (r.rep k.toNat) q
def rPartD:V→List V→Hp→VK→Prop:=fun x xs H Q=>∃ a b,x = .str a∧xs=[.str b]∧(b.length == 0)=false∧a.length≤sizeLine∧NewT [.str (Txt.partition a b).1,.str (Txt.partition a b).2.1,.str (Txt.partition a b).2.2] H Q
theorem laid_partsD{pins:List (Addr×Obj)}{σ:St}{H:Hp}{s:Shared}{Q:VK}{x y z:Str}{t u v:Tok}{tk:Nat}(I:Inv X pins σ H s)(h:NewT [.str x,.str y,.str z] H Q) :
  EP X pins σ Q (.ref s.heap.objs.size) { s with heap:=s.heap.push { cls:=.type "tuple",data:=.seq [Value.str x t,.str y u,.str z v].toArray },toks:=tk } :=
 newD (its:=[.str x t,.str y u,.str z v]) (xs:=[.str x,.str y,.str z]) tk I (by show 3≤sizeLine; decide) (.cons ⟨t,rfl⟩ (.cons ⟨u,rfl⟩ (.cons ⟨v,rfl⟩ .nil))) h
theorem mt_partitionD:MtR X "str.partition" rPartD:=by
 intro pins s σ H x xs v us Q I rx rs h
 obtain ⟨a,b,rfl,rfl,hb,hz,h⟩:=h
 obtain ⟨t,rfl⟩:=rx
 cases rs with
 | cons r1 rs =>
  cases rs
  obtain ⟨u,rfl⟩:=r1
  refine call_meets F.slot_str_partition (typeIs_str _ _ _) F.entry_str_partition (F.args_str_partition_2 _ _) (meets_str_partition a b t u hb hz) ?_
  unfold Txt.partition at h
  revert h
  cases Builtin.Str.occurrences a b 0 a.length 1 with
  | nil=>intro h; exact laid_partsD I h
  | cons i r=>intro h; exact laid_partsD I h
theorem pe_partitionD {o e:Expr} {to te:TE} {apos pos:Pos} (ho:PE X o to) (he:PE X e te) (hs:starEach [e] X.env=[(false,eval e X.env)]:=by rfl) (hbase:attributeBase o "partition" X.env (eval o X.env)=eval o X.env:=by rfl) (hline:(apos.endLine == pos.line)=true:=by rfl) :
  PE X (.Call (.Attribute o "partition" apos) [e] [] pos) (tM1 rPartD to te) :=
 pe_m1 F.slot_str_partition F.type_str_partition mt_partitionD ho he hs hbase hline
end
end L2
end
section
set_option Elab.async false
set_option linter.all false
set_option maxRecDepth 100000
set_option maxHeartbeats 1000000
namespace Vl
open PySem L2 Vm PyProof.Rows
abbrev tq(t:Obj×List V):HO:=.frz t.1 (.tup t.2)
def TupAt(F:Hp)(a:Addr)(vs:List V):Prop:=∃ o:Obj,o.dict=none∧F a=some (tq (o,vs))
theorem TupAt.up{F G:Hp}{a:Addr}{vs:List V}(h:TupAt F a vs)(g:∀ a xs,F a=some (tq xs)→G a=some (tq xs)):TupAt G a vs:=let ⟨o,d,e⟩:=h; ⟨o,d,g _ _ e⟩
theorem TupAt.mono{F G:Hp}{a:Addr}{vs:List V}(g:Same F G)(h:TupAt F a vs):TupAt G a vs:=h.up fun _ _=>g _ _
theorem TupAt.sq{K:PySem.W.Frag}{F:Hp}{a:Addr}{vs:List V}(h:TupAt F a vs):SqT K F a vs:=let ⟨o,_,e⟩:=h; .inl (.inr ⟨o,e⟩)
theorem TupAt.new{F:Hp}{a:Addr}{vs:List V}{o:Obj}(d:o.dict=none):TupAt (upd F a (tq (o,vs))) a vs:=⟨o,d,upd_same⟩
theorem same_new{H:Hp}{p:Addr}{o:HO}(h:H p=none):Same H (upd H p o):=fun b x e=>by
 rw [upd_ne (ne_of_none e h)]; exact e
structure KK where
 fr:PySem.W.Frag
 P:Program
 w:World
 mg:Str→Option Value
instance:Coe KK PySem.W.Frag:=⟨KK.fr⟩
def noBoolV:Value→Bool
 | .bool _=>false
 | _=>true
def plIs(k:Leaf)(v:Value):Bool:=Leaf.isOf k v && noBoolV v
theorem plIs_leaf{k:Leaf}{v:Value}(h:plIs k v=true):Leaf.isOf k v=true:=by unfold plIs at h; rw [Bool.and_eq_true] at h; exact h.1
def plK(prog:Program)(w:World):KeyKind prog w Leaf where
 is:=plIs
 hash:=fun k=>k.key.hash w
 inj:=fun v a b ha hb=>(leafKind prog w).inj v a b (plIs_leaf ha) (plIs_leaf hb)
 byValue:=fun k v h=>(leafKind prog w).byValue k v (plIs_leaf h)
 pyHash:=fun hv h=>(leafKind prog w).pyHash (plIs_leaf hv) h
 eqBool:=fun hu hv h=>(leafKind prog w).eqBool (plIs_leaf hu) (plIs_leaf hv) h
 «strs»:=fun k x t v h=>by
  have e:=(leafKind prog w).strs k x t v (plIs_leaf h)
  have e:Leaf.isOf k v=v.isStr x:=e
  unfold plIs
  rw [e]
  cases v <;> first | rfl | exact Bool.and_true _
mutual
def keyG:PV→Bool
 | .non=>true
 | .int _=>true
 | .str l=>strG l
 | .tup l=>keyGL l
 | _=>false
def keyGL:List PV→Bool
 | []=>true
 | p :: ps=>keyG p && keyGL ps
end
mutual
def nkOf:PV→NestedKey
 | .int i=>.num i
 | .str l=>.text ⟨l.toArray⟩
 | .tup l=>.tup (nkOfL l)
 | _=>.none
def nkOfL:List PV→List NestedKey
 | []=>[]
 | p :: ps=>nkOf p :: nkOfL ps
end
mutual
def KeyV (F:Hp):NestedKey→V→Prop
 | .none,v=>v = .non
 | .num i,v=>v = .int i
 | .text x,v=>v = .str x
 | .tup l,v=>∃ a vs,v = .ref a∧TupAt F a vs∧KeyVs F l vs
def KeyVs (F:Hp):List NestedKey→List V→Prop
 | [],vs=>vs=[]
 | p :: ps,vs=>∃ v r,vs=v :: r∧KeyV F p v∧KeyVs F ps r
end
mutual
theorem KeyV.tups {F G:Hp} (g:∀ a xs,F a=some (tq xs)→G a=some (tq xs)):∀ (p:NestedKey) (v:V),KeyV F p v→KeyV G p v
 | .none,v,h=>h
 | .num _,v,h=>h
 | .text _,v,h=>h
 | .tup l,v,h=>by
  unfold KeyV at h ⊢
  obtain ⟨a,vs,h1,h2,h3⟩:=h
  exact ⟨a,vs,h1,h2.up g,KeyVs.tups g l vs h3⟩
theorem KeyVs.tups {F G:Hp} (g:∀ a xs,F a=some (tq xs)→G a=some (tq xs)):∀ (p:List NestedKey) (v:List V),KeyVs F p v→KeyVs G p v
 | [],v,h=>h
 | p :: ps,v,h=>by
  unfold KeyVs at h ⊢
  obtain ⟨u,r,h1,h2,h3⟩:=h
  exact ⟨u,r,h1,KeyV.tups g p u h2,KeyVs.tups g ps r h3⟩
end
def dHO(a:Addr)(o:Obj):HO:=.ext fun h=>h.get? a=some o
def LeafK(K:KK)(o:Obj)(nks:List NestedKey)(vs:List V):Prop:=∃ (kvs:List (Leaf×V)) (rs:List (Leaf×Value)) (es:Array DictEntry) (ep:Nat),o.ExactDict∧o.data = .dict es ep∧nks=kvs.map (fun p=>p.1.key)∧vs=kvs.map (·.2) ∧
 L2.KV kvs rs∧KeysOf (plK K.P K.w) es∧Pairs (plK K.P K.w) es.toList rs∧(rs.map (·.1)).Nodup∧kvs.length≤sizeLine
abbrev KN(F:Hp):List (NestedKey×V)→List (NestedKey×Addr×Value)→Prop:=Paired fun p q=>p.1=q.1∧KeyV F p.1 (.ref q.2.1)∧p.1.depth≤8∧RelV p.2 q.2.2
def TupK(K:KK)(F:Hp)(o:Obj)(nks:List NestedKey)(vs:List V):Prop:=∃ (kvs:List (NestedKey×V)) (xs:List (NestedKey×Addr×Value)) (es:Array DictEntry) (ep:Nat),o.ExactDict∧o.data = .dict es ep∧nks=kvs.map (·.1)∧vs=kvs.map (·.2) ∧
 KN F kvs xs∧es.toList=xs.map (entryOfKey (nestedKind K.P K.w))∧(xs.map (·.1)).Nodup∧kvs.length≤sizeLine
def DicK(K:KK)(F:Hp)(o:Obj)(nks:List NestedKey)(vs:List V):Prop:=LeafK K o nks vs ∨ TupK K F o nks vs
theorem DicK.tups{K:KK}{F G:Hp}{o:Obj}{nks:List NestedKey}{vs:List V}(g:∀ a xs,F a=some (tq xs)→G a=some (tq xs))(h:DicK K F o nks vs):DicK K G o nks vs:=by
 rcases h with h | ⟨kvs,xs,es,ep,h1,h2,h3,h4,h5,h6⟩
 ·exact .inl h
 ·exact .inr ⟨kvs,xs,es,ep,h1,h2,h3,h4,Paired.mapP h5 fun p q z=>⟨z.1,KeyV.tups g _ _ z.2.1,z.2.2⟩,h6⟩
theorem DicK.len{K:KK}{F:Hp}{o:Obj}{nks:List NestedKey}{vs:List V}(h:DicK K F o nks vs):nks.length=vs.length:=by
 rcases h with ⟨kvs,_,_,_,_,_,rfl,rfl,_⟩ | ⟨kvs,_,_,_,_,_,rfl,rfl,_⟩ <;> simp
def xName:Nat→Str
 | 0=>"VellumError"
 | 1=>"NoRow"
 | 2=>"NoPrices"
 | 3=>"NoSlips"
 | 4=>"NoNotes"
 | 5=>"NoLine"
 | 6=>"NoName"
 | 7=>"TwiceNamed"
 | _=>"TooMany"
def KK.xc(K:KK)(c:Nat):Value:=(K.mg (xName c)).getD .none
def fldN:List Str:=["rows_kept","days_kept","prices_now","fresh_now"]
def fldZ(vs:List V):List (Str×V):=fldN.zip vs
def excHO(oe:Obj):HO:=.frz oe (.ext fun _=>True)
def ExcO(K:KK)(c:Nat)(oe:Obj):Prop:=oe.cls=K.xc c∧oe.dict=none∧∃ vs,oe.data = .fields vs
mutual
def Rep (K:KK) (F:Hp):PV→V→Prop
 | .non,v=>v = .non
 | .bl b,v=>v = .bl b
 | .int i,v=>v = .int i
 | .str l,v=>v = .str ⟨l.toArray⟩∧strG l=true
 | .tup l,v=>∃ a vs,v = .ref a∧TupAt F a vs∧RepL K F l vs
 | .lst l,v=>∃ a vs,v = .ref a∧SqL K F a vs∧RepL K F l vs
 | .dic ks l,v=>∃ a o vs,v = .ref a∧F a=some (dHO a o)∧(a == sysModules)=false∧DicK K F o (ks.map nkOf) vs∧ks.all keyG=true∧RepL K F l vs
 | .exo 0 l,v=>∃ a Ch dx vs,v = .ref a∧F a=some (.ins Ch dx (fldZ vs))∧K.mg "House" = some (.ref Ch)∧l.length≤4∧RepL K F l vs
 | .exo 1 l,v=>∃ s a,l=[.str s]∧v = .ref a∧K.mg ⟨s.toArray⟩=some (.ref a)
 | .exo (c+2) _,v=>∃ a oe,v = .ref a∧F a=some (excHO oe)∧ExcO K c oe
def RepL (K:KK) (F:Hp):List PV→List V→Prop
 | [],vs=>vs=[]
 | p :: ps,vs=>∃ v r,vs=v :: r∧Rep K F p v∧RepL K F ps r
end
section
variable {K:KK} {F F' H H':Hp}
mutual
theorem Rep.mono (e:Same F F'):∀ (p:PV) (v:V),Rep K F p v→Rep K F' p v
 | .non,v,h=>h
 | .bl b,v,h=>h
 | .int i,v,h=>h
 | .str l,v,h=>h
 | .tup l,v,h=>by
  unfold Rep at h ⊢
  obtain ⟨a,vs,h1,h2,h3⟩:=h
  exact ⟨a,vs,h1,h2.mono e,RepL.mono e l vs h3⟩
 | .lst l,v,h=>by
  unfold Rep at h ⊢
  obtain ⟨a,vs,h1,h2,h3⟩:=h
  exact ⟨a,vs,h1,e.seq h2,RepL.mono e l vs h3⟩
 | .dic _ l,v,h=>by
  unfold Rep at h ⊢
  obtain ⟨a,o,vs,h1,h2,h3,h4,h5,h6⟩:=h
  exact ⟨a,o,vs,h1,e _ _ h2,h3,h4.tups fun _ _=>e _ _,h5,RepL.mono e l vs h6⟩
 | .exo 0 l,v,h=>by
  unfold Rep at h ⊢
  obtain ⟨a,Ch,dx,vs,h1,h2,h3,h4,h5⟩:=h
  exact ⟨a,Ch,dx,vs,h1,e _ _ h2,h3,h4,RepL.mono e l vs h5⟩
 | .exo 1 _,v,h=>by
  unfold Rep at h ⊢
  exact h
 | .exo (c+2) _,v,h=>by
  unfold Rep at h ⊢
  obtain ⟨a,oe,h1,h2,h3⟩:=h
  exact ⟨a,oe,h1,e _ _ h2,h3⟩
theorem RepL.mono (e:Same F F'):∀ (ps:List PV) (vs:List V),RepL K F ps vs→RepL K F' ps vs
 | [],vs,h=>h
 | p :: ps,vs,h=>by
  unfold RepL at h ⊢
  obtain ⟨v,r,h1,h2,h3⟩:=h
  exact ⟨v,r,h1,Rep.mono e p v h2,RepL.mono e ps r h3⟩
end
theorem RepL.len:∀ {ps:List PV} {vs:List V},RepL K F ps vs→vs.length=ps.length
 | [],vs,h=>by unfold RepL at h; rw [h]; rfl
 | p :: ps,vs,h=>by
  unfold RepL at h
  obtain ⟨v,r,rfl,_,h3⟩:=h
  simp [RepL.len h3]
theorem RepL.get:∀ {ps:List PV} {vs:List V} {i:Nat} {p:PV},RepL K F ps vs→ps[i]? = some p→∃ v,vs[i]? = some v∧Rep K F p v
 | [],vs,i,p,h,e=>by simp at e
 | q :: ps,vs,0,p,h,e=>by
  unfold RepL at h
  obtain ⟨v,r,rfl,h2,_⟩:=h
  simp at e; subst e
  exact ⟨v,rfl,h2⟩
 | q :: ps,vs,i+1,p,h,e=>by
  unfold RepL at h
  obtain ⟨v,r,rfl,_,h3⟩:=h
  simp at e
  obtain ⟨u,h4,h5⟩:=RepL.get h3 e
  exact ⟨u,by simpa using h4,h5⟩
theorem RepL.getV:∀ {ps:List PV} {vs:List V} {i:Nat} {v:V},RepL K F ps vs→vs[i]? = some v→∃ p,ps[i]? = some p∧Rep K F p v
 | [],vs,i,p,h,e=>by unfold RepL at h; subst h; simp at e
 | q :: ps,vs,0,p,h,e=>by
  unfold RepL at h
  obtain ⟨v,r,rfl,h2,_⟩:=h
  simp at e; subst e
  exact ⟨q,rfl,h2⟩
 | q :: ps,vs,i+1,p,h,e=>by
  unfold RepL at h
  obtain ⟨v,r,rfl,_,h3⟩:=h
  simp at e
  obtain ⟨u,h4,h5⟩:=RepL.getV h3 e
  exact ⟨u,by simpa using h4,h5⟩
theorem RepL.append:∀ {ps qs:List PV} {vs us:List V},RepL K F ps vs→RepL K F qs us→RepL K F (ps++qs) (vs++us)
 | [],qs,vs,us,h,g=>by unfold RepL at h; subst h; exact g
 | p :: ps,qs,vs,us,h,g=>by
  unfold RepL at h
  obtain ⟨v,r,rfl,h2,h3⟩:=h
  show RepL K F (p :: (ps++qs)) (v :: (r++us))
  unfold RepL
  exact ⟨v,r++us,rfl,h2,RepL.append h3 g⟩
theorem RepL.nil:RepL K F [] []:=by unfold RepL; rfl
theorem RepL.cons{p:PV}{ps:List PV}{v:V}{vs:List V}(h:Rep K F p v)(g:RepL K F ps vs):RepL K F (p :: ps) (v :: vs):=by
 unfold RepL; exact ⟨v,vs,rfl,h,g⟩
theorem RepL.drop:∀ {ps:List PV} {vs:List V} (n:Nat),RepL K F ps vs→RepL K F (ps.drop n) (vs.drop n)
 | _,_,0,h=>h
 | [],vs,n+1,h=>by unfold RepL at h; subst h; exact RepL.nil
 | p :: ps,vs,n+1,h=>by
  unfold RepL at h
  obtain ⟨v,r,rfl,_,h3⟩:=h
  exact RepL.drop n h3
theorem RepL.take:∀ {ps:List PV} {vs:List V} (n:Nat),RepL K F ps vs→RepL K F (ps.take n) (vs.take n)
 | _,_,0,h=>RepL.nil
 | [],vs,n+1,h=>by unfold RepL at h; subst h; exact RepL.nil
 | p :: ps,vs,n+1,h=>by
  unfold RepL at h
  obtain ⟨v,r,rfl,h2,h3⟩:=h
  exact RepL.cons h2 (RepL.take n h3)
theorem RepL.set{q:PV}{u:V}(g:Rep K F q u):∀ {ps:List PV} {vs:List V} (n:Nat),RepL K F ps vs→RepL K F (ps.set n q) (vs.set n u)
 | [],vs,n,h=>by unfold RepL at h; subst h; exact RepL.nil
 | p :: ps,vs,0,h=>by
  unfold RepL at h
  obtain ⟨v,r,rfl,h2,h3⟩:=h
  exact RepL.cons g h3
 | p :: ps,vs,n+1,h=>by
  unfold RepL at h
  obtain ⟨v,r,rfl,h2,h3⟩:=h
  exact RepL.cons h2 (RepL.set g n h3)
theorem RepL.reverse:∀ {ps:List PV} {vs:List V},RepL K F ps vs→RepL K F ps.reverse vs.reverse
 | [],vs,h=>by unfold RepL at h; subst h; exact RepL.nil
 | p :: ps,vs,h=>by
  unfold RepL at h
  obtain ⟨v,r,rfl,h2,h3⟩:=h
  rw [List.reverse_cons,List.reverse_cons]
  exact RepL.append (RepL.reverse h3) (RepL.cons h2 RepL.nil)
def toV:PV→V
 | .bl b=>.bl b
 | .int i=>.int i
 | .str l=>.str ⟨l.toArray⟩
 | _=>.non
theorem rep_int{i:Int}:Rep K F (.int i) (.int i):=by unfold Rep; rfl
theorem rep_bl{b:Bool}:Rep K F (.bl b) (.bl b):=by unfold Rep; rfl
theorem rep_non:Rep K F .non .non:=by unfold Rep; rfl
theorem rep_str{l:List Nat}(h:strG l=true):Rep K F (.str l) (.str ⟨l.toArray⟩):=by unfold Rep; exact ⟨rfl,h⟩
def OwnL(Q:List Addr→PV→V→Prop):List (List Addr)→List PV→List V→Prop
 | [],[],[]=>True
 | f :: fs,p :: ps,v :: vs=>Q f p v∧OwnL Q fs ps vs
 | _,_,_=>False
def Hold(K:KK)(F:Hp)(ho:Option HO)(a:Addr)(p:PV)(l:List PV)(vs:List V):Prop :=
 (p = .lst l∧ho=some (.lst vs)) ∨ (∃ ks o,p = .dic ks l∧ho=some (dHO a o)∧(a == sysModules)=false∧DicK K F o (ks.map nkOf) vs∧ks.all keyG=true) ∨
 ∃ Ch dx,p = .exo 0 l∧ho=some (.ins Ch dx (fldZ vs))∧K.mg "House" = some (.ref Ch)∧l.length≤4
theorem Hold.tups{K:KK}{F G:Hp}{ho:Option HO}{a:Addr}{p:PV}{l:List PV}{vs:List V}(g:∀ a xs,F a=some (tq xs)→G a=some (tq xs))(h:Hold K F ho a p l vs):Hold K G ho a p l vs:=by
 rcases h with h | ⟨ks,o,h1,h2,h3,h4,h5⟩ | h
 ·exact .inl h
 ·exact .inr (.inl ⟨ks,o,h1,h2,h3,h4.tups g,h5⟩)
 ·exact .inr (.inr h)
theorem Hold.there{K:KK}{F:Hp}{ho:Option HO}{a:Addr}{p:PV}{l:List PV}{vs:List V}(h:Hold K F ho a p l vs):∃ o,ho=some o∧∀ xs,o ≠ tq xs:=by
 rcases h with ⟨_,h⟩ | ⟨_,_,_,h,_⟩ | ⟨_,_,_,h,_⟩
 ·exact ⟨_,h,fun _ z=>by cases z⟩
 ·exact ⟨_,h,fun _ z=>by cases z⟩
 ·exact ⟨_,h,fun _ z=>by cases z⟩
def Own(K:KK)(F H:Hp):Nat→List Addr→PV→V→Prop
 | 0,fp,p,v=>fp=[]∧Rep K F p v
 | d+1,fp,p,v=>(∃ l a vs fps,v = .ref a∧Hold K F (H a) a p l vs∧fp=a :: fps.flatten∧OwnL (Own K F H d) fps l vs) ∨ (fp=[]∧boxed p=false∧Rep K F p v)
theorem Own.lst{K:KK}{F H:Hp}{d:Nat}{fp:List Addr}{l:List PV}{v:V}(h:Own K F H (d+1) fp (.lst l) v):∃ l' a vs fps,PV.lst l = .lst l'∧v = .ref a∧H a=some (.lst vs)∧fp=a :: fps.flatten∧OwnL (Own K F H d) fps l' vs:=by
 rcases h with ⟨l',a,vs,fps,h1,h2,h3,h4⟩ | ⟨_,h,_⟩
 ·rcases h2 with ⟨e,h2⟩ | ⟨_,_,e,_⟩ | ⟨_,_,e,_⟩
  ·exact ⟨l',a,vs,fps,e,h1,h2,h3,h4⟩
  ·cases e
  ·cases e
 ·cases h
theorem Own.mkL{K:KK}{F H:Hp}{d:Nat}{fp:List Addr}{p:PV}{v:V}(h:∃ l' a vs fps,p = .lst l'∧v = .ref a∧H a=some (.lst vs)∧fp=a :: fps.flatten∧OwnL (Own K F H d) fps l' vs):Own K F H (d+1) fp p v:=by
 obtain ⟨l',a,vs,fps,e,h1,h2,h3,h4⟩:=h
 exact .inl ⟨l',a,vs,fps,h1,.inl ⟨e,h2⟩,h3,h4⟩
theorem Own.unbox{K:KK}{F H:Hp}{p:PV}(hp:boxed p=false):∀ {d:Nat} {fp:List Addr} {v:V},Own K F H d fp p v→fp=[]∧Rep K F p v
 | 0,fp,v,h=>h
 | d+1,fp,v,h=>by
  rcases h with ⟨_,_,_,_,_,⟨e,_⟩ | ⟨_,_,e,_⟩ | ⟨_,_,e,_⟩,_⟩ | ⟨h1,_,h2⟩
  ·rw [e] at hp; cases hp
  ·rw [e] at hp; cases hp
  ·rw [e] at hp; cases hp
  ·exact ⟨h1,h2⟩
theorem OwnL.imp{Q R:List Addr→PV→V→Prop}:∀ {fs:List (List Addr)} {ps:List PV} {vs:List V},OwnL Q fs ps vs→(∀ f∈fs,∀ p v,Q f p v→R f p v)→OwnL R fs ps vs
 | [],[],[],h,_=>trivial
 | f :: fs,p :: ps,v :: vs,h,g=>⟨g f (by simp) p v h.1,OwnL.imp h.2 fun f hf=>g f (by simp [hf])⟩
 | [],[],_ :: _,h,_=>h.elim
 | [],_ :: _,_,h,_=>h.elim
 | _ :: _,[],_,h,_=>h.elim
 | _ :: _,_ :: _,[],h,_=>h.elim
theorem Own.mono(e:Same F F'):∀ (d:Nat) {fp:List Addr} {p:PV} {v:V},Own K F H d fp p v→(∀ a∈fp,H' a=H a)→Own K F' H' d fp p v
 | 0,fp,p,v,h,_=>⟨h.1,Rep.mono e p v h.2⟩
 | d+1,fp,p,v,h,g=>by
  rcases h with ⟨l,a,vs,fps,h1,h2,h3,h4⟩ | ⟨h1,h2,h3⟩
  rotate_left
  ·exact .inr ⟨h1,h2,Rep.mono e _ _ h3⟩
  refine .inl ⟨l,a,vs,fps,h1,by rw [g a (by simp [h3])]; exact h2.tups fun _ _=>e _ _,h3,h4.imp fun f hf p v q=>Own.mono e d q fun b hb=>g b ?_⟩
  rw [h3]
  exact List.mem_cons_of_mem _ (List.mem_flatten.mpr ⟨f,hf,hb⟩)
theorem Own.there:∀ (d:Nat) {fp:List Addr} {p:PV} {v:V},Own K F H d fp p v→∀ a∈fp,∃ o,H a=some o∧∀ xs,o ≠ tq xs
 | 0,fp,p,v,h,a,ha=>by rw [h.1] at ha; simp at ha
 | d+1,fp,p,v,h,b,hb=>by
  rcases h with ⟨l,a,vs,fps,h1,h2,h3,h4⟩ | ⟨h1,_⟩
  rotate_left
  ·rw [h1] at hb; simp at hb
  rw [h3] at hb
  rcases List.mem_cons.mp hb with rfl | hb
  ·exact h2.there
  ·obtain ⟨f,hf,hb⟩:=List.mem_flatten.mp hb
   clear h3 h2
   have:∀ {fs:List (List Addr)} {ps:List PV} {vs:List V},OwnL (Own K F H d) fs ps vs→f∈fs→∃ o,H b=some o∧∀ xs,o ≠ tq xs:=by
    intro fs
    induction fs with
    | nil=>intro ps vs _ hm; simp at hm
    | cons g gs ih =>
     intro ps vs ho hm
     cases ps with
     | nil=>exact ho.elim
     | cons p ps =>
      cases vs with
      | nil=>exact ho.elim
      | cons v vs =>
       rcases List.mem_cons.mp hm with e | hm
       ·subst e; exact Own.there d ho.1 b hb
       ·exact ih ho.2 hm
   exact this h4 hf
theorem Own.same(hf:Same F F')(hh:Same H H'){d:Nat}{fp:List Addr}{p:PV}{v:V}(h:Own K F H d fp p v):Own K F' H' d fp p v :=
 Own.mono hf d h fun a ha=>by
  obtain ⟨o,e,_⟩:=Own.there d h a ha
  rw [e]; exact hh _ _ e
theorem Own.rep(hf:Same F H):∀ (d:Nat) {fp:List Addr} {p:PV} {v:V},Own K F H d fp p v→Rep K H p v
 | 0,fp,p,v,h=>Rep.mono hf p v h.2
 | d+1,fp,p,v,h=>by
  rcases h with ⟨l,a,vs,fps,rfl,h2,h3,h4⟩ | ⟨_,_,h3⟩
  rotate_left
  ·exact Rep.mono hf _ _ h3
  have rl:RepL K H l vs:=by
   clear h3 h2
   have:∀ {fs:List (List Addr)} {ps:List PV} {vs:List V},OwnL (Own K F H d) fs ps vs→RepL K H ps vs:=by
    intro fs
    induction fs with
    | nil =>
     intro ps vs ho
     cases ps with
     | nil=>cases vs with
      | nil=>exact RepL.nil
      | cons v vs=>exact ho.elim
     | cons p ps=>exact ho.elim
    | cons g gs ih =>
     intro ps vs ho
     cases ps with
     | nil=>exact ho.elim
     | cons p ps =>
      cases vs with
      | nil=>exact ho.elim
      | cons v vs=>exact RepL.cons (Own.rep hf d ho.1) (ih ho.2)
   exact this h4
  rcases h2 with ⟨rfl,h2⟩ | ⟨ks,o,rfl,h2,h5,h6,h7⟩ | ⟨Ch,dx,rfl,h2,h5,h6⟩
  ·unfold Rep
   exact ⟨a,vs,rfl,SqL.of h2,rl⟩
  ·unfold Rep
   exact ⟨a,o,vs,rfl,h2,h5,h6.tups fun _ _=>hf _ _,h7,rl⟩
  ·unfold Rep
   exact ⟨a,Ch,dx,vs,rfl,h2,h5,h6,rl⟩
def frzF(F H:Hp)(fp:List Addr):Hp:=fun a=>if a∈fp then H a else F a
theorem frzF_same(h:∀ a∈fp,F a=none):Same F (frzF F H fp):=fun a o e=>by
 unfold frzF
 rw [if_neg fun ha=>by rw [h a ha] at e; cases e]
 exact e
theorem frzF_in(h:Same F H):Same (frzF F H fp) H:=fun a o e=>by
 unfold frzF at e
 by_cases ha:a∈fp
 ·rw [if_pos ha] at e; exact e
 ·rw [if_neg ha] at e; exact h _ _ e
theorem Own.frz(hs:Same F H){d:Nat}{fp fp':List Addr}{p:PV}{v:V}(h:Own K F H d fp p v)(hn:∀ a∈fp',F a=none)(hsub:∀ a∈fp,a∈fp'):Rep K (frzF F H fp') p v:=by
 have h1:Own K (frzF F H fp') (frzF F H fp') d fp p v:=Own.mono (frzF_same hn) d h fun a ha=>by unfold frzF; rw [if_pos (hsub a ha)]
 exact Own.rep (Same.refl _) d h1
end
def Tups(F H:Hp):Prop:=∀ a xs,H a=some (tq xs)→F a=some (tq xs)
structure Ext (F H F' H':Hp):Prop where
 ff:Same F F'
 hh:Same H H'
 fh:Same F' H'
 tp:Tups F' H'
 nw:∀ a,F' a ≠ none→F a ≠ none ∨ H a=none
section
variable {K:KK} {F H F1 H1 F2 H2:Hp}
theorem Ext.refl(h:Same F H)(t:Tups F H):Ext F H F H:=⟨Same.refl _,Same.refl _,h,t,fun _ q=>.inl q⟩
theorem Ext.trans(a:Ext F H F1 H1)(b:Ext F1 H1 F2 H2):Ext F H F2 H2 :=
 ⟨a.ff.trans b.ff,a.hh.trans b.hh,b.fh,b.tp,fun x q=>by
  rcases b.nw x q with q | q
  ·exact a.nw x q
  ·exact .inr (a.hh.free q)⟩
theorem tups_new{p:Addr}{o:HO}(t:Tups F H)(ho:∀ xs,o ≠ tq xs)(hf:F p=none):Tups F (upd H p o):=fun a xs e=>by
 by_cases ha:a=p
 ·subst ha; rw [upd_same] at e; cases e; exact (ho _ rfl).elim
 ·rw [upd_ne ha] at e; exact t a xs e
theorem Ext.tup(h:Same F H)(t:Tups F H){p:Addr}{o:Obj}{vs:List V}(hp:H p=none):Ext F H (upd F p (tq (o,vs))) (upd H p (tq (o,vs))):=by
 have fp:F p=none:=h.free hp
 refine ⟨same_new fp,same_new hp,fun a o e=>?_,fun a xs e=>?_,fun a q=>?_⟩
 ·by_cases ha:a=p
  ·subst ha; rw [upd_same] at e ⊢; exact e
  ·rw [upd_ne ha] at e ⊢; exact h _ _ e
 ·by_cases ha:a=p
  ·subst ha; rw [upd_same] at e ⊢; exact e
  ·rw [upd_ne ha] at e ⊢; exact t _ _ e
 ·by_cases ha:a=p
  ·subst ha; exact .inr hp
  ·rw [upd_ne ha] at q; exact .inl q
theorem Ext.lst(h:Same F H)(t:Tups F H){p:Addr}{vs:List V}(hp:H p=none):Ext F H F (upd H p (.lst vs)) :=
 ⟨Same.refl _,same_new hp,h.trans (same_new hp),tups_new t (fun _ e=>by cases e) (h.free hp),fun _ q=>.inl q⟩
theorem Ext.frz(e:Ext F H F1 H1){fp:List Addr}(hn:∀ a∈fp,F1 a=none∧H a=none):Ext F H (frzF F1 H1 fp) H1:=by
 refine ⟨e.ff.trans (frzF_same fun a ha=>(hn a ha).1),e.hh,frzF_in e.fh,fun a xs q=>?_,fun a q=>?_⟩
 ·exact frzF_same (fun a ha=>(hn a ha).1) _ _ (e.tp a xs q)
 ·by_cases ha:a∈fp
  ·exact .inr (hn a ha).2
  ·unfold frzF at q; rw [if_neg ha] at q; exact e.nw a q
def RVf(K:KK)(F H Hs:Hp):TV→V→List Addr→Prop
 | (.fz,p),v,_=>Rep K F p v
 | (.bw d,p),v,_=>∃ fp,Own K F H d fp p v
 | (.ow d,p),v,fp=>Own K F H d fp p v∧fp.Nodup∧∀ a∈fp,F a=none∧Hs a=none
def RV(K:KK)(F H Hs:Hp)(x:TV)(v:V):Prop:=∃ fp,RVf K F H Hs x v fp
theorem RVf.ext{Hs:Hp}(e:Ext F H F1 H1):∀ {x:TV} {v:V} {fp:List Addr},RVf K F H Hs x v fp→RVf K F1 H1 Hs x v fp
 | (.fz,p),v,_,h=>Rep.mono e.ff p v h
 | (.bw d,p),v,_,⟨fp,h⟩=>⟨fp,h.same e.ff e.hh⟩
 | (.ow d,p),v,fp,⟨h1,h2,h3⟩=>by
  refine ⟨h1.same e.ff e.hh,h2,fun a ha=>⟨?_,(h3 a ha).2⟩⟩
  cases q:F1 a with
  | none=>rfl
  | some o =>
   rcases e.nw a (by rw [q]; simp) with z | z
   ·exact (z (h3 a ha).1).elim
   ·obtain ⟨vs,z',_⟩:=h1.there d a ha
    rw [z] at z'
    cases z'
theorem RV.ext{Hs:Hp}(e:Ext F H F1 H1){x:TV}{v:V}(h:RV K F H Hs x v):RV K F1 H1 Hs x v:=let ⟨fp,h⟩:=h; ⟨fp,h.ext e⟩
theorem RVf.start{Hs Hs':Hp}(e:Same Hs Hs'):∀ {x:TV} {v:V} {fp:List Addr},RVf K F H Hs' x v fp→RVf K F H Hs x v fp
 | (.fz,p),v,_,h=>h
 | (.bw d,p),v,_,h=>h
 | (.ow d,p),v,fp,⟨h1,h2,h3⟩=>⟨h1,h2,fun a ha=>⟨(h3 a ha).1,e.free (h3 a ha).2⟩⟩
theorem RV.start{Hs Hs':Hp}(e:Same Hs Hs'){x:TV}{v:V}(h:RV K F H Hs' x v):RV K F H Hs x v:=let ⟨fp,h⟩:=h; ⟨fp,h.start e⟩
theorem RV.rep{Hs:Hp}(hf:Same F H):∀ {x:TV} {v:V},RV K F H Hs x v→Rep K H x.2 v
 | (.fz,p),v,⟨_,h⟩=>Rep.mono hf p v h
 | (.bw d,p),v,⟨_,fp,h⟩=>h.rep hf
 | (.ow d,p),v,⟨fp,h,_⟩=>h.rep hf
theorem RV.fz{Hs:Hp}{p:PV}{v:V}(h:Rep K F p v):RV K F H Hs (.fz,p) v:=⟨[],h⟩
theorem RVf.put{Hs:Hp}(e:Ext F1 Hs F H){x:TV}{v:V}{fp:List Addr}{p:PV}(h:RVf K F H Hs x v fp)(hp:putV x = .ok p):∃ F',Ext F1 Hs F' H∧Same F F'∧Rep K F' p v∧∀ a,F' a ≠ none→F a ≠ none ∨ a∈fp:=by
 obtain ⟨t,q⟩:=x
 cases t with
 | fz=>cases hp; exact ⟨F,e,Same.refl _,h,fun _ z=>.inl z⟩
 | bw d =>
  cases d with
  | zero=>cases hp; obtain ⟨fp,h⟩:=h; exact ⟨F,e,Same.refl _,h.2,fun _ z=>.inl z⟩
  | succ d=>cases hp
 | ow d =>
  cases hp
  obtain ⟨h1,h2,h3⟩:=h
  refine ⟨frzF F H fp,e.frz h3,frzF_same fun a ha=>(h3 a ha).1,h1.frz e.fh (fun a ha=>(h3 a ha).1) fun a ha=>ha,fun a z=>?_⟩
  by_cases ha:a∈fp
  ·exact .inr ha
  ·unfold frzF at z; rw [if_neg ha] at z; exact .inl z
theorem RV.put{Hs:Hp}(e:Ext F1 Hs F H){x:TV}{v:V}{p:PV}(h:RV K F H Hs x v)(hp:putV x = .ok p):∃ F',Ext F1 Hs F' H∧Rep K F' p v :=
 let ⟨_,h⟩:=h
 let ⟨F',h1,_,h2,_⟩:=h.put e hp
 ⟨F',h1,h2⟩
def RVs(K:KK)(F H Hs:Hp):List TV→List V→List Addr→Prop
 | [],vs,fp=>vs=[]∧fp=[]
 | x :: xs,vs,fp=>∃ v r f g,vs=v :: r∧fp=f++g∧RVf K F H Hs x v f∧RVs K F H Hs xs r g∧(∀ a∈f,a ∉ g)∧∀ a∈f,Hs a=none∧H a ≠ none
theorem RVs.ext{Hs:Hp}(e:Ext F H F1 H1):∀ {xs:List TV} {vs:List V} {fp:List Addr},RVs K F H Hs xs vs fp→RVs K F1 H1 Hs xs vs fp
 | [],_,_,h=>h
 | x :: xs,vs,fp,h=>by
  obtain ⟨v,r,f,g,h1,h2,h3,h4,h5,h6⟩:=h
  exact ⟨v,r,f,g,h1,h2,h3.ext e,RVs.ext e h4,h5,fun a ha=>⟨(h6 a ha).1,fun z=>(h6 a ha).2 (e.hh.free z)⟩⟩
theorem RVs.reps{Hs:Hp}(hf:Same F H):∀ {xs:List TV} {vs:List V} {fp:List Addr},RVs K F H Hs xs vs fp→RepL K H (xs.map (·.2)) vs
 | [],_,_,h=>by unfold RVs at h; rw [h.1]; exact RepL.nil
 | x :: xs,vs,fp,h=>by
  obtain ⟨v,r,f,g,h1,h2,h3,h4,h5,h6⟩:=h
  subst h1
  exact RepL.cons (RV.rep hf ⟨f,h3⟩) (RVs.reps hf h4)
theorem RVs.put{Hs:Hp}:∀ {xs:List TV} {vs:List V} {fp:List Addr} {ps:List PV} {F:Hp},Ext F1 Hs F H→RVs K F H Hs xs vs fp→putVs xs = .ok ps→∃ F',Ext F1 Hs F' H∧Same F F'∧RepL K F' ps vs∧∀ a,F' a ≠ none→F a ≠ none ∨ a∈fp
 | [],vs,fp,ps,F,e,h,hp=>by
  cases hp
  unfold RVs at h
  rw [h.1]
  exact ⟨F,e,Same.refl _,RepL.nil,fun _ z=>.inl z⟩
 | x :: xs,vs,fp,ps,F,e,h,hp=>by
  obtain ⟨v,r,f,g,h1,h2,h3,h4,h5,h6⟩:=h
  subst h1 h2
  unfold putVs at hp
  cases q:putV x with
  | ok p =>
   rw [q,bind_ok] at hp
   cases q2:putVs xs with
   | ok qs =>
    rw [q2,bind_ok] at hp
    cases hp
    obtain ⟨Fa,e1,s1,r1,n1⟩:=h3.put e q
    have h4':RVs K Fa H Hs xs r g:=by
     have go:∀ {xs:List TV} {vs:List V} {g:List Addr},RVs K F H Hs xs vs g→(∀ a∈f,a ∉ g)→RVs K Fa H Hs xs vs g:=by
      intro xs
      induction xs with
      | nil=>intro vs g h _; exact h
      | cons y ys ih =>
       intro vs g h hd
       obtain ⟨v,r,f',g',h1,h2,h3',h4',h5',h6'⟩:=h
       subst h2
       refine ⟨v,r,f',g',h1,rfl,?_,ih h4' fun a ha hm=>hd a ha (List.mem_append_right _ hm),h5',h6'⟩
       obtain ⟨t,pp⟩:=y
       cases t with
       | fz=>exact Rep.mono s1 _ _ h3'
       | bw d=>obtain ⟨fp',z⟩:=h3'; exact ⟨fp',z.same s1 (Same.refl _)⟩
       | ow d =>
        obtain ⟨z1,z2,z3⟩:=h3'
        refine ⟨z1.same s1 (Same.refl _),z2,fun a ha=>⟨?_,(z3 a ha).2⟩⟩
        cases qa:Fa a with
        | none=>rfl
        | some o =>
         rcases n1 a (by rw [qa]; simp) with z | z
         ·exact (z (z3 a ha).1).elim
         ·exact (hd a z (List.mem_append_left _ ha)).elim
     exact go h4 h5
    obtain ⟨Fb,e2,s2,r2,n2⟩:=RVs.put e1 h4' q2
    refine ⟨Fb,e2,s1.trans s2,RepL.cons (Rep.mono s2 _ _ r1) r2,fun a z=>?_⟩
    rcases n2 a z with z | z
    ·rcases n1 a z with z | z
     ·exact .inl z
     ·exact .inr (List.mem_append_left _ z)
    ·exact .inr (List.mem_append_right _ z)
   | exc c=>rw [q2] at hp; cases hp
   | bad=>rw [q2] at hp; cases hp
  | exc c=>rw [q] at hp; cases hp
  | bad=>rw [q] at hp; cases hp
theorem RVs.news{Hs:Hp}:∀ {xs:List TV} {vs:List V} {fp:List Addr},RVs K F H Hs xs vs fp→∀ a∈fp,Hs a=none∧H a ≠ none
 | [],_,_,h,a,ha=>by unfold RVs at h; rw [h.2] at ha; simp at ha
 | x :: xs,vs,fp,h,a,ha=>by
  obtain ⟨v,r,f,g,h1,h2,h3,h4,h5,h6⟩:=h
  subst h2
  rcases List.mem_append.mp ha with ha | ha
  ·exact h6 a ha
  ·exact RVs.news h4 a ha
theorem RVs.start{Hs Hs':Hp}(e:Same Hs Hs'):∀ {xs:List TV} {vs:List V} {fp:List Addr},RVs K F H Hs' xs vs fp→RVs K F H Hs xs vs fp
 | [],_,_,h=>h
 | x :: xs,vs,fp,h=>by
  obtain ⟨v,r,f,g,h1,h2,h3,h4,h5,h6⟩:=h
  exact ⟨v,r,f,g,h1,h2,h3.start e,RVs.start e h4,h5,fun a ha=>⟨e.free (h6 a ha).1,(h6 a ha).2⟩⟩
theorem RV.norm{Hs:Hp}:∀ {x:TV} {v:V},RV K F H Hs x v→∃ fp,RVf K F H Hs x v fp∧∀ a∈fp,Hs a=none∧H a ≠ none
 | (.fz,p),v,⟨_,h⟩=>⟨[],h,fun _ z=>by simp at z⟩
 | (.bw d,p),v,⟨_,h⟩=>⟨[],h,fun _ z=>by simp at z⟩
 | (.ow d,p),v,⟨fp,h⟩=>⟨fp,h,fun a ha=>⟨(h.2.2 a ha).2,by obtain ⟨vs,z,_⟩:=h.1.there d a ha; rw [z]; simp⟩⟩
end
end Vl
end
section
set_option Elab.async false
set_option linter.all false
set_option maxRecDepth 100000
set_option maxHeartbeats 1000000
namespace Vl
open PySem L2 Vm PyProof.Rows
structure Cn where
 K:KK
 base:Heap
abbrev Cn.mg(C:Cn):Str→Option Value:=C.K.mg
abbrev Cn.P(C:Cn):Program:=C.K.P
abbrev Cn.w(C:Cn):World:=C.K.w
def kkX(X:Cx):KK:=⟨X.K,X.prog,X.w,X.mg⟩
def cnOf(X:Cx):Cn:=⟨kkX X,X.base⟩
def Cn.xc(C:Cn)(c:Nat):Value:=(C.mg (xName c)).getD .none
structure Sta (C:Cn) (cm:Bool) (k:Nat) (N:List Str) (sc:Scope) (X:Cx):Prop where
 cn:cnOf X=C
 n:X.N=N
 s:X.env.scope=sc
 nd:N.Nodup
 c:cm=true→X.calm=true
 r:cm=true→Room k X.A
 u:X.A.units+100 < cLine
structure Good (K:KK) (F0 H0:Hp) (Γ:En) (σ:L2.St) (F H:Hp):Prop where
 ext:Ext F0 H0 F H
 len:Γ.length=σ.length
 slots:∃ fp:Nat→List Addr,(∀ i x,Γ.get i=some x→∃ v,σ[i]? = some (some v)∧RVf K F H H0 x v (fp i))∧∀ i j a,i ≠ j→a∈fp i→a ∉ fp j
def NoBw(Γ:En):Prop:=∀ i d p,Γ.get i ≠ some (.bw d,p)
section
variable {K:KK} {F0 H0 F H F1 H1:Hp} {Γ:En} {σ:L2.St}
theorem Good.next(g:Good K F0 H0 Γ σ F H)(e:Ext F H F1 H1):Good K F0 H0 Γ σ F1 H1:=by
 refine ⟨g.ext.trans e,g.len,?_⟩
 obtain ⟨fp,h1,h2⟩:=g.slots
 refine ⟨fp,fun i x hx=>?_,h2⟩
 obtain ⟨v,h3,h4⟩:=h1 i x hx
 exact ⟨v,h3,h4.ext e⟩
theorem Good.here(g:Good K F0 H0 Γ σ F H):Ext F H F H:=Ext.refl g.ext.fh g.ext.tp
def EOk(C:Cn)(W:WX)(σ:L2.St)(F H:Hp)(Q:VK):Res TV→Prop
 | .ok x=>∀ v F' H',Ext F H F' H'→RV C.K F' H' H x v→Q v H'
 | .exc c=>∀ F' H',Ext F H F' H'→W (C.xc c) none σ H'
 | .bad=>False
def TOk(C:Cn)(W:WX)(σ:L2.St)(F H:Hp)(Q:Bool→Hp→Prop):Res Bool→Prop
 | .ok b=>∀ F' H',Ext F H F' H'→Q b H'
 | .exc c=>∀ F' H',Ext F H F' H'→W (C.xc c) none σ H'
 | .bad=>False
def AOk(C:Cn)(W:WX)(σ:L2.St)(F H:Hp)(Q:List V→Hp→Prop):Res (List TV)→Prop
 | .ok xs=>∀ vs fp F' H',Ext F H F' H'→RVs C.K F' H' H xs vs fp→Q vs H'
 | .exc c=>∀ F' H',Ext F H F' H'→W (C.xc c) none σ H'
 | .bad=>False
variable {C:Cn} {W:WX} {Q:VK}
theorem EOk.next{r:Res TV}(h:EOk C W σ F H Q r)(e:Ext F H F1 H1):EOk C W σ F1 H1 Q r:=by
 cases r with
 | ok x=>exact fun v F' H' e' rv=>h v F' H' (e.trans e') (rv.start e.hh)
 | exc c=>exact fun F' H' e'=>h F' H' (e.trans e')
 | bad=>exact h
theorem TOk.next{Q:Bool→Hp→Prop}{r:Res Bool}(h:TOk C W σ F H Q r)(e:Ext F H F1 H1):TOk C W σ F1 H1 Q r:=by
 cases r with
 | ok x=>exact fun F' H' e'=>h F' H' (e.trans e')
 | exc c=>exact fun F' H' e'=>h F' H' (e.trans e')
 | bad=>exact h
theorem EOk.bind{f:TV→Res TV}{Q1:VK}{r:Res TV}(h:EOk C W σ F H Q (r.bind f))
  (q:∀ x v F1 H1,r = .ok x→Ext F H F1 H1→RV C.K F1 H1 H x v→EOk C W σ F H Q (f x)→Q1 v H1):EOk C W σ F H Q1 r:=by
 cases r with
 | ok x=>exact fun v F' H' e rv=>q x v F' H' rfl e rv h
 | exc c=>exact h
 | bad=>exact h
theorem EOk.bindT{f:TV→Res Bool}{Q:Bool→Hp→Prop}{Q1:VK}{r:Res TV}(h:TOk C W σ F H Q (r.bind f))
  (q:∀ x v F1 H1,r = .ok x→Ext F H F1 H1→RV C.K F1 H1 H x v→TOk C W σ F H Q (f x)→Q1 v H1):EOk C W σ F H Q1 r:=by
 cases r with
 | ok x=>exact fun v F' H' e rv=>q x v F' H' rfl e rv h
 | exc c=>exact h
 | bad=>exact h
theorem TOk.bind{f:Bool→Res TV}{Q1:Bool→Hp→Prop}{r:Res Bool}(h:EOk C W σ F H Q (r.bind f))
  (q:∀ x F1 H1,r = .ok x→Ext F H F1 H1→EOk C W σ F H Q (f x)→Q1 x H1):TOk C W σ F H Q1 r:=by
 cases r with
 | ok x=>exact fun F' H' e=>q x F' H' rfl e h
 | exc c=>exact h
 | bad=>exact h
theorem TOk.bindT{f:Bool→Res Bool}{Q Q1:Bool→Hp→Prop}{r:Res Bool}(h:TOk C W σ F H Q (r.bind f))
  (q:∀ x F1 H1,r = .ok x→Ext F H F1 H1→TOk C W σ F H Q (f x)→Q1 x H1):TOk C W σ F H Q1 r:=by
 cases r with
 | ok x=>exact fun F' H' e=>q x F' H' rfl e h
 | exc c=>exact h
 | bad=>exact h
theorem AOk.bind{f:List TV→Res TV}{Q1:List V→Hp→Prop}{r:Res (List TV)}(h:EOk C W σ F H Q (r.bind f))
  (q:∀ xs vs fp F1 H1,r = .ok xs→Ext F H F1 H1→RVs C.K F1 H1 H xs vs fp→EOk C W σ F H Q (f xs)→Q1 vs H1):AOk C W σ F H Q1 r:=by
 cases r with
 | ok x=>exact fun v fp F' H' e rv=>q x v fp F' H' rfl e rv h
 | exc c=>exact h
 | bad=>exact h
end
section
variable (C:Cn) (cm:Bool) (k:Nat) (N:List Str) (sc:Scope)
def DE(e:Expr)(E:EX):Prop:=∃ tb:WX→TE,(∀ X,Sta C cm k N sc X→∀ W,Takes X W→PE X e (tb W)) ∧
 ∀ W σ Γ F0 H0 F H Q,Good C.K F0 H0 Γ σ F H→EOk C W σ F H Q (E Γ)→tb W σ H Q
def DT(e:Expr)(E:TX):Prop:=∃ tb:WX→TT,(∀ X,Sta C cm k N sc X→∀ W,Takes X W→PT X e (tb W)) ∧
 ∀ W σ Γ F0 H0 F H Q,Good C.K F0 H0 Γ σ F H→TOk C W σ F H Q (E Γ)→tb W σ H Q
def DW(e:Expr)(E:TX):Prop:=∃ tb:WX→TT,(∀ X,Sta C cm k N sc X→∀ W,Takes X W→PW X e (tb W)) ∧
 ∀ W σ Γ F0 H0 F H Q,Good C.K F0 H0 Γ σ F H→TOk C W σ F H Q (E Γ)→tb W σ H Q
def DA(es:List Expr)(E:EXs):Prop:=∃ tb:WX→TA,(∀ X,Sta C cm k N sc X→∀ W,Takes X W→PA X es (tb W)) ∧
 ∀ W σ Γ F0 H0 F H Q,Good C.K F0 H0 Γ σ F H→AOk C W σ F H Q (E Γ)→tb W σ H Q
end
section
variable {C:Cn} {cm:Bool} {k:Nat} {N:List Str} {sc:Scope} {a b c:Expr} {A B:EX} {pos:Pos}
theorem de_var (i:Nat) {x:Str} (hN:N[i]? = some x:=by rfl) (hv:Vis sc x:=by first | exact Or.inl rfl | exact Or.inr (Or.inl rfl) | exact Or.inr (Or.inr rfl)) (hd:(x == ("__debug__":Str))=false:=by decide)
  (hcd:(x == ("__classdict__":Str))=false:=by decide):DE C cm k N sc (.Name x pos) (eVar i):=by
 refine ⟨fun _=>tVar i,fun X S W _=>pe_var (by rw [S.n]; exact hN) (by rw [S.s]; exact hv) hd hcd,fun W σ Γ F0 H0 F H Q g h=>?_⟩
 obtain ⟨fp,h1,_⟩:=g.slots
 unfold eVar at h
 cases e:Γ.get i with
 | none=>rw [e] at h; exact h.elim
 | some x =>
  obtain ⟨t,p⟩:=x
  obtain ⟨v,h3,h4⟩:=h1 i _ e
  refine ⟨v,h3,?_⟩
  rw [e] at h
  cases t with
  | fz=>exact h v F H g.here ⟨[],h4⟩
  | bw d=>exact h v F H g.here ⟨[],h4⟩
  | ow d=>exact h v F H g.here ⟨[],_,h4.1⟩
theorem de_int{i:Int}{j}:DE C cm k N sc (.Constant (.int i) j pos) (eC (.int i)):=⟨fun _=>tC (.int i),fun _ _ _ _=>pe_int,fun W σ Γ F0 H0 F H Q g h=>h _ F H g.here (.fz rep_int)⟩
theorem de_bl{i:Bool}{j}:DE C cm k N sc (.Constant (.bool i) j pos) (eC (.bl i)):=⟨fun _=>tC (.bl i),fun _ _ _ _=>pe_bl,fun W σ Γ F0 H0 F H Q g h=>h _ F H g.here (.fz rep_bl)⟩
theorem de_non{j}:DE C cm k N sc (.Constant .none j pos) (eC .non):=⟨fun _=>tC .non,fun _ _ _ _=>pe_non,fun W σ Γ F0 H0 F H Q g h=>h _ F H g.here (.fz rep_non)⟩
theorem de_str{x:Str}{j}(l:List Nat)(hx:x=⟨l.toArray⟩:=by rfl)(hl:strG l=true:=by rfl):DE C cm k N sc (.Constant (.str x) j pos) (eC (.str l)):=⟨fun _=>tC (.str x),fun _ _ _ _=>pe_str,fun W σ Γ F0 H0 F H Q g h=>h _ F H g.here (.fz (by rw [hx]; exact rep_str hl))⟩
def Glb(C:Cn)(x:Str)(p:PV):Prop:=∃ u,C.mg x=some u∧RelV (toV p) u∧∀ F,Rep C.K F p (toV p)
theorem de_glb {x:Str} {p:PV} (G:Glb C x p) (hg:sc.names.lookup x=some .globalImplicit:=by rfl) (hd:(x == ("__debug__":Str))=false:=by decide):DE C cm k N sc (.Name x pos) (eC p):=by
 obtain ⟨u,h1,h2,h3⟩:=G
 refine ⟨fun _=>tC (toV p),fun X S _ _=>pe_glob (u:=u) (show X.env.scope.names.lookup x=_ by rw [S.s]; exact hg) (by have:=S.cn; subst this; exact h1) h2 hd,fun W σ Γ F0 H0 F H Q g h=>h _ F H g.here (.fz (h3 F))⟩
theorem EOk.fzv{W:WX}{σ:L2.St}{F H F1 H1:Hp}{Q:VK}{r:Res PV}(h:EOk C W σ F H Q (r.bind Vm.fzv))(e:Ext F H F1 H1):∀ p v,r = .ok p→Rep C.K F1 p v→Q v H1:=fun p v hr rp=>by
 subst hr
 exact h v F1 H1 e (.fz rp)
def Op2(C:Cn)(r:R2)(op:PV→PV→Res PV):Prop:=∀ p q v u H Q,Rep C.K H p v→Rep C.K H q u→match op p q with
 | .ok z=>((∀ F,Rep C.K F z (toV z))→Q (toV z) H)→r v u H Q
 | .exc _=>False
 | .bad=>True
theorem de_op2{op:Operator}{r:R2}{f:PV→PV→Res PV}(ho:∀ X,Sta C cm k N sc X→OpR X (binaryOp op) r)(ho2:Op2 C r f)(ha:DE C cm k N sc a A)(hb:DE C cm k N sc b B):DE C cm k N sc (.BinOp a op b pos) (eOp2 f A B):=by
 obtain ⟨ta,pa,qa⟩:=ha
 obtain ⟨tb,pb,qb⟩:=hb
 refine ⟨fun W=>tOp r (ta W) (tb W),fun X S W T=>pe_op (ho X S) (pa X S W T) (pb X S W T),fun W σ Γ F0 H0 F H Q g h=>?_⟩
 refine qa W σ Γ F0 H0 F H _ g (EOk.bind h fun x v F1 H1 ex e1 r1 h1=>?_)
 refine qb W σ Γ F0 H0 F1 H1 _ (g.next e1) (EOk.bind (h1.next e1) fun y u F2 H2 ey e2 r2 h2=>?_)
 have q:=ho2 x.2 y.2 v u H2 Q ((r1.ext e2).rep e2.fh) (r2.rep e2.fh)
 cases e:f x.2 y.2 with
 | ok z =>
  rw [e] at q h2
  exact q fun rz=>(h2.next e2).fzv (Ext.refl e2.fh e2.tp) z (toV z) rfl (rz _)
 | exc c=>rw [e] at q; exact q.elim
 | bad=>rw [e] at h2; exact h2.elim
end
end Vl
end
section
set_option Elab.async false
set_option linter.all false
set_option maxRecDepth 100000
set_option maxHeartbeats 1000000
namespace Vl
open PySem L2 Vm PyProof.Rows
mutual
def dat:PV→PyData
 | .non=>.none
 | .bl b=>.bool b
 | .int i=>.int i
 | .str l=>.str ⟨l.toArray⟩
 | .tup l=>.tuple (datL l)
 | .lst l=>.list (datL l)
 | .dic _ _=>.none
 | .exo _ _=>.none
def datL:List PV→List PyData
 | []=>[]
 | x :: xs=>dat x :: datL xs
end
theorem datL_map:∀ l:List PV,datL l=l.map dat
 | []=>rfl
 | x :: xs=>by rw [datL,datL_map xs]; rfl
section
variable {K:KK} {H:Hp}
mutual
theorem rep_dp:∀ (n:Nat) (p:PV) (v:V),shp n p=true→Rep K H p v→Dp K H v (dat p)∧(dat p).canLay0=true∧(dat p).depth≤n
 | n,.non,v,_,h=>by unfold Rep at h; subst h; exact ⟨.non,rfl,Nat.zero_le _⟩
 | n,.bl b,v,_,h=>by unfold Rep at h; subst h; exact ⟨.bl b,rfl,Nat.zero_le _⟩
 | n,.int i,v,_,h=>by unfold Rep at h; subst h; exact ⟨.int i,rfl,Nat.zero_le _⟩
 | n,.str l,v,_,h=>by
  unfold Rep at h
  obtain ⟨rfl,h2⟩:=h
  refine ⟨.str _,?_,Nat.zero_le _⟩
  unfold strG at h2
  simp only [Bool.and_eq_true] at h2
  show PyData.strOk ⟨l.toArray⟩=true
  unfold PyData.strOk
  simp only [List.all_toArray]
  exact h2.2
 | 0,.tup l,v,s,_=>by unfold shp at s; cases s
 | 0,.lst l,v,s,_=>by unfold shp at s; cases s
 | n+1,.tup l,v,s,h=>by
  unfold shp at s
  unfold Rep at h
  obtain ⟨a,vs,rfl,h2,h3⟩:=h
  obtain ⟨d1,d2,d3⟩:=rep_dpL n l vs s h3
  exact ⟨.tup ((TupAt.sq h2)) d1,by unfold dat PyData.canLay0; exact d2,by unfold dat PyData.depth; omega⟩
 | n+1,.lst l,v,s,h=>by
  unfold shp at s
  unfold Rep at h
  obtain ⟨a,vs,rfl,h2,h3⟩:=h
  obtain ⟨d1,d2,d3⟩:=rep_dpL n l vs s h3
  exact ⟨.lst h2 d1,by unfold dat PyData.canLay0; exact d2,by unfold dat PyData.depth; omega⟩
 | n,.dic _ _,v,s,_=>by unfold shp at s; cases s
 | n,.exo _ _,v,s,_=>by unfold shp at s; cases s
theorem rep_dpL:∀ (n:Nat) (l:List PV) (vs:List V),shpL n l=true→RepL K H l vs→DpAll K H vs (datL l)∧PyData.canLayAll0 (datL l)=true∧PyData.depthAll (datL l)≤n
 | n,[],vs,_,h=>by unfold RepL at h; subst h; exact ⟨.nil,rfl,Nat.zero_le _⟩
 | n,x :: xs,vs,s,h=>by
  unfold shpL at s
  rw [Bool.and_eq_true] at s
  unfold RepL at h
  obtain ⟨v,r,rfl,h2,h3⟩:=h
  obtain ⟨a1,a2,a3⟩:=rep_dp n x v s.1 h2
  obtain ⟨b1,b2,b3⟩:=rep_dpL n xs r s.2 h3
  refine ⟨.cons a1 b1,by unfold datL PyData.canLayAll0; rw [a2,b2]; rfl,by unfold datL PyData.depthAll; omega⟩
end
end
mutual
theorem eqv_dat:∀ (n m:Nat) (p q:PV),shp n p=true→shp m q=true→PyData.eqv (dat p) (dat q)=eqv p q
 | n,m,.non,q,_,h=>by cases q <;> first | rfl | (simp [shp] at h)
 | n,m,.bl b,q,_,h=>by cases q <;> first | rfl | (simp [shp] at h)
 | n,m,.int b,q,_,h=>by cases q <;> first | rfl | (simp [shp] at h)
 | n,m,.str b,q,_,h=>by
  cases q with
  | str c =>
   show ((⟨b.toArray⟩:Str) == ⟨c.toArray⟩)=(b == c)
   by_cases e:b=c
   ·subst e; simp
   ·have e2:(⟨b.toArray⟩:Str) ≠ ⟨c.toArray⟩:=fun z=>e (by injection z with z1; simpa using congrArg Array.toList z1)
    rw [beq_eq_false_iff_ne.mpr e,beq_eq_false_iff_ne.mpr e2]
  | dic _=>simp [shp] at h
  | exo _ _=>simp [shp] at h
  | _=>rfl
 | n,m,.tup l,q,s,h=>by
  cases n with
  | zero=>simp [shp] at s
  | succ n =>
   cases q with
   | tup k =>
    cases m with
    | zero=>simp [shp] at h
    | succ m =>
     unfold shp at s h
     show PyData.eqvAll (datL l) (datL k)=eqvL l k
     exact eqv_datL n m l k s h
   | dic _=>simp [shp] at h
   | exo _ _=>simp [shp] at h
   | _=>rfl
 | n,m,.lst l,q,s,h=>by
  cases n with
  | zero=>simp [shp] at s
  | succ n =>
   cases q with
   | lst k =>
    cases m with
    | zero=>simp [shp] at h
    | succ m =>
     unfold shp at s h
     show PyData.eqvAll (datL l) (datL k)=eqvL l k
     exact eqv_datL n m l k s h
   | dic _=>simp [shp] at h
   | exo _ _=>simp [shp] at h
   | _=>rfl
 | n,m,.dic _ _,q,s,_=>by simp [shp] at s
 | n,m,.exo _ _,q,s,_=>by simp [shp] at s
theorem eqv_datL:∀ (n m:Nat) (p q:List PV),shpL n p=true→shpL m q=true→PyData.eqvAll (datL p) (datL q)=eqvL p q
 | _,_,[],[],_,_=>rfl
 | _,_,[],_ :: _,_,_=>rfl
 | _,_,_ :: _,[],_,_=>rfl
 | n,m,x :: xs,y :: ys,s,h=>by
  unfold shpL at s h
  rw [Bool.and_eq_true] at s h
  show (PyData.eqv (dat x) (dat y) && PyData.eqvAll (datL xs) (datL ys))=(eqv x y && eqvL xs ys)
  rw [eqv_dat n m x y s.1 h.1,eqv_datL n m xs ys s.2 h.2]
end
theorem shaped_dat{K:KK}{H:Hp}{n:Nat}{p:PV}{v:V}(hn:n≤64)(s:shp n p=true)(h:Rep K H p v):SeqAt.shaped (dat p)=true:=by
 obtain ⟨_,h2,h3⟩:=rep_dp n p v s h
 unfold SeqAt.shaped
 rw [h2,decide_eq_true (by omega)]
 rfl
section
variable {C:Cn} {cm:Bool} {k:Nat} {N:List Str} {sc:Scope} {a b c:Expr} {A B:EX} {pos:Pos} {X:Cx}
theorem Sta.K(S:Sta C cm k N sc X):X.K=C.K:=by have:=S.cn; subst this; rfl
theorem Sta.KK(S:Sta C cm k N sc X):kkX X=C.K:=by have:=S.cn; subst this; rfl
theorem mul_fits'{i j:Int}(h:mulOk i j=true):IntMulOk i j:=by
 have h3:i.natAbs.log2+j.natAbs.log2 < 50000000:=of_decide_eq_true h
 have b:∀ x:Int,Builtin.Int.intBits x≤x.natAbs.log2+1:=fun x=>by
  unfold Builtin.Int.intBits
  split <;> omega
 have h1:=b i
 have h2:=b j
 have e:bitsLine=134217728:=by decide
 unfold IntMulOk
 intro z
 rw [Bool.and_eq_true] at z
 have z2:=z.2
 unfold Builtin.Int.intTooBig at z2
 have z3:=of_decide_eq_true z2
 rw [e] at z3
 omega
theorem op_mulV:OpR X (binaryOp .Mult) (rI (fun i j=>mulOk i j=true) fun i j=>.int (i * j)):=opI fun _ _ _ _ _ _ _ hc q=>mul_int q (mul_fits' hc)
theorem op2_int{g:Int→Int→Int}{Cd:Int→Int→Prop}{f:PV→PV→Res PV}(h1:∀ p q z,f p q = .ok z→∃ i j,p = .int i∧q = .int j∧Cd i j∧z = .int (g i j))(h2:∀ p q c,f p q ≠ .exc c):Op2 C (rI Cd fun i j=>.int (g i j)) f:=by
 intro p q v u H Q rp rq
 cases e:f p q with
 | ok z =>
  obtain ⟨i,j,rfl,rfl,hc,rfl⟩:=h1 p q z e
  unfold Rep at rp rq
  subst rp rq
  exact fun hq=>⟨i,j,rfl,rfl,hc,hq fun F=>rep_int⟩
 | exc c=>exact h2 p q c e
 | bad=>trivial
theorem op2_cmp{g:Int→Int→Bool}{f:PV→PV→Res PV}(h1:∀ p q z,f p q = .ok z→∃ i j,p = .int i∧q = .int j∧z = .bl (g i j))(h2:∀ p q c,f p q ≠ .exc c):Op2 C (rI0 fun i j=>.bl (g i j)) f:=by
 intro p q v u H Q rp rq
 cases e:f p q with
 | ok z =>
  obtain ⟨i,j,rfl,rfl,rfl⟩:=h1 p q z e
  unfold Rep at rp rq
  subst rp rq
  exact fun hq=>⟨i,j,rfl,rfl,hq fun F=>rep_bl⟩
 | exc c=>exact h2 p q c e
 | bad=>trivial
theorem op2_mod:Op2 C (rI (fun _ j=>0 < j) fun i j=>.int (i % j)) opMod:=op2_int (g:=fun i j=>i % j) (by intro p q z h; cases p <;> cases q <;> simp_all [opMod]; split at h <;> simp_all) (by intro p q c h; cases p <;> cases q <;> simp_all [opMod]; split at h <;> simp_all)
theorem op2_fdiv:Op2 C (rI CDivW fun i j=>.int (i / j)) opFdiv:=op2_int (g:=fun i j=>i / j) (by intro p q z h; cases p <;> cases q <;> simp_all [opFdiv]; split at h <;> simp_all [CDivW]) (by intro p q c h; cases p <;> cases q <;> simp_all [opFdiv]; split at h <;> simp_all)
theorem op2_lt:Op2 C (rI0 fun i j=>.bl (decide (i < j))) opLt:=op2_cmp (g:=fun i j=>decide (i < j)) (by intro p q z h; cases p <;> cases q <;> simp_all [opLt]) (by intro p q c h; cases p <;> cases q <;> simp_all [opLt])
theorem op2_le:Op2 C (rI0 fun i j=>.bl (decide (i≤j))) opLe:=op2_cmp (g:=fun i j=>decide (i≤j)) (by intro p q z h; cases p <;> cases q <;> simp_all [opLe]) (by intro p q c h; cases p <;> cases q <;> simp_all [opLe])
theorem op2_gt:Op2 C (rI0 fun i j=>.bl (decide (j < i))) opGt:=op2_cmp (g:=fun i j=>decide (j < i)) (by intro p q z h; cases p <;> cases q <;> simp_all [opGt]) (by intro p q c h; cases p <;> cases q <;> simp_all [opGt])
theorem op2_ge:Op2 C (rI0 fun i j=>.bl (decide (j≤i))) opGe:=op2_cmp (g:=fun i j=>decide (j≤i)) (by intro p q z h; cases p <;> cases q <;> simp_all [opGe]) (by intro p q c h; cases p <;> cases q <;> simp_all [opGe])
theorem op2_eq:Op2 C (rEqD C.K) opEq:=by
 intro p q v u H Q rp rq
 unfold opEq
 by_cases h:(shp 60 p && shp 60 q)=true
 ·rw [if_pos h]
  rw [Bool.and_eq_true] at h
  intro hq
  have d:=(rep_dp 60 p v h.1 rp).1
  have d':=(rep_dp 60 q u h.2 rq).1
  refine ⟨dat p,dat q,d,d',shaped_dat (by omega) h.1 rp,shaped_dat (by omega) h.2 rq,?_⟩
  rw [eqv_dat 60 60 p q h.1 h.2]
  exact hq fun F=>rep_bl
 ·rw [if_neg h]; trivial
theorem op2_ne:Op2 C (rNeD C.K) opNe:=by
 intro p q v u H Q rp rq
 unfold opNe
 by_cases h:(shp 60 p && shp 60 q)=true
 ·rw [if_pos h]
  rw [Bool.and_eq_true] at h
  intro hq
  have d:=(rep_dp 60 p v h.1 rp).1
  have d':=(rep_dp 60 q u h.2 rq).1
  refine ⟨dat p,dat q,d,d',shaped_dat (by omega) h.1 rp,shaped_dat (by omega) h.2 rq,?_⟩
  rw [eqv_dat 60 60 p q h.1 h.2]
  exact hq fun F=>rep_bl
 ·rw [if_neg h]; trivial
theorem de_mod(ha:DE C cm k N sc a A)(hb:DE C cm k N sc b B):DE C cm k N sc (.BinOp a .Mod b pos) (eOp2 opMod A B) :=
 de_op2 (r:=rI (fun _ j=>0 < j) fun i j=>.int (i % j)) (fun X S=>op_mod) op2_mod ha hb
theorem de_fdiv(ha:DE C cm k N sc a A)(hb:DE C cm k N sc b B):DE C cm k N sc (.BinOp a .FloorDiv b pos) (eOp2 opFdiv A B) :=
 de_op2 (r:=rI CDivW fun i j=>.int (i / j)) (fun X S=>op_fdivW) op2_fdiv ha hb
def DCm(C:Cn)(cm:Bool)(k:Nat)(N:List Str)(sc:Scope)(op:CmpOp)(a b:Expr)(E:EX):Prop:=∃ tb:WX→TE,(∀ X,Sta C cm k N sc X→∀ W,Takes X W→PC X op a b (tb W)) ∧
 ∀ W σ Γ F0 H0 F H Q,Good C.K F0 H0 Γ σ F H→EOk C W σ F H Q (E Γ)→tb W σ H Q
theorem pc_of{op:CmpOp}{r:R2}{ta tb:TE}(ho:OpR X (compareOp op) r)(ha:PE X a ta)(hb:PE X b tb):PC X op a b (tOp r ta tb) :=
 ⟨fun pins s σ H Q I h=>binT ha hb I h fun v u s2 x y H2 I2 rx ry q=>ho pins s2 σ H2 x y v u Q I2 rx ry q⟩
theorem dc_op{op:CmpOp}{r:R2}{f:PV→PV→Res PV}(ho:∀ X,Sta C cm k N sc X→OpR X (compareOp op) r)(ho2:Op2 C r f)(ha:DE C cm k N sc a A)(hb:DE C cm k N sc b B):DCm C cm k N sc op a b (eOp2 f A B):=by
 obtain ⟨ta,pa,qa⟩:=ha
 obtain ⟨tb,pb,qb⟩:=hb
 refine ⟨fun W=>tOp r (ta W) (tb W),fun X S W T=>pc_of (ho X S) (pa X S W T) (pb X S W T),fun W σ Γ F0 H0 F H Q g h=>?_⟩
 refine qa W σ Γ F0 H0 F H _ g (EOk.bind h fun x v F1 H1 ex e1 r1 h1=>?_)
 refine qb W σ Γ F0 H0 F1 H1 _ (g.next e1) (EOk.bind (h1.next e1) fun y u F2 H2 ey e2 r2 h2=>?_)
 have q:=ho2 x.2 y.2 v u H2 Q ((r1.ext e2).rep e2.fh) (r2.rep e2.fh)
 cases e:f x.2 y.2 with
 | ok z =>
  rw [e] at q h2
  exact q fun rz=>(h2.next e2).fzv (Ext.refl e2.fh e2.tp) z (toV z) rfl (rz _)
 | exc c=>rw [e] at q; exact q.elim
 | bad=>rw [e] at h2; exact h2.elim
theorem de_c{op:CmpOp}{E:EX}(h:DCm C cm k N sc op a b E)(hm:behindInMarks op b=false:=by rfl):DE C cm k N sc (.Compare a [op] [b] pos) E:=by
 obtain ⟨tb,pb,qb⟩:=h
 exact ⟨tb,fun X S W T=>pe_cmp (pb X S W T) hm,qb⟩
theorem dc_lt(ha:DE C cm k N sc a A)(hb:DE C cm k N sc b B):DCm C cm k N sc .Lt a b (eOp2 opLt A B):=dc_op (r:=rI0 fun i j=>.bl (decide (i < j))) (fun X S=>op_lt) op2_lt ha hb
theorem dc_le(ha:DE C cm k N sc a A)(hb:DE C cm k N sc b B):DCm C cm k N sc .LtE a b (eOp2 opLe A B):=dc_op (r:=rI0 fun i j=>.bl (decide (i≤j))) (fun X S=>op_le) op2_le ha hb
theorem dc_gt(ha:DE C cm k N sc a A)(hb:DE C cm k N sc b B):DCm C cm k N sc .Gt a b (eOp2 opGt A B):=dc_op (r:=rI0 fun i j=>.bl (decide (j < i))) (fun X S=>op_gt) op2_gt ha hb
theorem dc_ge(ha:DE C cm k N sc a A)(hb:DE C cm k N sc b B):DCm C cm k N sc .GtE a b (eOp2 opGe A B):=dc_op (r:=rI0 fun i j=>.bl (decide (j≤i))) (fun X S=>op_ge) op2_ge ha hb
theorem dc_eq(ha:DE C cm k N sc a A)(hb:DE C cm k N sc b B):DCm C cm k N sc .Eq a b (eOp2 opEq A B):=dc_op (r:=rEqD C.K) (fun X S=>by rw [← S.K]; exact op_eqD (by have:=S.u; omega)) op2_eq ha hb
theorem dc_ne(ha:DE C cm k N sc a A)(hb:DE C cm k N sc b B):DCm C cm k N sc .NotEq a b (eOp2 opNe A B):=dc_op (r:=rNeD C.K) (fun X S=>by rw [← S.K]; exact op_neD (by have:=S.u; omega)) op2_ne ha hb
end
end Vl
end
section
set_option Elab.async false
set_option linter.all false
set_option maxRecDepth 100000
set_option maxHeartbeats 1000000
namespace Vl
open PySem L2 Vm PyProof.Rows
section
variable {C:Cn} {cm:Bool} {k:Nat} {N:List Str} {sc:Scope} {a b c:Expr} {A B:EX} {T U:TX} {pos:Pos} {X:Cx}
end
section
variable {C:Cn} {cm:Bool} {k:Nat} {N:List Str} {sc:Scope} {a b c:Expr} {A B:EX} {T U:TX} {pos:Pos} {X:Cx}
theorem de_un1{f:PV→Res PV}{e:Expr}(tm:TE→TE)(r:V→Hp→VK→Prop)(hp:∀ X,Sta C cm k N sc X→∀ t,PE X a t→PE X e (tm t))(ht:∀ t,tm t=fun σ H Q=>t σ H fun v H1=>r v H1 Q)
  (hr:∀ p v H Q,Rep C.K H p v→match f p with
   | .ok z=>((∀ F,Rep C.K F z (toV z))→Q (toV z) H)→r v H Q
   | .exc _=>False
   | .bad=>True)(ha:DE C cm k N sc a A):DE C cm k N sc e (eOp1 f A):=by
 obtain ⟨ta,pa,qa⟩:=ha
 refine ⟨fun W=>tm (ta W),fun X S W T=>hp X S _ (pa X S W T),fun W σ Γ F0 H0 F H Q g h=>?_⟩
 show tm (ta W) σ H Q
 rw [ht]
 refine qa W σ Γ F0 H0 F H _ g (EOk.bind h fun x v F1 H1 ex e1 r1 h1=>?_)
 have q:=hr x.2 v H1 Q (r1.rep e1.fh)
 cases e:f x.2 with
 | ok z =>
  rw [e] at h1 q
  exact q fun rz=>(h1.next e1).fzv (Ext.refl e1.fh e1.tp) z (toV z) rfl (rz _)
 | exc c=>rw [e] at q; exact q.elim
 | bad=>rw [e] at h1; exact h1.elim
theorem de_neg(ha:DE C cm k N sc a A):DE C cm k N sc (.UnaryOp .USub a pos) (eOp1 opNeg A) :=
 de_un1 (fun t=>tUn (rU fun i=>.int (-i)) t) (fun v H Q=>rU (fun i=>.int (-i)) v H Q) (fun X S t h=>pe_un un_neg h) (fun _=>rfl) (fun p v H Q h=>by
  cases p <;> simp only [opNeg] <;> (try trivial)
  unfold Rep at h
  subst h
  exact fun q=>⟨_,rfl,q fun F=>rep_int⟩) ha
theorem rep_isNon{K:KK}{H:Hp}{p:PV}{v:V}(h:Rep K H p v):decide (v = .non)=isNon p:=by
 cases p <;> unfold Rep at h
 case non=>subst h; rfl
 case bl=>subst h; rfl
 case int=>subst h; rfl
 case str=>obtain ⟨rfl,_⟩:=h; rfl
 case tup=>obtain ⟨_,_,rfl,_⟩:=h; rfl
 case lst=>obtain ⟨_,_,rfl,_⟩:=h; rfl
 case dic=>obtain ⟨_,_,_,rfl,_⟩:=h; rfl
 case exo c l =>
  cases c with
  | zero=>obtain ⟨_,_,_,_,rfl,_⟩:=h; rfl
  | succ c =>
   cases c with
   | zero=>obtain ⟨_,_,_,rfl,_⟩:=h; rfl
   | succ c=>obtain ⟨_,_,rfl,_⟩:=h; rfl
theorem dc_isN{j pos'}(ha:DE C cm k N sc a A):DCm C cm k N sc .Is a (.Constant .none j pos') (eOp1 opIsN A):=by
 obtain ⟨ta,pa,qa⟩:=ha
 refine ⟨fun W=>tIsN (ta W),fun X S W T=>pc_isN (pa X S W T),fun W σ Γ F0 H0 F H Q g h=>?_⟩
 refine qa W σ Γ F0 H0 F H _ g (EOk.bind h fun x v F1 H1 ex e1 r1 h1=>?_)
 show Q (.bl (decide (v = .non))) H1
 rw [rep_isNon (r1.rep e1.fh)]
 exact h1 _ F1 H1 e1 (.fz rep_bl)
theorem dc_notN{j pos'}(ha:DE C cm k N sc a A):DCm C cm k N sc .IsNot a (.Constant .none j pos') (eOp1 opNotN A):=by
 obtain ⟨ta,pa,qa⟩:=ha
 refine ⟨fun W=>tNotN (ta W),fun X S W T=>pc_notN (pa X S W T),fun W σ Γ F0 H0 F H Q g h=>?_⟩
 refine qa W σ Γ F0 H0 F H _ g (EOk.bind h fun x v F1 H1 ex e1 r1 h1=>?_)
 show Q (.bl (!decide (v = .non))) H1
 rw [rep_isNon (r1.rep e1.fh)]
 exact h1 _ F1 H1 e1 (.fz rep_bl)
theorem de_not(ha:DE C cm k N sc a A):DE C cm k N sc (.UnaryOp .Not a pos) (eOp1 opNot A) :=
 de_un1 (fun t=>tNotV t) (fun v H Q=>∃ c,v = .bl c∧Q (.bl (!c)) H) (fun X S t h=>pe_not h) (fun _=>rfl) (fun p v H Q h=>by
  cases p <;> simp only [opNot] <;> (try trivial)
  unfold Rep at h
  subst h
  exact fun q=>⟨_,rfl,q fun F=>rep_bl⟩) ha
theorem dt_val{e:Expr}(h:DE C cm k N sc e A)(he:∀ (env:PySem.Env) (whole:Sem Value),isTrue e env whole=(do let v ← whole; standAt e.pos; holding [v] (truthy v)):=by intro _ _; rfl):DT C cm k N sc e (xVal A):=by
 obtain ⟨ta,pa,qa⟩:=h
 refine ⟨fun W=>tB (ta W),fun X S W T=>pt_val (pa X S W T) (he _),fun W σ Γ F0 H0 F H Q g h=>?_⟩
 refine qa W σ Γ F0 H0 F H _ g (EOk.bindT h fun x v F1 H1 ex e1 r1 h1=>?_)
 have r:=r1.rep e1.fh
 obtain ⟨t,p⟩:=x
 cases p with
 | bl b=>unfold Rep at r; exact ⟨b,r,h1 F1 H1 e1⟩
 | _=>exact h1.elim
theorem dt_c{op:CmpOp}{E:EX}(h:DCm C cm k N sc op a b E)(hm:behindInMarks op b=false:=by rfl):DT C cm k N sc (.Compare a [op] [b] pos) (xVal E):=by
 obtain ⟨tb,pb,qb⟩:=h
 refine ⟨fun W=>tB (tb W),fun X S W T=>pt_cmp (pb X S W T) hm,fun W σ Γ F0 H0 F H Q g h=>?_⟩
 refine qb W σ Γ F0 H0 F H _ g (EOk.bindT h fun x v F1 H1 ex e1 r1 h1=>?_)
 have r:=r1.rep e1.fh
 obtain ⟨t,p⟩:=x
 cases p with
 | bl b=>unfold Rep at r; exact ⟨b,r,h1 F1 H1 e1⟩
 | _=>exact h1.elim
theorem dt_not(h:DT C cm k N sc a T):DT C cm k N sc (.UnaryOp .Not a pos) (xNot T):=by
 obtain ⟨ta,pa,qa⟩:=h
 refine ⟨fun W=>tNot (ta W),fun X S W T=>pt_not (pa X S W T),fun W σ Γ F0 H0 F H Q g h=>?_⟩
 exact qa W σ Γ F0 H0 F H _ g (TOk.bindT h fun b F1 H1 eb e1 h1=>h1 F1 H1 e1)
theorem dt_chain{e:Expr}(h:DW C cm k N sc e T):DT C cm k N sc e T:=by
 obtain ⟨ta,pa,qa⟩:=h
 exact ⟨ta,fun X S W T=>(pa X S W T).pt,qa⟩
theorem dw_and1(h:DT C cm k N sc a T):DW C cm k N sc (.BoolOp .And [a] pos) T:=by
 obtain ⟨ta,pa,qa⟩:=h
 exact ⟨ta,fun X S W T=>pw_and1 (pa X S W T),qa⟩
theorem dw_or1(h:DT C cm k N sc a T):DW C cm k N sc (.BoolOp .Or [a] pos) T:=by
 obtain ⟨ta,pa,qa⟩:=h
 exact ⟨ta,fun X S W T=>pw_or1 (pa X S W T),qa⟩
theorem dw_and{rest:List Expr}(ha:DT C cm k N sc a T)(hb:DW C cm k N sc (.BoolOp .And (b :: rest) pos) U):DW C cm k N sc (.BoolOp .And (a :: b :: rest) pos) (xAnd T U):=by
 obtain ⟨ta,pa,qa⟩:=ha
 obtain ⟨tb,pb,qb⟩:=hb
 refine ⟨fun W=>tAnd (ta W) (tb W),fun X S W T=>pw_and (pa X S W T) (pb X S W T),fun W σ Γ F0 H0 F H Q g h=>?_⟩
 refine qa W σ Γ F0 H0 F H _ g (TOk.bindT h fun c F1 H1 eb e1 h1=>?_)
 cases c with
 | true=>exact iteT (qb W σ Γ F0 H0 F1 H1 Q (g.next e1) (h1.next e1))
 | false=>exact iteF (h1 F1 H1 e1)
theorem dw_or{rest:List Expr}(ha:DT C cm k N sc a T)(hb:DW C cm k N sc (.BoolOp .Or (b :: rest) pos) U):DW C cm k N sc (.BoolOp .Or (a :: b :: rest) pos) (xOr T U):=by
 obtain ⟨ta,pa,qa⟩:=ha
 obtain ⟨tb,pb,qb⟩:=hb
 refine ⟨fun W=>tOr (ta W) (tb W),fun X S W T=>pw_or (pa X S W T) (pb X S W T),fun W σ Γ F0 H0 F H Q g h=>?_⟩
 refine qa W σ Γ F0 H0 F H _ g (TOk.bindT h fun c F1 H1 eb e1 h1=>?_)
 cases c with
 | true=>exact iteT (h1 F1 H1 e1)
 | false=>exact iteF (qb W σ Γ F0 H0 F1 H1 Q (g.next e1) (h1.next e1))
theorem de_one{op}(h:DE C cm k N sc a A):DE C cm k N sc (.BoolOp op [a] pos) A:=by
 obtain ⟨ta,pa,qa⟩:=h
 exact ⟨ta,fun X S W T=>pe_one (pa X S W T),qa⟩
theorem de_and{rest:List Expr}(ha:DE C cm k N sc a A)(hb:DE C cm k N sc (.BoolOp .And (b :: rest) pos) B):DE C cm k N sc (.BoolOp .And (a :: b :: rest) pos) (eAnd A B):=by
 obtain ⟨ta,pa,qa⟩:=ha
 obtain ⟨tb,pb,qb⟩:=hb
 refine ⟨fun W=>tAndV (ta W) (tb W),fun X S W T=>pe_and (pa X S W T) (pb X S W T),fun W σ Γ F0 H0 F H Q g h=>?_⟩
 refine qa W σ Γ F0 H0 F H _ g (EOk.bind h fun x v F1 H1 ex e1 r1 h1=>?_)
 have r:=r1.rep e1.fh
 obtain ⟨t,p⟩:=x
 cases p with
 | bl c =>
  unfold Rep at r
  refine ⟨c,r,?_⟩
  cases c with
  | true=>exact iteT (qb W σ Γ F0 H0 F1 H1 Q (g.next e1) (h1.next e1))
  | false=>exact iteF (h1 _ F1 H1 e1 (.fz rep_bl))
 | _=>exact h1.elim
end
end Vl
end
section
set_option Elab.async false
set_option linter.all false
set_option maxRecDepth 100000
set_option maxHeartbeats 1000000
namespace Vl
open PySem L2 Vm PyProof.Rows
section
variable {C:Cn} {cm:Bool} {k:Nat} {N:List Str} {sc:Scope} {a b c e:Expr} {es:List Expr} {A B:EX} {As:EXs} {T U:TX} {pos:Pos} {X:Cx}
theorem AOk.next{W:WX}{σ:L2.St}{F H F1 H1:Hp}{Q:List V→Hp→Prop}{r:Res (List TV)}(h:AOk C W σ F H Q r)(e:Ext F H F1 H1):AOk C W σ F1 H1 Q r:=by
 cases r with
 | ok x=>exact fun v fp F' H' e' rv=>h v fp F' H' (e.trans e') (rv.start e.hh)
 | exc c=>exact fun F' H' e'=>h F' H' (e.trans e')
 | bad=>exact h
theorem da_nil:DA C cm k N sc [] eNil:=⟨fun _=>tNil,fun _ _ _ _=>pa_nil,fun W σ Γ F0 H0 F H Q g h=>h [] [] F H g.here ⟨rfl,rfl⟩⟩
theorem da_cons(ha:DE C cm k N sc e A)(hs:DA C cm k N sc es As)(hst:∀ env:PySem.Env,starEach (e :: es) env=(false,eval e env) :: starEach es env:=by intro _; rfl):DA C cm k N sc (e :: es) (eCons A As):=by
 obtain ⟨ta,pa,qa⟩:=ha
 obtain ⟨tb,pb,qb⟩:=hs
 refine ⟨fun W=>tCons (ta W) (tb W),fun X S W T=>pa_cons (pa X S W T) (pb X S W T) (hst _),fun W σ Γ F0 H0 F H Q g h=>?_⟩
 refine qa W σ Γ F0 H0 F H _ g ?_
 unfold eCons at h
 cases ex:A Γ with
 | exc c=>rw [ex] at h; exact h
 | bad=>rw [ex] at h; exact h
 | ok x =>
  rw [ex,bind_ok] at h
  intro v F1 H1 e1 r1
  refine qb W σ Γ F0 H0 F1 H1 _ (g.next e1) ?_
  cases exs:As Γ with
  | exc c=>rw [exs] at h; exact fun F' H' e'=>h F' H' (e1.trans e')
  | bad=>rw [exs] at h; exact h
  | ok xs =>
   rw [exs,bind_ok] at h
   intro vs fp F2 H2 e2 r2
   obtain ⟨f,rf,hf⟩:=r1.norm
   refine h (v :: vs) (f++fp) F2 H2 (e1.trans e2) ⟨v,vs,f,fp,rfl,rfl,rf.ext e2,r2.start e1.hh,fun a ha hm=>(hf a ha).2 (r2.news a hm).1,fun a ha=>⟨(hf a ha).1,fun z=>(hf a ha).2 (e2.hh.free z)⟩⟩
theorem put_noexc:∀ {x:TV} {c:Nat},putV x ≠ .exc c
 | (.fz,_),_=>fun h=>by cases h
 | (.ow _,_),_=>fun h=>by cases h
 | (.bw 0,_),_=>fun h=>by cases h
 | (.bw (_+1),_),_=>fun h=>by cases h
theorem putVs_noexc:∀ {xs:List TV} {c:Nat},putVs xs = .exc c→False
 | [],_,h=>by cases h
 | x :: xs,c,h=>by
  unfold putVs at h
  cases q:putV x with
  | ok p =>
   rw [q,bind_ok] at h
   cases q2:putVs xs with
   | ok ps=>rw [q2] at h; cases h
   | exc c=>exact putVs_noexc q2
   | bad=>rw [q2] at h; cases h
  | exc c=>exact put_noexc q
  | bad=>rw [q] at h; cases h
theorem ownl_flat{K:KK}{F H:Hp}:∀ {ps:List PV} {vs:List V},RepL K F ps vs→OwnL (Own K F H 0) (ps.map fun _=>[]) ps vs
 | [],vs,h=>by unfold RepL at h; subst h; trivial
 | p :: ps,vs,h=>by
  unfold RepL at h
  obtain ⟨v,r,rfl,h2,h3⟩:=h
  exact ⟨⟨rfl,h2⟩,ownl_flat h3⟩
theorem flat_nil{α β:Type}:∀ l:List α,(l.map fun _=>([]:List β)).flatten=[]
 | []=>rfl
 | x :: xs=>by rw [List.map_cons,List.flatten_cons,flat_nil xs]; rfl
theorem own_new{K:KK}{F H:Hp}{p:Addr}{ps:List PV}{vs:List V}(h:RepL K F ps vs)(e:H p=some (.lst vs)):Own K F H 1 [p] (.lst ps) (.ref p) :=
 Own.mkL ⟨ps,p,vs,ps.map fun _=>[],rfl,rfl,e,by rw [flat_nil],ownl_flat h⟩
theorem rv_new{K:KK}{F H Hs:Hp}{p:Addr}{ps:List PV}{vs:List V}(h:RepL K F ps vs)(e:H p=some (.lst vs))(hf:F p=none)(hs:Hs p=none):RV K F H Hs (.ow 1,.lst ps) (.ref p) :=
 ⟨[p],own_new h e,by simp,fun a ha=>by simp at ha; subst ha; exact ⟨hf,hs⟩⟩
theorem szL_eq:16777216=sizeLine:=sizeLine_eq.symm
theorem de_tup(hs:DA C cm k N sc es As){x1}:DE C cm k N sc (.Tuple es x1 pos) (eTup As):=by
 obtain ⟨tb,pb,qb⟩:=hs
 refine ⟨fun W=>tTupD (tb W),fun X S W T=>pe_tupD (pb X S W T),fun W σ Γ F0 H0 F H Q g h=>?_⟩
 refine qb W σ Γ F0 H0 F H _ g (AOk.bind h fun xs vs fp F1 H1 ex e1 r1 h1=>?_)
 cases hp:putVs xs with
 | ok ps =>
  rw [hp,bind_ok] at h1
  obtain ⟨F2,e2,s2,r2,_⟩:=RVs.put e1 r1 hp
  by_cases hz:ps.length≤16777216
  ·rw [if_pos hz] at h1
   refine ⟨by rw [r2.len,← szL_eq]; exact hz,fun p o hp hd=>?_⟩
   refine h1 (.ref p) (upd F2 p (tq (o,vs))) _ (e2.trans (Ext.tup e2.fh e2.tp hp)) (.fz ?_)
   unfold Rep
   exact ⟨p,vs,rfl,.new hd,r2.mono (same_new (e2.fh.free hp)) _ _⟩
  ·rw [if_neg hz] at h1; exact h1.elim
 | exc c=>exact (putVs_noexc hp).elim
 | bad=>rw [hp] at h1; exact h1.elim
theorem de_lst(hs:DA C cm k N sc es As):DE C cm k N sc (.List es pos) (eLst As):=by
 obtain ⟨tb,pb,qb⟩:=hs
 refine ⟨fun W=>tLst (tb W),fun X S W T=>pe_lst (pb X S W T),fun W σ Γ F0 H0 F H Q g h=>?_⟩
 refine qb W σ Γ F0 H0 F H _ g (AOk.bind h fun xs vs fp F1 H1 ex e1 r1 h1=>?_)
 cases hp:putVs xs with
 | ok ps =>
  rw [hp,bind_ok] at h1
  obtain ⟨F2,e2,s2,r2,_⟩:=RVs.put e1 r1 hp
  by_cases hz:ps.length≤16777216
  ·rw [if_pos hz] at h1
   refine ⟨by rw [r2.len,← szL_eq]; exact hz,fun p hp=>?_⟩
   exact h1 (.ref p) F2 _ (e2.trans (Ext.lst e2.fh e2.tp hp)) (rv_new r2 upd_same (e2.fh.free hp) (e1.hh.free hp))
  ·rw [if_neg hz] at h1; exact h1.elim
 | exc c=>exact (putVs_noexc hp).elim
 | bad=>rw [hp] at h1; exact h1.elim
end
end Vl
end
section
set_option Elab.async false
set_option linter.all false
set_option maxRecDepth 100000
set_option maxHeartbeats 1000000
namespace Vl
open PySem L2 Vm PyProof.Rows
section
variable {C:Cn} {cm:Bool} {k:Nat} {N:List Str} {sc:Scope} {a b c e:Expr} {es:List Expr} {A B:EX} {As:EXs} {T U:TX} {pos:Pos} {X:Cx}
theorem plain_rep{K:KK}{H:Hp}:∀ {p:PV} {v:V},plainP p=true→Rep K H p v→v=toV p∧flatV v=true
 | .non,v,_,h=>by unfold Rep at h; subst h; exact ⟨rfl,rfl⟩
 | .bl _,v,_,h=>by unfold Rep at h; subst h; exact ⟨rfl,rfl⟩
 | .int _,v,_,h=>by unfold Rep at h; subst h; exact ⟨rfl,rfl⟩
 | .str _,v,_,h=>by unfold Rep at h; obtain ⟨rfl,_⟩:=h; exact ⟨rfl,rfl⟩
 | .tup _,v,h,_=>by simp [plainP] at h
 | .lst _,v,h,_=>by simp [plainP] at h
 | .dic _ _,v,h,_=>by simp [plainP] at h
 | .exo _ _,v,h,_=>by simp [plainP] at h
theorem eqV_toV:∀ {p q:PV},plainP p=true→plainP q=true→eqV (toV p) (toV q)=eqv p q:=by
 intro p q hp hq
 cases p <;> cases q <;> simp [plainP] at hp hq <;> (try rfl)
 rename_i b c
 show ((⟨b.toArray⟩:Str) == ⟨c.toArray⟩)=(b == c)
 by_cases e:b=c
 ·subst e; simp
 ·have e2:(⟨b.toArray⟩:Str) ≠ ⟨c.toArray⟩:=fun z=>e (by injection z with z1; simpa using congrArg Array.toList z1)
  rw [beq_eq_false_iff_ne.mpr e,beq_eq_false_iff_ne.mpr e2]
theorem inV_rep{K:KK}{H:Hp}{p:PV}{v:V}(hp:plainP p=true)(h:Rep K H p v):∀ {l:List PV} {vs:List V},l.all plainP=true→RepL K H l vs→vs.all flatV=true∧inV v vs=l.any fun z=>eqv z p
 | [],vs,_,g=>by unfold RepL at g; subst g; exact ⟨rfl,rfl⟩
 | q :: l,vs,hl,g=>by
  rw [List.all_cons,Bool.and_eq_true] at hl
  unfold RepL at g
  obtain ⟨u,r,rfl,g1,g2⟩:=g
  obtain ⟨i1,i2⟩:=inV_rep hp h hl.2 g2
  obtain ⟨e1,e2⟩:=plain_rep hl.1 g1
  obtain ⟨e3,_⟩:=plain_rep hp h
  refine ⟨by rw [List.all_cons,e2,i1]; rfl,?_⟩
  show (eqV u v || inV v r)=_
  rw [i2,e1,e3,eqV_toV hl.1 hp]
  rfl
def rInP(K:KK)(neg:Bool):R2:=fun x y H Q=>∃ p q b,Rep K H p x∧Rep K H q y∧inB p q = .ok b∧Q (.bl (if neg then !b else b)) H
theorem op_inP(hu:X.A.units+65 < cLine)(neg:Bool):OpR X (compareOp (if neg then .NotIn else .In)) (rInP (kkX X) neg):=by
 intro pins s σ H x y v u Q I rx ry h
 obtain ⟨p,q,b,rp,rq,hb,hq⟩:=h
 unfold inB at hb
 cases q with
 | str t =>
  cases p with
  | str l =>
   match l,hb,rp with
   | [c],hb,rp =>
    unfold Rep at rp rq
    obtain ⟨rfl,_⟩:=rp
    obtain ⟨rfl,_⟩:=rq
    cases hb
    have e:decide (c∈(⟨t.toArray⟩:Str).cps.toList)=t.elem c:=by simp
    cases neg with
    | false=>exact op_in_sign pins s σ H _ _ v u Q I rx ry ⟨c,_,rfl,rfl,by rw [e]; exact hq⟩
    | true=>exact op_notIn_sign pins s σ H _ _ v u Q I rx ry ⟨c,_,rfl,rfl,by rw [e]; exact hq⟩
   | [],hb,_=>cases hb
   | _ :: _ :: _,hb,_=>cases hb
  | _=>cases hb
 | lst l =>
  by_cases hs:(shp 50 p && shpL 50 l)=true
  ·simp only at hb
   rw [if_pos hs] at hb
   cases hb
   rw [Bool.and_eq_true] at hs
   have d1:=rep_dp 50 p x hs.1 rp
   have hl:shp 51 (.lst l)=true:=by unfold shp; exact hs.2
   have d2:=rep_dp 51 (.lst l) y hl rq
   have e:((datL l).any fun z=>PyData.eqv z (dat p))=l.any fun z=>eqv z p:=by
    rw [datL_map,List.any_map]
    have:∀ {l:List PV},shpL 50 l=true→(l.any ((fun z=>PyData.eqv z (dat p)) ∘ dat))=l.any fun z=>eqv z p:=by
     intro l
     induction l with
     | nil=>intro _; rfl
     | cons z l ih =>
      intro h
      unfold shpL at h
      rw [Bool.and_eq_true] at h
      rw [List.any_cons,List.any_cons,ih h.2]
      show (PyData.eqv (dat z) (dat p) || _)=_
      rw [eqv_dat 50 50 z p h.1 hs.1]
    exact this hs.2
   cases neg with
   | false=>exact op_inD hu pins s σ H _ _ v u Q I rx ry ⟨dat p,datL l,d1.1,d2.1,shaped_dat (by omega) hs.1 rp,shaped_dat (by omega) hl rq,by rw [e]; exact hq⟩
   | true=>exact op_notInD hu pins s σ H _ _ v u Q I rx ry ⟨dat p,datL l,d1.1,d2.1,shaped_dat (by omega) hs.1 rp,shaped_dat (by omega) hl rq,by rw [e]; exact hq⟩
  ·simp only at hb
   rw [if_neg hs] at hb; cases hb
 | tup l =>
  by_cases hs:(plainP p && l.all plainP)=true
  ·simp only at hb
   rw [if_pos hs] at hb
   cases hb
   rw [Bool.and_eq_true] at hs
   unfold Rep at rq
   obtain ⟨ad,vs,rfl,h2,h3⟩:=rq
   obtain ⟨i1,i2⟩:=inV_rep hs.1 rp hs.2 h3
   have i3:=(plain_rep hs.1 rp).2
   cases neg with
   | false=>exact op_in_seq pins s σ H _ _ v u Q I rx ry ⟨ad,vs,rfl,.inr ((TupAt.sq h2)),i3,i1,by rw [i2]; exact hq⟩
   | true=>exact op_notIn_seq pins s σ H _ _ v u Q I rx ry ⟨ad,vs,rfl,.inr ((TupAt.sq h2)),i3,i1,by rw [i2]; exact hq⟩
  ·simp only at hb
   rw [if_neg hs] at hb; cases hb
 | _=>cases hb
theorem inB_noexc{p q:PV}{c:Nat}:inB p q ≠ .exc c:=by
 intro h
 unfold inB at h
 split at h
 ·split at h <;> cases h
 ·split at h <;> cases h
 ·split at h <;> cases h
 ·cases h
theorem op2_in:Op2 C (rInP C.K false) opIn:=by
 intro p q v u H Q rp rq
 unfold opIn
 cases e:inB p q with
 | ok b=>exact fun hq=>⟨p,q,b,rp,rq,e,hq fun F=>rep_bl⟩
 | exc c=>exact (inB_noexc e).elim
 | bad=>trivial
theorem op2_notIn:Op2 C (rInP C.K true) opNotIn:=by
 intro p q v u H Q rp rq
 unfold opNotIn
 cases e:inB p q with
 | ok b=>exact fun hq=>⟨p,q,b,rp,rq,e,hq fun F=>rep_bl⟩
 | exc c=>exact (inB_noexc e).elim
 | bad=>trivial
theorem Sta.u'(S:Sta C cm k N sc X):X.A.units+65 < cLine:=by have:=S.u; omega
theorem dc_in(ha:DE C cm k N sc a A)(hb:DE C cm k N sc b B):DCm C cm k N sc .In a b (eOp2 opIn A B):=dc_op (r:=rInP C.K false) (fun X S=>by rw [← S.KK]; exact op_inP S.u' false) op2_in ha hb
theorem dc_notIn(ha:DE C cm k N sc a A)(hb:DE C cm k N sc b B):DCm C cm k N sc .NotIn a b (eOp2 opNotIn A B):=dc_op (r:=rInP C.K true) (fun X S=>by rw [← S.KK]; exact op_inP S.u' true) op2_notIn ha hb
theorem vAt_rep{K:KK}{H:Hp}{l:List PV}{vs:List V}{i:Int}{p:PV}(h:RepL K H l vs)(e:vAt l i=some p):∃ v,L2.atI vs i=some v∧Rep K H p v∧∃ j:Nat,vIxN l.length i=some j∧l[j]? = some p∧vs[j]? = some v:=by
 unfold vAt at e
 cases hj:vIxN l.length i with
 | none=>rw [hj] at e; cases e
 | some j =>
  rw [hj] at e
  obtain ⟨v,h1,h2⟩:=h.get (show l[j]? = some p from e)
  refine ⟨v,?_,h2,j,rfl,e,h1⟩
  show ((vIxN vs.length i).bind fun j=>vs[j]?)=some v
  rw [h.len,hj]
  exact h1
theorem own_part{K:KK}{F H:Hp}{d:Nat}:∀ {fs:List (List Addr)} {ps:List PV} {vs:List V} {j:Nat} {p:PV} {v:V},OwnL (Own K F H d) fs ps vs→ps[j]? = some p→vs[j]? = some v→∃ f,Own K F H d f p v
 | [],[],[],j,p,v,_,h,_=>by simp at h
 | f :: fs,q :: ps,u :: vs,0,p,v,h,h1,h2=>by
  simp at h1 h2
  subst h1 h2
  exact ⟨f,h.1⟩
 | f :: fs,q :: ps,u :: vs,j+1,p,v,h,h1,h2=>own_part (j:=j) h.2 (by simpa using h1) (by simpa using h2)
 | [],[],_ :: _,_,_,_,h,_,_=>h.elim
 | [],_ :: _,_,_,_,_,h,_,_=>h.elim
 | _ :: _,[],_,_,_,_,h,_,_=>h.elim
 | _ :: _,_ :: _,[],_,_,_,h,_,_=>h.elim
theorem ownl_rep{K:KK}{F H:Hp}(hf:Same F H){d:Nat}:∀ {fs:List (List Addr)} {ps:List PV} {vs:List V},OwnL (Own K F H d) fs ps vs→RepL K H ps vs
 | [],[],[],_=>RepL.nil
 | f :: fs,q :: ps,u :: vs,h=>RepL.cons (Own.rep hf d h.1) (ownl_rep hf h.2)
 | [],[],_ :: _,h=>h.elim
 | [],_ :: _,_,h=>h.elim
 | _ :: _,[],_,h=>h.elim
 | _ :: _,_ :: _,[],h=>h.elim
theorem rv_part{K:KK}{F H Hs:Hp}{t:Tg}{l:List PV}{v:V}(hf:Same F H)(h:RV K F H Hs (t,.lst l) v):∃ a vs,v = .ref a∧SqL K H a vs∧RepL K H l vs∧∀ (j:Nat) p u,l[j]? = some p→vs[j]? = some u→∀ Hs',RV K F H Hs' (dn t,p) u:=by
 have own:∀ {d:Nat} {fp:List Addr},Own K F H d fp (.lst l) v→∃ a vs,v = .ref a∧SqL K H a vs∧RepL K H l vs∧∀ (j:Nat) p u,l[j]? = some p→vs[j]? = some u→∀ Hs',RV K F H Hs' (dn (.bw d),p) u:=by
  intro d fp h
  cases d with
  | zero =>
   have r:=h.2
   unfold Rep at r
   obtain ⟨a,vs,rfl,h2,h3⟩:=r
   refine ⟨a,vs,rfl,hf.seq h2,h3.mono hf _ _,fun j p u e1 e2 Hs'=>.fz ?_⟩
   obtain ⟨u',e3,r⟩:=h3.get e1
   rw [e2] at e3; cases e3
   exact r
  | succ d =>
   have rr:=Own.rep hf (d+1) h
   obtain ⟨l',a,vs,fps,e0,rfl,h3,h4,h5⟩:=h.lst
   cases e0
   unfold Rep at rr
   obtain ⟨a',vs',e1,h6,h7⟩:=rr
   cases e1
   have ev:RepL K H l vs:=ownl_rep hf h5
   refine ⟨a,vs,rfl,SqL.of h3,ev,fun j p u e1 e2 Hs'=>?_⟩
   obtain ⟨f,o⟩:=own_part h5 e1 e2
   cases d with
   | zero=>exact .fz o.2
   | succ d=>exact ⟨[],f,o⟩
 cases t with
 | fz =>
  obtain ⟨_,r⟩:=h
  have r:Rep K F (.lst l) v:=r
  unfold Rep at r
  obtain ⟨a,vs,rfl,h2,h3⟩:=r
  refine ⟨a,vs,rfl,hf.seq h2,h3.mono hf _ _,fun j p u e1 e2 Hs'=>.fz ?_⟩
  obtain ⟨u',e3,r⟩:=h3.get e1
  rw [e2] at e3; cases e3
  exact r
 | bw d =>
  obtain ⟨_,fp,h⟩:=h
  exact own h
 | ow d =>
  obtain ⟨fp,h,_⟩:=h
  obtain ⟨a,vs,h1,h2,h3,h4⟩:=own h
  refine ⟨a,vs,h1,h2,h3,?_⟩
  cases d with
  | zero=>exact h4
  | succ d=>cases d with
   | zero=>exact h4
   | succ d=>exact h4
theorem de_idx(ha:DE C cm k N sc a A)(hb:DE C cm k N sc b B)(hs:PlainIx b:=by exact fun _ _=>rfl):DE C cm k N sc (.Subscript a b pos) (eIdx A B):=by
 obtain ⟨ta,pa,qa⟩:=ha
 obtain ⟨tb,pb,qb⟩:=hb
 refine ⟨fun W=>tOp (rIx C.K) (ta W) (tb W),fun X S W T=>by rw [← S.K]; exact pe_ix ix_seq (pa X S W T) (pb X S W T) hs,fun W σ Γ F0 H0 F H Q g h=>?_⟩
 refine qa W σ Γ F0 H0 F H _ g (EOk.bind h fun x v F1 H1 ex e1 r1 h1=>?_)
 refine qb W σ Γ F0 H0 F1 H1 _ (g.next e1) (EOk.bind (h1.next e1) fun y u F2 H2 ey e2 r2 h2=>?_)
 have h3:=h2.next e2
 have ry:=r2.rep e2.fh
 have rx:=r1.ext e2
 obtain ⟨t,p⟩:=x
 obtain ⟨t',q⟩:=y
 have fin:Ext F2 H2 F2 H2:=Ext.refl e2.fh e2.tp
 cases q with
 | int i =>
  unfold Rep at ry
  subst ry
  cases p with
  | lst l =>
   obtain ⟨ad,vs,rfl,s2,r3,part⟩:=rv_part e2.fh rx
   show rIx C.K (.ref ad) (.int i) H2 Q
   cases ei:vAt l i with
   | none =>
    have:EOk C W σ F2 H2 Q (match vAt l i with | some x=>.ok (dn t,x) | none=>.bad):=h3
    rw [ei] at this; exact this.elim
   | some z =>
    have h4:EOk C W σ F2 H2 Q (match vAt l i with | some x=>.ok (dn t,x) | none=>.bad):=h3
    rw [ei] at h4
    obtain ⟨w,e4,r4,j,e5,e6,e7⟩:=vAt_rep r3 ei
    exact .inl ⟨ad,vs,i,w,rfl,rfl,s2,e4,h4 w F2 H2 fin (part j z w e6 e7 _)⟩
  | tup l =>
   have rr:=rx.rep e2.fh
   have rF:Rep C.K F2 (.tup l) v:=by
    cases t with
    | fz=>obtain ⟨_,z⟩:=rx; exact z
    | bw d=>obtain ⟨_,fp,z⟩:=rx; cases d with
     | zero=>exact z.2
     | succ d=>exact (z.unbox rfl).2
    | ow d=>obtain ⟨fp,z,_⟩:=rx; cases d with
     | zero=>exact z.2
     | succ d=>exact (z.unbox rfl).2
   unfold Rep at rF
   obtain ⟨ad,vs,rfl,s2,r3⟩:=rF
   cases ei:vAt l i with
   | none =>
    have:EOk C W σ F2 H2 Q (match vAt l i with | some x=>.ok (.fz,x) | none=>.bad):=h3
    rw [ei] at this; exact this.elim
   | some z =>
    have h4:EOk C W σ F2 H2 Q (match vAt l i with | some x=>.ok (.fz,x) | none=>.bad):=h3
    rw [ei] at h4
    obtain ⟨w,e4,r4,_⟩:=vAt_rep r3 ei
    exact .inr (.inl ⟨ad,vs,i,w,rfl,rfl,(TupAt.sq (TupAt.mono e2.fh s2)),e4,h4 w F2 H2 fin (.fz r4)⟩)
  | str l =>
   have rr:=rx.rep e2.fh
   unfold Rep at rr
   obtain ⟨rfl,hg⟩:=rr
   cases ei:vAt l i with
   | none =>
    have:EOk C W σ F2 H2 Q (match vAt l i with | some x=>.ok (.fz,.str [x]) | none=>.bad):=h3
    rw [ei] at this; exact this.elim
   | some z =>
    have h4:EOk C W σ F2 H2 Q (match vAt l i with | some x=>.ok (.fz,.str [x]) | none=>.bad):=h3
    rw [ei] at h4
    unfold strG at hg
    rw [Bool.and_eq_true] at hg
    have hz:l.length≤16777216:=of_decide_eq_true hg.1
    have hm:z∈l:=by
     unfold vAt at ei
     cases hj:vIxN l.length i with
     | none=>rw [hj] at ei; cases ei
     | some j=>rw [hj] at ei; exact List.mem_of_getElem? (show l[j]? = some z from ei)
    have hz2:=List.all_eq_true.mp hg.2 z hm
    refine .inr (.inr ⟨⟨l.toArray⟩,i,z,rfl,rfl,by rw [← szL_eq]; simpa [Str.length] using hz,ei,h4 _ F2 H2 fin (.fz ?_)⟩)
    refine rep_str ?_
    show (decide (1≤16777216) && (decide (z < 1114112) && true))=true
    rw [hz2]
    rfl
  | _=>exact h3.elim
 | _=>cases p <;> exact h3.elim
end
end Vl
end
section
set_option Elab.async false
set_option linter.all false
set_option maxRecDepth 100000
set_option maxHeartbeats 1000000
namespace Vl
open PySem L2 Vm PyProof.Rows
section
variable {C:Cn} {cm:Bool} {k:Nat} {N:List Str} {sc:Scope} {a b c e:Expr} {es:List Expr} {A B:EX} {As:EXs} {T U:TX} {pos:Pos} {X:Cx}
theorem rv_flat{K:KK}{F H Hs:Hp}{t:Tg}{l:List PV}{v:V}(hf:Same F H)(h:RV K F H Hs (t,.lst l) v)(f1:flat1 t=true):∃ a vs,v = .ref a∧SqL K H a vs∧RepL K F l vs:=by
 have flat:∀ {fs:List (List Addr)} {ps:List PV} {vs:List V},OwnL (Own K F H 0) fs ps vs→RepL K F ps vs:=by
  intro fs
  induction fs with
  | nil=>intro ps vs h; cases ps with
   | nil=>cases vs with
    | nil=>exact RepL.nil
    | cons v vs=>exact h.elim
   | cons p ps=>exact h.elim
  | cons f fs ih=>intro ps vs h; cases ps with
   | nil=>exact h.elim
   | cons p ps=>cases vs with
    | nil=>exact h.elim
    | cons v vs=>exact RepL.cons h.1.2 (ih h.2)
 have zero:∀ {fp:List Addr},Own K F H 0 fp (.lst l) v→∃ a vs,v = .ref a∧SqL K H a vs∧RepL K F l vs:=fun z=>by
  have r:=z.2
  unfold Rep at r
  obtain ⟨a,vs,rfl,h2,h3⟩:=r
  exact ⟨a,vs,rfl,hf.seq h2,h3⟩
 have one:∀ {fp:List Addr},Own K F H 1 fp (.lst l) v→∃ a vs,v = .ref a∧SqL K H a vs∧RepL K F l vs:=fun z=>by
  obtain ⟨l',a,vs,fps,e0,rfl,h3,h4,h5⟩:=z.lst
  cases e0
  exact ⟨a,vs,rfl,SqL.of h3,flat h5⟩
 cases t with
 | fz =>
  obtain ⟨_,r⟩:=h
  exact zero ⟨rfl,r⟩
 | bw d =>
  obtain ⟨_,fp,h⟩:=h
  match d,f1,h with
  | 0,_,h=>exact zero h
  | 1,_,h=>exact one h
  | d+2,f1,_=>cases f1
 | ow d =>
  obtain ⟨fp,h,_⟩:=h
  match d,f1,h with
  | 0,_,h=>exact zero h
  | 1,_,h=>exact one h
  | d+2,f1,_=>cases f1
theorem rv_tup{K:KK}{F H Hs:Hp}{t:Tg}{l:List PV}{v:V}(h:RV K F H Hs (t,.tup l) v):∃ a vs,v = .ref a∧TupAt F a vs∧RepL K F l vs:=by
 have rF:Rep K F (.tup l) v:=by
  cases t with
  | fz=>obtain ⟨_,z⟩:=h; exact z
  | bw d=>obtain ⟨_,fp,z⟩:=h; cases d with
   | zero=>exact z.2
   | succ d=>exact (z.unbox rfl).2
  | ow d=>obtain ⟨fp,z,_⟩:=h; cases d with
   | zero=>exact z.2
   | succ d=>exact (z.unbox rfl).2
 unfold Rep at rF
 exact rF
theorem vSix_eq(n d:Nat)(o:Option Int):HT.sIx n d o=vSix n d o:=by cases o <;> rfl
theorem cutV_rep{K:KK}{F:Hp}{l:List PV}{vs:List V}(h:RepL K F l vs)(lo hi:Option Int):RepL K F (cutL l lo hi) (cutV vs lo hi):=by
 unfold cutL cutV
 rw [h.len,vSix_eq,vSix_eq]
 exact (h.drop _).take _
def DO(C:Cn)(cm:Bool)(k:Nat)(N:List Str)(sc:Scope)(e:Option Expr)(E:OX):Prop:=∃ tb:WX→TO,(∀ X,Sta C cm k N sc X→∀ W,Takes X W→PO X e (tb W)) ∧
 ∀ W σ Γ F0 H0 F H (Q:Option Int→Hp→Prop),Good C.K F0 H0 Γ σ F H→(match E Γ with
  | .ok o=>∀ F' H',Ext F H F' H'→Q o H'
  | .exc c=>∀ F' H',Ext F H F' H'→W (C.xc c) none σ H'
  | .bad=>False)→tb W σ H Q
theorem do_none:DO C cm k N sc none oNone:=⟨fun _=>tNoPart,fun _ _ _ _=>po_none,fun W σ Γ F0 H0 F H Q g h=>h F H g.here⟩
theorem do_some(ha:DE C cm k N sc a A):DO C cm k N sc (some a) (oSome A):=by
 obtain ⟨ta,pa,qa⟩:=ha
 refine ⟨fun W=>tPart (ta W),fun X S W T=>po_some (pa X S W T),fun W σ Γ F0 H0 F H Q g h=>?_⟩
 refine qa W σ Γ F0 H0 F H _ g ?_
 unfold oSome at h
 cases e:A Γ with
 | exc c=>rw [e] at h; exact h
 | bad=>rw [e] at h; exact h
 | ok x =>
  rw [e,bind_ok] at h
  intro v F1 H1 e1 r1
  have r:=r1.rep e1.fh
  obtain ⟨t,p⟩:=x
  cases p with
  | int i=>unfold Rep at r; exact ⟨i,r,h F1 H1 e1⟩
  | _=>exact h.elim
theorem strG_cut{l:List Nat}(h:strG l=true)(lo hi:Option Int):strG (cutL l lo hi)=true:=by
 unfold strG at h ⊢
 rw [Bool.and_eq_true] at h ⊢
 have h1:l.length≤16777216:=of_decide_eq_true h.1
 refine ⟨decide_eq_true ?_,List.all_eq_true.mpr fun x hx=>List.all_eq_true.mp h.2 x ?_⟩
 ·unfold cutL
  rw [List.length_take,List.length_drop]
  omega
 ·unfold cutL at hx
  exact List.mem_of_mem_drop (List.mem_of_mem_take hx)
theorem de_slice{lo hi:Option Expr}{Lo Hi:OX}{p2:Pos}(ha:DE C cm k N sc a A)(hl:DO C cm k N sc lo Lo)(hh:DO C cm k N sc hi Hi):DE C cm k N sc (.Subscript a (.Slice lo hi none p2) pos) (eSlice A Lo Hi):=by
 obtain ⟨ta,pa,qa⟩:=ha
 obtain ⟨tl,pl,ql⟩:=hl
 obtain ⟨th,ph,qh⟩:=hh
 refine ⟨fun W=>tSl (fun x lo hi H Q=>rSlL C.K x lo hi H Q ∨ rSlD C.K x lo hi H Q ∨ rSlS x lo hi H Q) (ta W) (tl W) (th W),fun X S W T=>by rw [← S.K]; exact pe_slice (sl_list.or (sl_tupD.or sl_str)) (pa X S W T) (pl X S W T) (ph X S W T),fun W σ Γ F0 H0 F H Q g h=>?_⟩
 unfold eSlice at h
 refine qa W σ Γ F0 H0 F H _ g (EOk.bind h fun x v F1 H1 ex e1 r1 h1=>?_)
 have h1:=h1.next e1
 refine ql W σ Γ F0 H0 F1 H1 _ (g.next e1) ?_
 cases el:Lo Γ with
 | exc c=>rw [el] at h1; exact h1
 | bad=>rw [el] at h1; exact h1
 | ok ol =>
  rw [el,bind_ok] at h1
  intro F2 H2 e2
  have h2:=h1.next e2
  refine qh W σ Γ F0 H0 F2 H2 _ ((g.next e1).next e2) ?_
  cases eh:Hi Γ with
  | exc c=>rw [eh] at h2; exact h2
  | bad=>rw [eh] at h2; exact h2
  | ok oh =>
   rw [eh,bind_ok] at h2
   intro F3 H3 e3
   have h3:=h2.next e3
   have rx:=(r1.ext e2).ext e3
   obtain ⟨t,p⟩:=x
   have fin:Ext F3 H3 F3 H3:=Ext.refl e3.fh e3.tp
   cases p with
   | lst l =>
    by_cases hf:flat1 t=true
    ·have h4:EOk C W σ F3 H3 Q (if flat1 t then .ok (.ow 1,.lst (cutL l ol oh)) else .bad):=h3
     rw [if_pos hf] at h4
     obtain ⟨ad,vs,rfl,s2,r3⟩:=rv_flat e3.fh rx hf
     refine .inl ⟨ad,vs,rfl,s2,fun p hp=>?_⟩
     exact h4 _ F3 _ (Ext.lst e3.fh e3.tp hp) (rv_new (cutV_rep r3 ol oh) upd_same (e3.fh.free hp) hp)
    ·have h4:EOk C W σ F3 H3 Q (if flat1 t then .ok (.ow 1,.lst (cutL l ol oh)) else .bad):=h3
     rw [if_neg hf] at h4
     exact h4.elim
   | tup l =>
    obtain ⟨ad,vs,rfl,s2,r3⟩:=rv_tup rx
    have h4:EOk C W σ F3 H3 Q (.ok (.fz,.tup (cutL l ol oh))):=h3
    refine .inr (.inl ⟨ad,vs,rfl,(TupAt.sq (TupAt.mono e3.fh s2)),fun hw=>?_,fun _ p o hp hd=>?_⟩)
    ·refine h4 _ F3 H3 fin (.fz ?_)
     have:cutL l ol oh=l:=by
      unfold cutL
      rw [r3.len,vSix_eq,vSix_eq] at hw
      rw [hw.1,hw.2,List.drop_zero,Nat.sub_zero,List.take_length]
     rw [this]
     unfold Rep
     exact ⟨ad,vs,rfl,s2,r3⟩
    ·refine h4 _ (upd F3 p (tq (o,cutV vs ol oh))) _ (Ext.tup e3.fh e3.tp hp) (.fz ?_)
     unfold Rep
     exact ⟨p,_,rfl,.new hd,(cutV_rep r3 ol oh).mono (same_new (e3.fh.free hp)) _ _⟩
   | str l =>
    have rr:=rx.rep e3.fh
    unfold Rep at rr
    obtain ⟨rfl,hg⟩:=rr
    have h4:EOk C W σ F3 H3 Q (.ok (.fz,.str (cutL l ol oh))):=h3
    refine .inr (.inr ⟨_,rfl,?_,?_⟩)
    ·unfold strG at hg
     rw [Bool.and_eq_true] at hg
     have hz:l.length≤16777216:=of_decide_eq_true hg.1
     rw [← szL_eq]; simpa [Str.length] using hz
    ·have e5:cutS ⟨l.toArray⟩ ol oh=⟨(cutL l ol oh).toArray⟩:=by
      unfold cutS cutL
      simp only [Str.length,List.size_toArray,vSix_eq]
     rw [e5]
     exact h4 _ F3 H3 fin (.fz (rep_str (strG_cut hg ol oh)))
   | _=>exact h3.elim
def rCatL(K:PySem.W.Frag):R2:=fun x y H Q=>∃ l b xs zs,x = .ref l∧y = .ref b∧SqL K H l xs∧SqL K H b zs∧xs.length+zs.length≤sizeLine∧∀ p,H p=none→Q (.ref p) (upd H p (.lst (xs++zs)))
theorem op_catL:OpR X (binaryOp .Add) (rCatL X.K):=by
 intro pins s σ H x y v u Q I rx ry h
 obtain ⟨l,b,xs,zs,rfl,rfl,hH,hB,hz,q⟩:=h
 cases rx
 cases ry
 obtain ⟨its,r,⟨⟨cls,dd,data,sl⟩,n,ho,hc,hd1,hd⟩,hl⟩:=I.list hH
 obtain ⟨its2,r2,⟨⟨cls2,dd2,data2,sl2⟩,n2,ho2,hc2,hd12,hd2⟩,hl2⟩:=I.list hB
 simp only at hc hd hc2 hd2
 subst hc hd hc2 hd2
 have e1:=r.length
 have e2:=r2.length
 have e:its.toArray++its2.toArray=(its++its2).toArray:=by simp
 refine concat_meets ⟨_,ho,rfl⟩ ⟨_,ho2,rfl⟩ noFill_list_add seq_list_add PySem.F.slot_list_add PySem.F.entry_list_add (PySem.F.args_list_add_2 _ _) (list_addW l b its.toArray its2.toArray n n2 dd dd2 sl sl2 (by simpa using (by omega:its.length+its2.length≤sizeLine))) ⟨ho,ho2,?_⟩
 rw [e]
 exact ⟨.ref _,_,I.lnew (t':=s.toks) (r.append r2) (by rw [List.length_append]; omega),rfl,q _ I.fresh⟩
def rAddV(K:PySem.W.Frag):R2:=fun x y H Q=>rCatL K x y H Q ∨ rCatD K x y H Q ∨ (fun x y H Q=>∃ i j,x = .str i∧y = .str j∧i.length+j.length≤sizeLine∧Q (.str (i++j)) H) x y H Q ∨ rI0 (fun i j=>.int (i+j)) x y H Q
theorem op_addV:OpR X (binaryOp .Add) (rAddV X.K):=op_catL.or (op_catD.or (op_add_str.or op_add))
theorem strG_app{a b:List Nat}(h:strG a=true)(g:strG b=true)(hz:a.length+b.length≤16777216):strG (a++b)=true:=by
 unfold strG at h g ⊢
 rw [Bool.and_eq_true] at h g ⊢
 refine ⟨decide_eq_true (by rw [List.length_append]; exact hz),?_⟩
 rw [List.all_append,h.2,g.2]
 rfl
theorem de_add(ha:DE C cm k N sc a A)(hb:DE C cm k N sc b B):DE C cm k N sc (.BinOp a .Add b pos) (eAdd A B):=by
 obtain ⟨ta,pa,qa⟩:=ha
 obtain ⟨tb,pb,qb⟩:=hb
 refine ⟨fun W=>tOp (rAddV C.K) (ta W) (tb W),fun X S W T=>by rw [← S.K]; exact pe_op op_addV (pa X S W T) (pb X S W T),fun W σ Γ F0 H0 F H Q g h=>?_⟩
 refine qa W σ Γ F0 H0 F H _ g (EOk.bind h fun x v F1 H1 ex e1 r1 h1=>?_)
 refine qb W σ Γ F0 H0 F1 H1 _ (g.next e1) (EOk.bind (h1.next e1) fun y u F2 H2 ey e2 r2 h2=>?_)
 have h3:=h2.next e2
 have rx:=r1.ext e2
 have ex':=rx.rep e2.fh
 have ey':=r2.rep e2.fh
 obtain ⟨t,p⟩:=x
 obtain ⟨t',q⟩:=y
 have fin:Ext F2 H2 F2 H2:=Ext.refl e2.fh e2.tp
 cases p with
 | lst l =>
  cases q with
  | lst m =>
   have h4:EOk C W σ F2 H2 Q (if flat1 t && flat1 t' && decide (l.length+m.length≤16777216) then .ok (.ow 1,.lst (l++m)) else .bad):=h3
   by_cases hf:(flat1 t && flat1 t' && decide (l.length+m.length≤16777216))=true
   ·rw [if_pos hf] at h4
    rw [Bool.and_eq_true,Bool.and_eq_true] at hf
    have hz:l.length+m.length≤16777216:=of_decide_eq_true hf.2
    obtain ⟨ad,vs,rfl,s2,r3⟩:=rv_flat e2.fh rx hf.1.1
    obtain ⟨bd,us,rfl,s4,r5⟩:=rv_flat e2.fh r2 hf.1.2
    refine .inl ⟨ad,bd,vs,us,rfl,rfl,s2,s4,by rw [r3.len,r5.len,← szL_eq]; exact hz,fun p hp=>?_⟩
    exact h4 _ F2 _ (Ext.lst e2.fh e2.tp hp) (rv_new (r3.append r5) upd_same (e2.fh.free hp) hp)
   ·rw [if_neg hf] at h4; exact h4.elim
  | _=>exact h3.elim
 | tup l =>
  cases q with
  | tup m =>
   have h4:EOk C W σ F2 H2 Q (if l.length+m.length≤16777216 then .ok (.fz,.tup (l++m)) else .bad):=h3
   by_cases hz:l.length+m.length≤16777216
   ·rw [if_pos hz] at h4
    obtain ⟨ad,vs,rfl,s2,r3⟩:=rv_tup rx
    obtain ⟨bd,us,rfl,s4,r5⟩:=rv_tup r2
    refine .inr (.inl ⟨ad,bd,vs,us,rfl,rfl,(TupAt.sq (TupAt.mono e2.fh s2)),(TupAt.sq (TupAt.mono e2.fh s4)),by rw [r3.len,r5.len,← szL_eq]; exact hz,fun z=>?_,fun _ z=>?_,fun _ _ p o hp hd=>?_⟩)
    ·subst z
     have hl:l=[]:=List.eq_nil_of_length_eq_zero (by have:=r3.len; simpa using this.symm)
     subst hl
     refine h4 _ F2 H2 fin (.fz ?_)
     unfold Rep
     exact ⟨bd,us,rfl,s4,r5⟩
    ·subst z
     have hm:m=[]:=List.eq_nil_of_length_eq_zero (by have:=r5.len; simpa using this.symm)
     subst hm
     rw [List.append_nil] at h4
     refine h4 _ F2 H2 fin (.fz ?_)
     unfold Rep
     exact ⟨ad,vs,rfl,s2,r3⟩
    ·refine h4 _ (upd F2 p (tq (o,vs++us))) _ (Ext.tup e2.fh e2.tp hp) (.fz ?_)
     unfold Rep
     exact ⟨p,_,rfl,.new hd,(r3.append r5).mono (same_new (e2.fh.free hp)) _ _⟩
   ·rw [if_neg hz] at h4; exact h4.elim
  | _=>exact h3.elim
 | str l =>
  cases q with
  | str m =>
   unfold Rep at ex' ey'
   obtain ⟨rfl,hg⟩:=ex'
   obtain ⟨rfl,hg2⟩:=ey'
   have h4:EOk C W σ F2 H2 Q ((if l.length+m.length≤16777216 then .ok (.str (l++m)) else .bad:Res PV).bind fzv):=h3
   by_cases hz:l.length+m.length≤16777216
   ·rw [if_pos hz,bind_ok] at h4
    refine .inr (.inr (.inl ⟨_,_,rfl,rfl,by rw [← szL_eq]; simpa [Str.length] using hz,?_⟩))
    have e5:(⟨l.toArray⟩:Str)++(⟨m.toArray⟩:Str)=⟨(l++m).toArray⟩:=by
     show (⟨l.toArray++m.toArray⟩:Str)=_
     simp
    rw [e5]
    exact h4 _ F2 H2 fin (.fz (rep_str (strG_app hg hg2 hz)))
   ·rw [if_neg hz] at h4; exact h4.elim
  | _=>exact h3.elim
 | int i =>
  cases q with
  | int j =>
   unfold Rep at ex' ey'
   subst ex' ey'
   exact .inr (.inr (.inr ⟨i,j,rfl,rfl,h3 _ F2 H2 fin (.fz rep_int)⟩))
  | _=>exact h3.elim
 | _=>exact h3.elim
theorem own_one{K:KK}{F H:Hp}{fp:List Addr}{l:List PV}{v:V}(h:Own K F H 1 fp (.lst l) v):∃ a vs,v = .ref a∧H a=some (.lst vs)∧RepL K F l vs:=by
 obtain ⟨l',a,vs,fps,e0,rfl,h3,h4,h5⟩:=h.lst
 cases e0
 refine ⟨a,vs,rfl,h3,?_⟩
 clear h3 h4 h
 induction fps generalizing l vs with
 | nil=>cases l with
  | nil=>cases vs with
   | nil=>exact RepL.nil
   | cons v vs=>exact h5.elim
  | cons p ps=>exact h5.elim
 | cons f fs ih=>cases l with
  | nil=>exact h5.elim
  | cons p ps=>cases vs with
   | nil=>exact h5.elim
   | cons v vs=>exact RepL.cons h5.1.2 (ih _ h5.2)
theorem rep_flat{K:KK}{F:Hp}{l:List PV}{vs:List V}(h:RepL K F l vs):∀ n:Nat,RepL K F (List.replicate n l).flatten (List.replicate n vs).flatten
 | 0=>RepL.nil
 | n+1=>by
  rw [List.replicate_succ,List.replicate_succ,List.flatten_cons,List.flatten_cons]
  exact h.append (rep_flat h n)
end
end Vl
end
section
set_option Elab.async false
set_option linter.all false
set_option maxRecDepth 100000
set_option maxHeartbeats 1000000
namespace Vl
open PySem L2 Vm PyProof.Rows
section
variable {C:Cn} {cm:Bool} {k:Nat} {N:List Str} {sc:Scope} {a b c e:Expr} {es:List Expr} {A B:EX} {As:EXs} {T U:TX} {pos p:Pos} {X:Cx} {x:Str} {bid:String}
theorem Sta.mg(S:Sta C cm k N sc X):X.mg=C.mg:=by have:=S.cn; subst this; rfl
theorem Sta.gl(S:Sta C cm k N sc X)(h:sc.names.lookup x=some .globalImplicit):Gl X x:=by
 show X.env.scope.names.lookup x=_
 rw [S.s]; exact h
theorem de_b1 {f:TV→Res TV} {r:List V→Hp→VK→Prop} (hc:∀ X,Sta C cm k N sc X→CallR X (.builtin bid) r)
  (hr:∀ W σ x v F H Hs Q,Same F H→Tups F H→RV C.K F H Hs x v→EOk C W σ F H Q (f x)→r [v] H Q) (mx:C.mg x=none) (hv:bootBuiltins x=some (.builtin bid)) (hn:x ≠ "__name__") (hdb:(x == ("__debug__":Str))=false)
  (ha:DE C cm k N sc a A) (hg:sc.names.lookup x=some .globalImplicit)
  (hst:∀ env:PySem.Env,starEach [a] env=(false,eval a env) :: starEach [] env):DE C cm k N sc (.Call (.Name x p) [a] [] pos) (fun Γ=>(A Γ).bind f):=by
 obtain ⟨ta,pa,qa⟩:=ha
 refine ⟨fun W=>tCB r (tCons (ta W) tNil),fun X S W T=>pe_callB (hc X S) (S.gl hg) (by rw [S.mg]; exact mx) hv (pa_cons (pa X S W T) pa_nil (hst _)) hn hdb (hst _) rfl,fun W σ Γ F0 H0 F H Q g h=>?_⟩
 refine qa W σ Γ F0 H0 F H _ g (EOk.bind h fun x v F1 H1 ex e1 r1 h1=>?_)
 exact hr W σ x v F1 H1 H Q e1.fh e1.tp r1 (h1.next e1)
theorem de_t1 {f:TV→Res TV} {r:List V→Hp→VK→Prop} (hc:∀ X,Sta C cm k N sc X→CallR X (.type bid) r)
  (hr:∀ W σ x v F H Hs Q,Same F H→Tups F H→RV C.K F H Hs x v→EOk C W σ F H Q (f x)→r [v] H Q) (mx:C.mg x=none) (hv:bootBuiltins x=some (.type bid)) (hn:x ≠ "__name__") (hdb:(x == ("__debug__":Str))=false)
  (ha:DE C cm k N sc a A) (hg:sc.names.lookup x=some .globalImplicit)
  (hst:∀ env:PySem.Env,starEach [a] env=(false,eval a env) :: starEach [] env):DE C cm k N sc (.Call (.Name x p) [a] [] pos) (fun Γ=>(A Γ).bind f):=by
 obtain ⟨ta,pa,qa⟩:=ha
 refine ⟨fun W=>tCB r (tCons (ta W) tNil),fun X S W T=>pe_callTy (hc X S) (S.gl hg) (by rw [S.mg]; exact mx) hv (pa_cons (pa X S W T) pa_nil (hst _)) hn hdb (hst _) rfl,fun W σ Γ F0 H0 F H Q g h=>?_⟩
 refine qa W σ Γ F0 H0 F H _ g (EOk.bind h fun x v F1 H1 ex e1 r1 h1=>?_)
 exact hr W σ x v F1 H1 H Q e1.fh e1.tp r1 (h1.next e1)
theorem rep_lst{K:KK}{H:Hp}{l:List PV}{v:V}(h:Rep K H (.lst l) v):∃ a vs,v = .ref a∧SqL K H a vs∧RepL K H l vs:=by
 unfold Rep at h; exact h
theorem rep_tup{K:KK}{H:Hp}{l:List PV}{v:V}(h:Rep K H (.tup l) v):∃ a vs,v = .ref a∧TupAt H a vs∧RepL K H l vs:=by
 unfold Rep at h; exact h
theorem strG_len{l:List Nat}(h:strG l=true):(⟨l.toArray⟩:Str).length≤sizeLine:=by
 unfold strG at h
 rw [Bool.and_eq_true] at h
 have hz:l.length≤16777216:=of_decide_eq_true h.1
 rw [← szL_eq]; simpa [Str.length] using hz
theorem de_len (ha:DE C cm k N sc a A) (mx:C.mg "len" = none) (hg:sc.names.lookup ("len":Str)=some .globalImplicit:=by rfl)
  (hst:∀ env:PySem.Env,starEach [a] env=(false,eval a env) :: starEach [] env:=by intro _; rfl):DE C cm k N sc (.Call (.Name "len" p) [a] [] pos) (eLen A) :=
 de_b1 (r:=fun xs H Q=>∃ x n,xs=[x]∧LenV C.K x H n∧Q (.int n) H) (fun X S=>by rw [← S.K]; exact call_len) (fun W σ x v F H Hs Q hf ht rv h=>by
  have r:=rv.rep hf
  obtain ⟨t,q⟩:=x
  have fin:Ext F H F H:=Ext.refl hf ht
  cases q with
  | lst l =>
   obtain ⟨ad,vs,rfl,s2,r3⟩:=rep_lst r
   refine ⟨_,l.length,rfl,?_,h _ F H fin (.fz rep_int)⟩
   exact .inl ⟨vs,s2,r3.len.symm⟩
  | tup l =>
   obtain ⟨ad,vs,rfl,s2,r3⟩:=rep_tup r
   refine ⟨_,l.length,rfl,?_,h _ F H fin (.fz rep_int)⟩
   exact .inr ⟨vs,(TupAt.sq s2),r3.len.symm⟩
  | str l =>
   unfold Rep at r
   obtain ⟨rfl,hg⟩:=r
   refine ⟨_,l.length,rfl,⟨strG_len hg,by simp [Str.length]⟩,h _ F H fin (.fz rep_int)⟩
  | dic ks l=>exact h.elim
  | _=>exact h.elim) mx PySem.boot_len (by decide) (by decide) ha hg hst
theorem de_tuple (ha:DE C cm k N sc a A) (mx:C.mg "tuple" = none) (hg:sc.names.lookup ("tuple":Str)=some .globalImplicit:=by rfl)
  (hst:∀ env:PySem.Env,starEach [a] env=(false,eval a env) :: starEach [] env:=by intro _; rfl):DE C cm k N sc (.Call (.Name "tuple" p) [a] [] pos) (eTuple A) :=
 de_t1 (r:=fun xs H Q=>∃ p ys,xs=[.ref p]∧((SqL C.K H p ys∧NewT ys H Q) ∨ (SqT C.K H p ys∧Q (.ref p) H))) (fun X S=>by rw [← S.K]; exact call_tupleD) (fun W σ x v F H Hs Q hf ht rv h=>by
  obtain ⟨t,q⟩:=x
  have fin:Ext F H F H:=Ext.refl hf ht
  cases q with
  | lst l =>
   have h:EOk C W σ F H Q (if flat1 t then .ok (.fz,.tup l) else .bad):=h
   by_cases f1:flat1 t=true
   ·rw [if_pos f1] at h
    obtain ⟨ad,vs,rfl,s2,r3⟩:=rv_flat hf rv f1
    refine ⟨ad,vs,rfl,.inl ⟨s2,fun p o hp hd=>?_⟩⟩
    refine h _ (upd F p (tq (o,vs))) _ (Ext.tup hf ht hp) (.fz ?_)
    unfold Rep
    exact ⟨p,_,rfl,.new hd,r3.mono (same_new (hf.free hp)) _ _⟩
   ·rw [if_neg f1] at h; exact h.elim
  | tup l =>
   obtain ⟨ad,vs,rfl,s2,r3⟩:=rv_tup rv
   refine ⟨ad,vs,rfl,.inr ⟨(TupAt.sq (TupAt.mono hf s2)),h _ F H fin (.fz ?_)⟩⟩
   unfold Rep
   exact ⟨ad,vs,rfl,s2,r3⟩
  | _=>exact h.elim) mx (by decide +kernel) (by decide) (by decide) ha hg hst
theorem rep_bools{K:KK}{H:Hp}:∀ {l:List PV} {vs:List V} {b:Bool},RepL K H l vs→allBl l = .ok b→∃ bs:List Bool,vs=bs.map V.bl∧bs.all id=b
 | [],vs,b,h,e=>by unfold RepL at h; subst h; cases e; exact ⟨[],rfl,rfl⟩
 | p :: l,vs,b,h,e=>by
  unfold RepL at h
  obtain ⟨v,r,rfl,h2,h3⟩:=h
  cases p with
  | bl c =>
   unfold allBl at e
   cases e2:allBl l with
   | ok d =>
    rw [e2,bind_ok] at e
    cases e
    obtain ⟨bs,rfl,h4⟩:=rep_bools h3 e2
    unfold Rep at h2
    subst h2
    exact ⟨c :: bs,rfl,by rw [List.all_cons,h4]; rfl⟩
   | exc c=>rw [e2] at e; cases e
   | bad=>rw [e2] at e; cases e
  | _=>cases e
theorem allB_noexc:∀ {l:List PV} {c:Nat},allBl l ≠ .exc c
 | [],c,h=>by cases h
 | p :: l,c,h=>by
  cases p with
  | bl i =>
   unfold allBl at h
   cases e:allBl l with
   | ok d=>rw [e] at h; cases h
   | exc c=>exact allB_noexc e
   | bad=>rw [e] at h; cases h
  | _=>cases h
theorem de_all (ha:DE C true k N sc a A) (mx:C.mg "all" = none) (hg:sc.names.lookup ("all":Str)=some .globalImplicit:=by rfl)
  (hst:∀ env:PySem.Env,starEach [a] env=(false,eval a env) :: starEach [] env:=by intro _; rfl):DE C true k N sc (.Call (.Name "all" p) [a] [] pos) (eAll A) :=
 de_b1 (r:=rAll C.K) (fun X S=>by rw [← S.K]; exact cr_all (S.c rfl)) (fun W σ x v F H Hs Q hf ht rv h=>by
  have r:=rv.rep hf
  obtain ⟨t,q⟩:=x
  cases q with
  | lst l =>
   obtain ⟨ad,vs,rfl,s2,r3⟩:=rep_lst r
   cases e:allBl l with
   | ok b =>
    have h:EOk C W σ F H Q ((allBl l).bind fun b=>.ok (.fz,.bl b)):=h
    rw [e] at h
    obtain ⟨bs,rfl,rfl⟩:=rep_bools r3 e
    exact ⟨ad,bs,rfl,s2,h _ F H (Ext.refl hf ht) (.fz rep_bl)⟩
   | exc c=>exact (allB_noexc e).elim
   | bad =>
    have h:EOk C W σ F H Q ((allBl l).bind fun b=>.ok (.fz,.bl b)):=h
    rw [e] at h; exact h.elim
  | _=>exact h.elim) mx (by decide +kernel) (by decide) (by decide) ha hg hst
def kT(u t:String):Bool:=u == t || (u == "bool" && t == "int")
theorem kit_tab:∀ u∈["NoneType","bool","int","str","tuple","list","dict"],∀ t∈["tuple","list","str","int","bool"],kitB u t=some (kT u t):=by decide +kernel
theorem kit_at {u t:String} (hu:u∈["NoneType","bool","int","str","tuple","list","dict"]) (ht:t = "tuple" ∨ t = "list" ∨ t = "str" ∨ t = "int" ∨ t = "bool") {b:Bool} (hb:kT u t=b):kitB u t=some b:=by
 rw [← hb]
 exact kit_tab u hu t (by rcases ht with rfl | rfl | rfl | rfl | rfl <;> simp)
def rIsiD(K:PySem.W.Frag):List V→Hp→VK→Prop:=fun xs H Q=>rIsi K xs H Q ∨ (∃ a o t b,xs=[.ref a,.ty t]∧H a=some (dHO a o)∧o.ExactDict∧kitB "dict" t=some b∧Q (.bl b) H) ∨ ∃ a vs t b,xs=[.ref a,.ty t]∧TupAt H a vs∧kitB "tuple" t=some b∧Q (.bl b) H
theorem call_isiD:CallR X (.builtin "isinstance") (rIsiD X.K):=by
 intro pins s σ H xs us Q I r h
 rcases h with h | ⟨a,o,t,b,rfl,h1,h2,h3,q⟩ | ⟨a,vs,t,b,rfl,⟨o,_,h1⟩,h3,q⟩
 ·exact call_isi pins s σ H xs us Q I r h
 ·obtain ⟨u1,u2,rfl,r1,r2⟩:=vals2 r
  cases (show u1=Value.ref a from r1)
  cases (show u2=Value.type t from r2)
  obtain ⟨hg,_⟩:=(show ObjOk X.prog X.w H s.heap a (dHO a o) from I.hok a _ h1)
  exact PySem.W.kia_one PySem.W.kitx_dict I.kIn ⟨o,hg,h2.1⟩ (kit_ty h3) (fun z=>nomatch z) fun tk=>⟨.bl b,H,I.tok tk,rfl,q⟩
 ·obtain ⟨u1,u2,rfl,r1,r2⟩:=vals2 r
  cases (show u1=Value.ref a from r1)
  cases (show u2=Value.type t from r2)
  obtain ⟨hg,_,_,_,o',hg',hc,_⟩:=(show ObjOk X.prog X.w H s.heap a (tq (o,vs)) from I.hok a _ h1)
  exact PySem.W.kia_one PySem.W.kitx_tuple I.kIn ⟨o',hg',hc⟩ (kit_ty h3) (fun z=>nomatch z) fun tk=>⟨.bl b,H,I.tok tk,rfl,q⟩
theorem de_isI (ha:DE C cm k N sc a A) (t:String) {p2:Pos} (mx:C.mg "isinstance" = none) (mt:C.mg (Str.ofString t)=none) (ht:(t = "tuple" ∨ t = "list" ∨ t = "str" ∨ t = "int" ∨ t = "bool"):=by decide) (hg:sc.names.lookup ("isinstance":Str)=some .globalImplicit:=by rfl) (hg2:sc.names.lookup (Str.ofString t)=some .globalImplicit:=by rfl)
  (hst:∀ env:PySem.Env,starEach [a,.Name (Str.ofString t) p2] env=(false,eval a env) :: starEach [.Name (Str.ofString t) p2] env:=by intro _; rfl):DE C cm k N sc (.Call (.Name "isinstance" p) [a,.Name (Str.ofString t) p2] [] pos) (eIsI A t):=by
 obtain ⟨ta,pa,qa⟩:=ha
 have hv:bootBuiltins (Str.ofString t)=some (.type t)∧Str.ofString t ≠ "__name__"∧(Str.ofString t == ("__debug__":Str))=false:=by
  rcases ht with rfl | rfl | rfl | rfl | rfl <;> exact ⟨by decide +kernel,by decide,by decide⟩
 refine ⟨fun W=>tCB (rIsiD C.K) (tCons (ta W) (tCons (tC (.ty t)) tNil)),fun X S W T=>by rw [← S.K]; exact pe_callB call_isiD (S.gl hg) (by rw [S.mg]; exact mx) (by decide +kernel) (pa_cons (pa X S W T) (pa_cons (pe_bltn (S.gl hg2) (by rw [S.mg]; exact mt) hv.1 rfl hv.2.1 hv.2.2) pa_nil) (hst _)) (by decide) (by decide) (hst _) rfl,fun W σ Γ F0 H0 F H Q g h=>?_⟩
 refine qa W σ Γ F0 H0 F H _ g (EOk.bind h fun x v F1 H1 ex e1 r1 h1=>?_)
 have r:=r1.rep e1.fh
 have h2:=h1.next e1
 have h2:EOk C W σ F1 H1 Q ((if isExo x.2=true then .bad else Res.ok (.bl (kindIs t x.2)):Res PV).bind fzv):=h2
 by_cases hex:isExo x.2=true
 ·rw [if_pos hex] at h2; exact h2.elim
 rw [if_neg hex] at h2
 have fin:=h2 _ F1 H1 (Ext.refl e1.fh e1.tp) (.fz rep_bl)
 have go:∀ u:String,TyX C.K H1 v (.type u)→kitB u t=some (kindIs t x.2)→rIsiD C.K [v,.ty t] H1 Q:=fun u h3 h4 =>
  .inl ⟨v,.ty t,.type u,.type t,_,rfl,.ty t,h3,kit_ty h4,fin⟩
 obtain ⟨tg,q⟩:=x
 cases q with
 | non=>unfold Rep at r; subst r; exact go "NoneType" (.base .non) (kit_at (by simp) ht (by rcases ht with rfl | rfl | rfl | rfl | rfl <;> rfl))
 | bl b=>unfold Rep at r; subst r; exact go "bool" (.base (.bl b)) (kit_at (by simp) ht (by rcases ht with rfl | rfl | rfl | rfl | rfl <;> rfl))
 | int i=>unfold Rep at r; subst r; exact go "int" (.base (.int i)) (kit_at (by simp) ht (by rcases ht with rfl | rfl | rfl | rfl | rfl <;> rfl))
 | str l=>unfold Rep at r; obtain ⟨rfl,_⟩:=r; exact go "str" (.base (.str _)) (kit_at (by simp) ht (by rcases ht with rfl | rfl | rfl | rfl | rfl <;> rfl))
 | tup l=>obtain ⟨ad,vs,rfl,s2,r3⟩:=rep_tup r; exact .inr (.inr ⟨ad,vs,t,_,rfl,s2,kit_at (u:="tuple") (by simp) ht (by rcases ht with rfl | rfl | rfl | rfl | rfl <;> rfl),fin⟩)
 | lst l =>
  obtain ⟨ad,vs,rfl,s2,r3⟩:=rep_lst r
  have ty:TyX C.K H1 (.ref ad) (.type "list"):=by
   rcases s2 with (z | ⟨o,z⟩) | ⟨o,its,n,z,z2,_⟩
   ·exact .base (.lst z)
   ·exact .base (.frz z)
   ·exact .kList z z2
  exact go "list" ty (kit_at (by simp) ht (by rcases ht with rfl | rfl | rfl | rfl | rfl <;> rfl))
 | dic ks l =>
  unfold Rep at r
  obtain ⟨ad,o,vs,rfl,s2,_,dk,_⟩:=r
  have hx:o.ExactDict:=by
   rcases dk with ⟨_,_,_,_,z,_⟩ | ⟨_,_,_,_,z,_⟩ <;> exact z
  exact .inr (.inl ⟨ad,o,t,_,rfl,s2,hx,kit_at (u:="dict") (by simp) ht (by rcases ht with rfl | rfl | rfl | rfl | rfl <;> rfl),fin⟩)
 | exo c l=>exact (hex rfl).elim
end
end Vl
end
section
set_option Elab.async false
set_option linter.all false
set_option maxRecDepth 100000
set_option maxHeartbeats 1000000
namespace Vl
open PySem L2 Vm PyProof.Rows
def spOf(C:Cn)(n:Nat)(f:FN):Sp:=fun vs H Q E=>∃ F ps,vs.length=n∧Same F H∧Tups F H∧RepL C.K F ps vs∧match f ps with
 | .ok x=>∀ v F' H',Ext F H F' H'→RV C.K F' H' H x v→Q v H'
 | .exc c=>∀ F' H',Ext F H F' H'→E (C.xc c) none H'
 | .bad=>False
structure Cal (C:Cn) (x:Str) (n k:Nat) (f:FN):Prop where
 ex:∃ ad fd ps,ps.length=n∧FnOk C.P C.w C.K C.mg C.base (L2.CX C.P C.w) k ad fd ps (spOf C n f)∧PySem.W.keepIn C.K (.ref ad)=true∧Binds C.K fd ps []∧C.mg x=some (.ref ad)
section
variable {C:Cn} {cm:Bool} {k:Nat} {N:List Str} {sc:Scope} {a b c e:Expr} {es:List Expr} {A B:EX} {As:EXs} {T U:TX} {pos p:Pos} {X:Cx} {x:Str}
theorem RV.ofFz{K:KK}{F H Hs:Hp}{p:PV}{v:V}:RV K F H Hs (.fz,p) v→Rep K F p v:=fun ⟨_,h⟩=>h
mutual
theorem stab_rep {K:KK} {F G:Hp} (g:∀ a xs,F a=some (tq xs)→G a=some (tq xs)):∀ (p:PV) (v:V),stab p=true→Rep K F p v→Rep K G p v
 | .non,v,_,h=>h
 | .bl _,v,_,h=>h
 | .int _,v,_,h=>h
 | .str _,v,_,h=>h
 | .tup l,v,s,h=>by
  unfold stab at s
  unfold Rep at h ⊢
  obtain ⟨a,vs,h1,h2,h3⟩:=h
  exact ⟨a,vs,h1,h2.up g,stab_repL g l vs s h3⟩
 | .lst _,v,s,_=>by simp [stab] at s
 | .dic _ _,v,s,_=>by simp [stab] at s
 | .exo _ _,v,s,_=>by simp [stab] at s
theorem stab_repL {K:KK} {F G:Hp} (g:∀ a xs,F a=some (tq xs)→G a=some (tq xs)):∀ (l:List PV) (vs:List V),stabL l=true→RepL K F l vs→RepL K G l vs
 | [],vs,_,h=>h
 | p :: l,vs,s,h=>by
  unfold stabL at s
  rw [Bool.and_eq_true] at s
  unfold RepL at h ⊢
  obtain ⟨v,r,h1,h2,h3⟩:=h
  exact ⟨v,r,h1,stab_rep g p v s.1 h2,stab_repL g l r s.2 h3⟩
end
theorem stab_own{K:KK}{F G H:Hp}(g:∀ a xs,F a=some (tq xs)→G a=some (tq xs)):∀ (d:Nat) {fp:List Addr} {p:PV} {v:V},stabO d p=true→Own K F H d fp p v→Own K G H d fp p v
 | 0,fp,p,v,s,h=>⟨h.1,stab_rep g p v (by unfold stabO at s; exact s) h.2⟩
 | d+1,fp,p,v,s,h=>by
  rcases h with ⟨l,a,vs,fps,h2,h3,h4,h5⟩ | ⟨_,h2,_⟩
  rotate_left
  ·cases p <;> first | (simp [stabO] at s; done) | cases h2
  refine .inl ⟨l,a,vs,fps,h2,h3.tups g,h4,?_⟩
  have s:l.all (stabO d)=true:=by
   rcases h3 with ⟨rfl,_⟩ | ⟨ks,o,rfl,_⟩ | ⟨_,_,rfl,_⟩
   ·unfold stabO at s; exact s
   ·unfold stabO at s; exact s
   ·simp [stabO] at s
  clear h4 h3
  have go:∀ {fs:List (List Addr)} {ps:List PV} {vs:List V},ps.all (stabO d)=true→OwnL (Own K F H d) fs ps vs→OwnL (Own K G H d) fs ps vs:=by
   intro fs
   induction fs with
   | nil=>intro ps vs _ h; cases ps with
    | nil=>cases vs with
     | nil=>trivial
     | cons v vs=>exact h.elim
    | cons p ps=>exact h.elim
   | cons f fs ih=>intro ps vs hs h; cases ps with
    | nil=>exact h.elim
    | cons p ps=>cases vs with
     | nil=>exact h.elim
     | cons v vs =>
      rw [List.all_cons,Bool.and_eq_true] at hs
      exact ⟨stab_own g d hs.1 h.1,ih hs.2 h.2⟩
  exact go s h5
theorem putVs_of:∀ {xs:List TV},xs.any isBw=false→putVs xs = .ok (xs.map (·.2))
 | [],_=>rfl
 | x :: xs,h=>by
  rw [List.any_cons,Bool.or_eq_false_iff] at h
  unfold putVs
  have e:putV x = .ok x.2:=by
   obtain ⟨t,p⟩:=x
   match t,h.1 with
   | .fz,_=>rfl
   | .ow d,_=>rfl
   | .bw 0,_=>rfl
   | .bw (d+1),h=>cases h
  rw [e,bind_ok,putVs_of h.2]
  rfl
open Classical in
noncomputable def tupF(F H:Hp):Hp:=fun a=>if ∃ xs,H a=some (tq xs) then H a else F a
theorem tupF_tup{F H:Hp}{a:Addr}{xs}(h:H a=some (tq xs)):tupF F H a=some (tq xs):=by unfold tupF; rw [if_pos ⟨xs,h⟩]; exact h
theorem tupF_cases{F H:Hp}(a:Addr):(∃ xs,H a=some (tq xs)) ∨ tupF F H a=F a:=by
 by_cases h:∃ xs,H a=some (tq xs)
 ·exact .inl h
 ·unfold tupF; rw [if_neg h]; exact .inr rfl
theorem Ext.tupF{F1 H1 H':Hp}(hf:Same F1 H1)(ht:Tups F1 H1)(hh:Same H1 H'):Ext F1 H1 (tupF F1 H') H':=by
 refine ⟨fun a o e=>?_,hh,fun a o e=>?_,fun a xs e=>tupF_tup e,fun a q=>?_⟩
 ·rcases tupF_cases (F:=F1) (H:=H') a with ⟨xs,z⟩ | z
  ·rw [tupF_tup z]
   rw [hh _ _ (hf _ _ e)] at z
   exact z.symm
  ·rw [z]; exact e
 ·rcases tupF_cases (F:=F1) (H:=H') a with ⟨xs,z⟩ | z
  ·rw [tupF_tup z] at e; rw [← e]; exact z
  ·rw [z] at e; exact hh _ _ (hf _ _ e)
 ·rcases tupF_cases (F:=F1) (H:=H') a with ⟨xs,z⟩ | z
  ·cases e:H1 a with
   | none=>exact .inr rfl
   | some o =>
    have:=hh _ _ e
    rw [z] at this
    cases this
    exact .inl (by rw [ht _ _ e]; simp)
  ·rw [z] at q; exact .inl q
def AL(n:Nat)(As:EXs):Prop:=∀ Γ xs,As Γ = .ok xs→xs.length=n
theorem al_nil:AL 0 eNil:=fun Γ xs h=>by cases h; rfl
theorem al_cons{n:Nat}(h:AL n As):AL (n+1) (eCons A As):=fun Γ xs e=>by
 unfold eCons at e
 cases e1:A Γ with
 | ok x =>
  rw [e1,bind_ok] at e
  cases e2:As Γ with
  | ok ys=>rw [e2,bind_ok] at e; cases e; rw [List.length_cons,h Γ ys e2]
  | exc c=>rw [e2] at e; cases e
  | bad=>rw [e2] at e; cases e
 | exc c=>rw [e1] at e; cases e
 | bad=>rw [e1] at e; cases e
theorem de_call {f:FN} {n j:Nat} (G:Cal C x n j f) (ha:DA C true k N sc (e :: es) As) (hj:j≤k:=by decide) (hg:sc.names.lookup x=some .globalImplicit:=by rfl) (hdb:(x == ("__debug__":Str))=false:=by decide)
  (he:∀ env:PySem.Env,starEach (e :: es) env=(false,eval e env) :: starEach es env:=by intro _; rfl) (hpl:∀ env:PySem.Env,(backTo pos (starEach es env)).any (·.1)=false:=by intro _; rfl) (hlen:(e :: es).length=n:=by rfl) (hAs:AL n As) :
  DE C true k N sc (.Call (.Name x p) (e :: es) [] pos) (eCall f As):=by
 obtain ⟨ta,pa,qa⟩:=ha
 obtain ⟨ad,fd,ps,hps,F,kp,bn,hm⟩:=G.ex
 refine ⟨fun W=>tCallS (spOf C n f) (WE W) (ta W),fun X S W T=>?_,fun W σ Γ F0 H0 F H Q g h=>?_⟩
 ·have cn:=S.cn
  subst cn
  exact pe_callS F ((S.r rfl).mono hj) (S.gl hg) hm kp bn (fun σ=>passAt T σ) (pa X S W T) hdb (he _) (hpl _)
 ·refine qa W σ Γ F0 H0 F H _ g (AOk.bind h fun xs vs fp F1 H1 ex e1 r1 h1=>?_)
  have hl:vs.length=n:=by
   rw [(RVs.reps e1.fh r1).len,List.length_map]; exact hAs Γ xs ex
  by_cases hb:xs.any isBw=true
  ·refine ⟨H1,xs.map (·.2),hl,Same.refl _,fun _ _ z=>z,RVs.reps e1.fh r1,?_⟩
   cases ef:f (xs.map (·.2)) with
   | bad=>rw [ef] at h1; exact h1.elim
   | exc c =>
    rw [ef] at h1
    exact fun F' H' e'=>h1 (tupF F1 H') H' (e1.trans (Ext.tupF e1.fh e1.tp e'.hh))
   | ok x =>
    rw [ef,bind_ok,hb] at h1
    by_cases hs:stabR x=true
    ·rw [hs] at h1
     intro v F' H' e' rv
     have e2:=Ext.tupF e1.fh e1.tp e'.hh
     refine h1 v (tupF F1 H') H' (e1.trans e2) ?_
     have gt:∀ a xs,F' a=some (tq xs)→tupF F1 H' a=some (tq xs):=fun a xs z=>tupF_tup (e'.fh _ _ z)
     obtain ⟨t,p⟩:=x
     obtain ⟨fp',rv⟩:=rv
     cases t with
     | fz=>exact .fz (stab_rep gt p v hs rv)
     | bw d=>cases hs
     | ow d =>
      obtain ⟨z1,z2,z3⟩:=rv
      refine ⟨fp',stab_own gt d hs z1,z2,fun a ha=>⟨?_,e1.hh.free (z3 a ha).2⟩⟩
      obtain ⟨ws,z4,z5⟩:=z1.there d a ha
      rcases tupF_cases (F:=F1) (H:=H') a with ⟨_,z⟩ | z
      ·rw [z4] at z; cases z; exact (z5 _ rfl).elim
      ·rw [z]; exact e1.fh.free (z3 a ha).2
    ·have:stabR x=false:=by cases q:stabR x <;> simp_all
     rw [this] at h1; exact h1.elim
  ·have hb':xs.any isBw=false:=by cases q:xs.any isBw <;> simp_all
   obtain ⟨F2,e2,s2,r2,_⟩:=RVs.put e1 r1 (putVs_of hb')
   refine ⟨F2,xs.map (·.2),hl,e2.fh,e2.tp,r2,?_⟩
   cases ef:f (xs.map (·.2)) with
   | bad=>rw [ef] at h1; exact h1.elim
   | exc c =>
    rw [ef] at h1
    exact fun F' H' e'=>h1 F' H' (e2.trans e')
   | ok x =>
    rw [ef,bind_ok,hb'] at h1
    exact fun v F' H' e' rv=>h1 v F' H' (e2.trans e') (rv.start e1.hh)
end
end Vl
end
section
set_option Elab.async false
set_option linter.all false
set_option maxRecDepth 100000
set_option maxHeartbeats 1000000
namespace Vl
open PySem L2 Vm PyProof.Rows
section
variable {K:KK} {F0 H0 F H F1 H1:Hp} {Γ:En} {σ:L2.St}
theorem get_set{Γ:En}{i j:Nat}{s:Sl}:En.get (Γ.set i s) j=if j=i∧i < Γ.length then s else Γ.get j:=by
 unfold En.get
 by_cases h:j=i
 ·subst h
  by_cases hl:j < Γ.length
  ·rw [if_pos ⟨rfl,hl⟩]; simp [List.getD,hl]
  ·rw [if_neg (fun z=>hl z.2)]
   have e:Γ.set j s=Γ:=List.set_eq_of_length_le (by omega)
   rw [e]
 ·rw [if_neg (fun z=>h z.1)]
  simp [List.getD,List.getElem?_set_ne (Ne.symm h)]
theorem Good.set(g:Good K F0 H0 Γ σ F H)(i:Nat){x:TV}{v:V}{f:List Addr}(h:RVf K F H H0 x v f)(hd:∀ (fp:Nat→List Addr),(∀ j x,Γ.get j=some x→∃ v,σ[j]? = some (some v)∧RVf K F H H0 x v (fp j))→(∀ i j a,i ≠ j→a∈fp i→a ∉ fp j)→∃ fp':Nat→List Addr,(∀ j x,Γ.get j=some x→j ≠ i→∃ v,σ[j]? = some (some v)∧RVf K F H H0 x v (fp' j))∧(∀ i' j a,i' ≠ j→a∈fp' i'→a ∉ fp' j)∧fp' i=f) :
  Good K F0 H0 (Γ.set i (some x)) (σ.set i (some v)) F H:=by
 refine ⟨g.ext,by rw [List.length_set,List.length_set]; exact g.len,?_⟩
 obtain ⟨fp,h1,h2⟩:=g.slots
 obtain ⟨fp',h3,h4,h5⟩:=hd fp h1 h2
 by_cases hl:i < Γ.length
 ·refine ⟨fp',fun j y hy=>?_,h4⟩
  rw [get_set] at hy
  by_cases hj:j=i
  ·subst hj
   rw [if_pos ⟨rfl,hl⟩] at hy
   cases hy
   exact ⟨v,by rw [List.getElem?_set_self (by rw [← g.len]; exact hl)],by rw [h5]; exact h⟩
  ·rw [if_neg (fun z=>hj z.1)] at hy
   obtain ⟨u,h6,h7⟩:=h3 j y hy hj
   exact ⟨u,by rw [List.getElem?_set_ne (Ne.symm hj)]; exact h6,h7⟩
 ·refine ⟨fp,?_,h2⟩
  rw [List.set_eq_of_length_le (by omega),List.set_eq_of_length_le (by have:=g.len; omega)]
  exact h1
theorem Good.setF(g:Good K F0 H0 Γ σ F H)(i:Nat){x:TV}{v:V}(h:RVf K F H H0 x v []):Good K F0 H0 (Γ.set i (some x)) (σ.set i (some v)) F H :=
 g.set i h fun fp h1 h2=>⟨fun j=>if j=i then [] else fp j,fun j x hx hj=>by
  obtain ⟨v,h3,h4⟩:=h1 j x hx
  exact ⟨v,h3,by simp only; rw [if_neg hj]; exact h4⟩,fun i' j a hij ha=>by
  simp only at ha ⊢
  split at ha
  ·simp at ha
  ·split
   ·simp
   ·exact h2 i' j a hij ha,by simp⟩
theorem wipe_get{Γ:En}:∀ {vs:List Nat} {j:Nat} {x:TV},(wipeE Γ vs).get j=some x→Γ.get j=some x∧j ∉ vs
 | [],j,x,h=>⟨h,by simp⟩
 | v :: vs,j,x,h=>by
  unfold wipeE at h
  rw [get_set] at h
  split at h
  ·cases h
  ·rename_i hn
   obtain ⟨h1,h2⟩:=wipe_get h
   refine ⟨h1,?_⟩
   simp only [List.mem_cons,not_or]
   refine ⟨fun e=>?_,h2⟩
   subst e
   by_cases hl:j < (wipeE Γ vs).length
   ·exact hn ⟨rfl,hl⟩
   ·have:(wipeE Γ vs).get j=none:=by unfold En.get; simp [List.getD,List.getElem?_eq_none (by omega:(wipeE Γ vs).length≤j)]
    rw [this] at h; cases h
theorem wipeE_length(Γ:En):∀ vs:List Nat,(wipeE Γ vs).length=Γ.length
 | []=>rfl
 | v :: vs=>by unfold wipeE; rw [List.length_set,wipeE_length Γ vs]
theorem wipe_keep{σ:L2.St}{j:Nat}:∀ {vs:List Nat},j ∉ vs→(wipe σ vs)[j]? = σ[j]?
 | [],_=>rfl
 | v :: vs,h=>by
  simp only [List.mem_cons,not_or] at h
  unfold wipe
  rw [List.getElem?_set_ne (Ne.symm h.1)]
  exact wipe_keep h.2
theorem Good.wipe(g:Good K F0 H0 Γ σ F H)(vs:List Nat):Good K F0 H0 (wipeE Γ vs) (wipe σ vs) F H:=by
 refine ⟨g.ext,by rw [wipeE_length,wipe_length]; exact g.len,?_⟩
 obtain ⟨fp,h1,h2⟩:=g.slots
 refine ⟨fp,fun j x hx=>?_,h2⟩
 obtain ⟨h3,h4⟩:=wipe_get hx
 obtain ⟨v,h5,h6⟩:=h1 j x h3
 exact ⟨v,by rw [wipe_keep h4]; exact h5,h6⟩
theorem Good.forget(g:Good K F0 H0 Γ σ F H)(vs:List Nat):Good K F0 H0 (wipeE Γ vs) σ F H:=by
 refine ⟨g.ext,by rw [wipeE_length]; exact g.len,?_⟩
 obtain ⟨fp,h1,h2⟩:=g.slots
 refine ⟨fp,fun j x hx=>?_,h2⟩
 obtain ⟨h3,_⟩:=wipe_get hx
 exact h1 j x h3
theorem wipe_set_in{σ:L2.St}{i:Nat}{v:Option V}:∀ {vs:List Nat},i∈vs→L2.wipe (σ.set i v) vs=L2.wipe σ vs
 | w :: vs,h=>by
  unfold L2.wipe
  by_cases hw:i∈vs
  ·rw [wipe_set_in hw]
  ·have e:w=i:=by simpa [hw,eq_comm] using h
   subst e
   have:∀ {us:List Nat},w ∉ us→L2.wipe (σ.set w v) us=(L2.wipe σ us).set w v:=by
    intro us
    induction us with
    | nil=>intro _; rfl
    | cons u us ih =>
     intro hu
     simp only [List.mem_cons,not_or] at hu
     unfold L2.wipe
     rw [ih hu.2,List.set_comm _ _ (Ne.symm hu.1:¬ _)]
   rw [this hw,List.set_set]
end
def FnReq(so:Scope)(X:Cx):Prop:=∀ x,so.names.lookup x=some .cell→X.fn x=true
section
variable {C:Cn} {cm:Bool} {k:Nat} {N:List Str} {sc so:Scope} {a b c e:Expr} {es:List Expr} {A B:EX} {As:EXs} {T U:TX} {pos p:Pos} {X:Cx} {x:Str}
def DG(C:Cn)(cm:Bool)(k:Nat)(N:List Str)(sc so:Scope)(tg:Expr)(pat:Pat):Prop:=∃ t:TG,(∀ X,Sta C cm k N sc X→FnReq so X→PG X tg t) ∧
 ∀ Γ σ F0 H0 F H x v Hs Q,Good C.K F0 H0 Γ σ F H→RV C.K F H Hs x v→(match bindP Γ x pat with
  | .ok Γ'=>∀ σ',Good C.K F0 H0 Γ' σ' F H→(∀ ws:List Nat,(∀ i∈pat.slots,i∈ws)→wipe σ' ws=wipe σ ws)→Q σ' H
  | _=>False)→t v σ H Q
theorem dg_v(i:Nat){x:Str}(hi:N[i]? = some x:=by rfl)(hx:Loc sc x:=by first | exact Or.inl rfl | exact Or.inr rfl)(hf:so.names.lookup x=some .cell ∨ sc.names.lookup x=some .local:=by first | exact Or.inr rfl | exact Or.inl rfl):DG C cm k N sc so (.Name x pos) (.v i):=by
 refine ⟨gName i,fun X S R=>pg_name (by rw [S.n]; exact S.nd) (by rw [S.n]; exact hi) (by rw [S.s]; exact hx) (by
  rcases hf with hf | hf
  ·exact .inl (R _ hf)
  ·exact .inr (by rw [S.s]; exact hf)),fun Γ σ F0 H0 F H x v Hs Q g r h=>?_⟩
 have w:∀ ws:List Nat,(∀ i'∈(Pat.v i).slots,i'∈ws)→wipe (σ.set i (some v)) ws=wipe σ ws:=fun ws hw=>wipe_set_in (hw i (by simp [Pat.slots]))
 obtain ⟨t,q⟩:=x
 obtain ⟨fp,r⟩:=r
 cases t with
 | fz=>exact h _ (g.setF i (x:=(.fz,q)) r) w
 | bw d =>
  cases d with
  | zero=>exact h _ (g.setF i (x:=(.fz,q)) (by obtain ⟨_,z⟩:=r; exact z.2)) w
  | succ d=>exact h _ (g.setF i (x:=(.bw (d+1),q)) r) w
 | ow d=>exact h _ (g.setF i (x:=(.bw d,q)) ⟨fp,r.1⟩) w
def DGs(C:Cn)(cm:Bool)(k:Nat)(N:List Str)(sc so:Scope)(ts:List Expr)(is:List Nat):Prop:=∃ t:TGs,(∀ X,Sta C cm k N sc X→FnReq so X→PGs X ts t)∧ts.length=is.length ∧
 ∀ Γ σ F0 H0 F H ps vs Q,Good C.K F0 H0 Γ σ F H→RepL C.K F ps vs→(match setAll Γ is ps with
  | some Γ'=>∀ σ',Good C.K F0 H0 Γ' σ' F H→(∀ ws:List Nat,(∀ i∈is,i∈ws)→wipe σ' ws=wipe σ ws)→Q σ' H
  | none=>False)→t vs σ H Q
theorem dgs_nil:DGs C cm k N sc so [] []:=⟨gNil,fun _ _ _=>pgs_nil,rfl,fun Γ σ F0 H0 F H ps vs Q g r h=>by
 cases ps with
 | nil=>unfold RepL at r; exact ⟨r,h σ g fun _ _=>rfl⟩
 | cons p ps=>exact h.elim⟩
theorem dgs_cons{i:Nat}{is:List Nat}(h1:DG C cm k N sc so e (.v i))(h2:DGs C cm k N sc so es is)(hs:∀ env:PySem.Env,(assignEach (e :: es) env).map (·.2)=assign e env :: (assignEach es env).map (·.2):=by intro _; rfl):DGs C cm k N sc so (e :: es) (i :: is):=by
 obtain ⟨t,pt,qt⟩:=h1
 obtain ⟨u,pu,lu,qu⟩:=h2
 refine ⟨gCons t u,fun X S R=>pgs_cons (pt X S R) (pu X S R) (hs _),by simp [lu],fun Γ σ F0 H0 F H ps vs Q g r h=>?_⟩
 cases ps with
 | nil=>exact h.elim
 | cons p ps =>
  unfold RepL at r
  obtain ⟨v,vr,rfl,r1,r2⟩:=r
  refine ⟨v,vr,rfl,qt Γ σ F0 H0 F H (.fz,p) v H _ g (.fz r1) ?_⟩
  intro σ1 g1 w1
  refine qu (Γ.set i (some (.fz,p))) σ1 F0 H0 F H ps vr Q g1 r2 ?_
  unfold setAll at h
  cases e:setAll (Γ.set i (some (.fz,p))) is ps with
  | none=>rw [e] at h; exact h
  | some Γ' =>
   rw [e] at h
   intro σ' g' w'
   refine h σ' g' fun ws hw=>?_
   rw [w' ws fun j hj=>hw j (by simp [hj])]
   exact w1 ws fun j hj=>hw j (by simp [Pat.slots] at hj; simp [hj])
def gSeq(K:PySem.W.Frag)(n:Nat)(t:TGs):TG:=fun v σ H Q=>∃ a xs,v = .ref a∧(SqT K H a xs ∨ SqL K H a xs)∧xs.length=n∧t xs σ H Q
theorem setAll_len:∀ {is:List Nat} {ps:List PV} {Γ Γ':En},setAll Γ is ps=some Γ'→ps.length=is.length:=by
 intro is
 induction is with
 | nil=>intro ps Γ Γ' h; cases ps with
  | nil=>rfl
  | cons p ps=>cases h
 | cons i is ih=>intro ps Γ Γ' h; cases ps with
  | nil=>cases h
  | cons p ps=>unfold setAll at h; rw [List.length_cons,List.length_cons,ih h]
theorem dg_t{is:List Nat}{k':Nat}(h:DGs C true k N sc so es is)(hn:∀ env:PySem.Env,(assignEach es env).length=es.length:=by intro _; rfl)(hst:∀ env:PySem.Env,(assignEach es env).findIdx? (·.1)=none:=by intro _; rfl):DG C true k N sc so (.Tuple es k' pos) (.t is):=by
 obtain ⟨t,pt,lt,qt⟩:=h
 refine ⟨gSeq C.K es.length t,fun X S R=>?_,fun Γ σ F0 H0 F H x v Hs Q g r hh=>?_⟩
 ·rw [← S.K]
  refine ⟨fun pins s σ H v u Q I r hw=>?_⟩
  obtain ⟨a,xs,e1,hq | hq,hl,hw⟩:=hw
  ·exact (pg_tup (S.c rfl) (pt X S R) (hn _) (hst _)).run pins s σ H v u Q I r ⟨a,xs,e1,hq,hl,hw⟩
  ·exact (pg_lst (S.c rfl) (pt X S R) (hn _) (hst _)).run pins s σ H v u Q I r ⟨a,xs,e1,hq,hl,hw⟩
 have go:∀ {ps:List PV} {ad:Addr} {vs:List V},v = .ref ad→(SqT C.K H ad vs ∨ SqL C.K H ad vs)→RepL C.K F ps vs→(match (match setAll Γ is ps with | some Γ'=>(.ok Γ':Res En) | none=>.bad) with
   | .ok Γ'=>∀ σ',Good C.K F0 H0 Γ' σ' F H→(∀ ws:List Nat,(∀ i∈is,i∈ws)→wipe σ' ws=wipe σ ws)→Q σ' H
   | _=>False)→gSeq C.K es.length t v σ H Q:=fun {ps ad vs} ev sq r3 hh=>by
  cases e:setAll Γ is ps with
  | none=>rw [e] at hh; exact hh.elim
  | some Γ' =>
   rw [e] at hh
   refine ⟨ad,vs,ev,sq,by rw [r3.len,setAll_len e,lt],qt Γ σ F0 H0 F H ps vs Q g r3 ?_⟩
   rw [e]
   exact hh
 obtain ⟨tg,q⟩:=x
 cases q with
 | tup ps =>
  obtain ⟨ad,vs,ev,s2,r3⟩:=rv_tup r
  exact go ev (.inl ((TupAt.sq (TupAt.mono g.ext.fh s2)))) r3 hh
 | lst ps =>
  unfold bindP seqP at hh
  simp only at hh
  by_cases f1:flat1 tg=true
  ·rw [if_pos f1] at hh
   obtain ⟨ad,vs,ev,s2,r3⟩:=rv_flat g.ext.fh r f1
   exact go ev (.inr s2) r3 hh
  ·rw [if_neg f1] at hh; exact hh.elim
 | _=>exact hh.elim
def ItOk(K:KK)(J:It)(fl:Bool)(items:List TV)(F1 H1:Hp):Prop:=(fl=true→∀ x∈items,∃ p,x=(.fz,p)) ∧
 ∀ i F H,Same F1 F→Same F H→Tups F H→(fl=false→Same H1 H)→(i < items.length→J.go i H)∧(i=items.length→J.stop i H)∧∀ x H',i < items.length→J.yld i H x H'→∃ it,items[i]? = some it∧∃ F',Ext F H F' H'∧∀ Hs,RV K F' H' Hs it x
def DI(C:Cn)(cm:Bool)(k:Nat)(N:List Str)(sc:Scope)(tg e:Expr)(E:IX):Prop:=∃ tb:WX→TI,(∀ X,Sta C cm k N sc X→∀ W,Takes X W→PI X tg e (tb W)) ∧
 ∀ W σ Γ F0 H0 F H (R:It→Hp→Prop),Good C.K F0 H0 Γ σ F H→(match E Γ with
  | .ok y=>∀ J F' H',Ext F H F' H'→ItOk C.K J y.1 y.2 F' H'→R J H'
  | .exc c=>∀ F' H',Ext F H F' H'→W (C.xc c) none σ H'
  | .bad=>False)→tb W σ H R
theorem itok_list{K:KK}{F H:Hp}{a:Addr}{l:List PV}{vs:List V}(s:SqL K F a vs)(r:RepL K F l vs):ItOk K (Itl K a) true (l.map fun p=>(.fz,p)) F H :=
 ⟨fun _ x hx=>by
  obtain ⟨p,_,rfl⟩:=List.mem_map.mp hx
  exact ⟨p,rfl⟩,fun i F1 H1 h e1 t1 _=>by
  have sq:SqL K H1 a vs:=e1.seq (h.seq s)
  refine ⟨fun hi=>?_,fun hi=>⟨vs,sq,by rw [r.len,hi,List.length_map]; exact Nat.le_refl _⟩,fun x H' hlt y=>?_⟩
  ·have hi':i < vs.length:=by rw [r.len]; simpa using hi
   exact ⟨vs,vs[i],sq,List.getElem?_eq_getElem hi'⟩
  ·obtain ⟨rfl,y⟩:=y
   obtain ⟨p,h2,h3⟩:=r.getV (y vs sq)
   exact ⟨(.fz,p),by rw [List.getElem?_map,h2]; rfl,F1,Ext.refl e1 t1,fun Hs=>.fz (h3.mono h _ _)⟩⟩
theorem itok_tup{K:KK}{F H:Hp}{a:Addr}{l:List PV}{vs:List V}(s:TupAt F a vs)(r:RepL K F l vs):ItOk K (Itt K a) true (l.map fun p=>(.fz,p)) F H :=
 ⟨fun _ x hx=>by
  obtain ⟨p,_,rfl⟩:=List.mem_map.mp hx
  exact ⟨p,rfl⟩,fun i F1 H1 h e1 t1 _=>by
  have sq:SqT K H1 a vs:=((s.mono h).mono e1).sq
  refine ⟨fun hi=>?_,fun hi=>⟨vs,sq,by rw [r.len,hi,List.length_map]; exact Nat.le_refl _⟩,fun x H' hlt y=>?_⟩
  ·have hi':i < vs.length:=by rw [r.len]; simpa using hi
   exact ⟨vs,vs[i],sq,List.getElem?_eq_getElem hi'⟩
  ·obtain ⟨rfl,y⟩:=y
   obtain ⟨p,h2,h3⟩:=r.getV (y vs sq)
   exact ⟨(.fz,p),by rw [List.getElem?_map,h2]; rfl,F1,Ext.refl e1 t1,fun Hs=>.fz (h3.mono h _ _)⟩⟩
theorem ItOk.weak{K:KK}{F H:Hp}{J:It}{items:List TV}(h:ItOk K J true items F H):ItOk K J false items F H :=
 ⟨fun z=>(by cases z),fun i F1 H1 a b c _=>h.2 i F1 H1 a b c fun z=>by cases z⟩
theorem itok_bw{K:KK}{F H:Hp}{d:Nat}{fp:List Addr}{l:List PV}{v:V}(hf:Same F H)(o:Own K F H d fp (.lst l) v):∃ a,v = .ref a∧(∃ vs,SqL K H a vs)∧ItOk K (Itl K a) false (l.map fun p=>(dn (.bw d),p)) F H:=by
 cases d with
 | zero =>
  have r:=o.2
  unfold Rep at r
  obtain ⟨a,vs,rfl,s,r⟩:=r
  exact ⟨a,rfl,⟨vs,hf.seq s⟩,(itok_list s r).weak⟩
 | succ d =>
  have o':=o
  obtain ⟨l',a,vs,fps,e0,rfl,h3,h4,h5⟩:=o'.lst
  cases e0
  have rr:=ownl_rep hf h5
  refine ⟨a,rfl,⟨vs,SqL.of h3⟩,fun z=>(by cases z),fun i F1 H1 hF e1 t1 hH=>?_⟩
  have hH:=hH rfl
  have sq1:SqL K H1 a vs:=SqL.of (hH _ _ h3)
  refine ⟨fun hi=>?_,fun hi=>⟨vs,sq1,by rw [rr.len,hi,List.length_map]; exact Nat.le_refl _⟩,fun x H' hlt y=>?_⟩
  ·have hi':i < vs.length:=by rw [rr.len]; simpa using hi
   exact ⟨vs,vs[i],sq1,List.getElem?_eq_getElem hi'⟩
  ·obtain ⟨rfl,y⟩:=y
   have ex:=y vs sq1
   obtain ⟨p,h6,h7⟩:=rr.getV ex
   obtain ⟨f,op⟩:=own_part h5 h6 ex
   refine ⟨(dn (.bw (d+1)),p),by rw [List.getElem?_map,h6]; rfl,F1,Ext.refl e1 t1,fun Hs=>?_⟩
   have op':=op.same hF hH
   cases d with
   | zero=>exact .fz op'.2
   | succ d=>exact ⟨[],f,op'⟩
end
end Vl
end
section
set_option Elab.async false
set_option linter.all false
set_option maxRecDepth 100000
set_option maxHeartbeats 1000000
namespace Vl
open PySem L2 Vm PyProof.Rows
section
variable {C:Cn} {cm:Bool} {k:Nat} {N:List Str} {sc so:Scope} {a b c e tg:Expr} {es:List Expr} {A B:EX} {As:EXs} {T U:TX} {pos p:Pos} {X:Cx} {x:Str}
theorem EOk.bindI{W:WX}{σ:L2.St}{F H:Hp}{R:It→Hp→Prop}{f:TV→Res (Bool×List TV)}{Q1:VK}{r:Res TV}(h:match r.bind f with
  | .ok y=>∀ J F' H',Ext F H F' H'→ItOk C.K J y.1 y.2 F' H'→R J H'
  | .exc c=>∀ F' H',Ext F H F' H'→W (C.xc c) none σ H'
  | .bad=>False)
  (q:∀ x v F1 H1,r = .ok x→Ext F H F1 H1→RV C.K F1 H1 H x v→(match f x with
  | .ok y=>∀ J F' H',Ext F H F' H'→ItOk C.K J y.1 y.2 F' H'→R J H'
  | .exc c=>∀ F' H',Ext F H F' H'→W (C.xc c) none σ H'
  | .bad=>False)→Q1 v H1):EOk C W σ F H Q1 r:=by
 cases r with
 | ok x=>exact fun v F' H' e rv=>q x v F' H' rfl e rv h
 | exc c=>exact h
 | bad=>exact h
theorem itok_str{K:KK}{F H:Hp}{l:List Nat}(hg:strG l=true):ItOk K (Its ⟨l.toArray⟩) true (l.map fun c=>(.fz,.str [c])) F H:=by
 refine ⟨fun _ x hx=>?_,fun i F1 H1 _ e1 t1 _=>⟨fun h=>by simpa [Its] using h,fun h=>by rw [h]; simp [Its],fun x H' hlt y=>?_⟩⟩
 ·obtain ⟨p,_,rfl⟩:=List.mem_map.mp hx
  exact ⟨_,rfl⟩
 ·obtain ⟨rfl,c,hc,rfl⟩:=y
  have hc:l[i]? = some c:=by simpa using hc
  refine ⟨(.fz,.str [c]),by rw [List.getElem?_map,hc]; rfl,F1,Ext.refl e1 t1,fun Hs=>.fz (rep_str ?_)⟩
  unfold strG at hg
  rw [Bool.and_eq_true] at hg
  have h2:=List.all_eq_true.mp hg.2 c (List.mem_of_getElem? hc)
  show (decide (1≤16777216) && (decide (c < 1114112) && true))=true
  rw [h2]
  rfl
theorem di_seq(ha:DE C cm k N sc a A):DI C cm k N sc tg a (jSeq A):=by
 obtain ⟨ta,pa,qa⟩:=ha
 refine ⟨fun W=>fun σ H R=>ta W σ H fun x H1=>(∃ z,x = .str z∧R (Its z) H1) ∨ ∃ a,x = .ref a∧((∃ xs,SqL C.K H1 a xs)∧R (Itl C.K a) H1 ∨ (∃ xs,SqT C.K H1 a xs)∧R (Itt C.K a) H1),fun X S W T=>?_,fun W σ Γ F0 H0 F H R g h=>?_⟩
 ·rw [← S.K]
  refine ⟨fun pins s σ H R I h=>?_⟩
  refine thn ((pa X S W T).run pins s σ H _ I h) fun v s1 ⟨x,H1,I1,r1,q1⟩=>?_
  rcases q1 with ⟨x,ez,q⟩ | ⟨a,e,q1⟩
  ·subst ez
   obtain ⟨t,rfl⟩:=r1
   cases ha:x.cps.all (· < 128)
   ·exact wpAny_pyIter_wide ha (pi_one (tk:=s1.toks) I1 _ (turn_str _ x t "str_iterator" (.inr rfl)) ⟨_,Heap.get?_push_size _ rfl,rfl,rfl⟩ q)
   ·exact wpAny_pyIter_ascii ha (pi_one (tk:=s1.toks) I1 _ (turn_str _ x t "str_ascii_iterator" (.inl rfl)) ⟨_,Heap.get?_push_size _ rfl,rfl,rfl⟩ q)
  ·subst e
   cases r1
   rcases q1 with ⟨⟨xs,hq⟩,q⟩ | ⟨⟨xs,hq⟩,q⟩
   ·obtain ⟨its,rv,p,hz⟩:=I1.list hq
    refine wpAny_pyIter_list p.isList ?_
    refine ⟨s1.heap.objs.size,[s1.heap.objs.size],_,_,H1,rfl,I1.kept (t':=s1.toks) fun b o e=>Heap.get?_push_of_some _ e,turn_list a _,⟨_,Heap.get?_push_size _ rfl,rfl,rfl⟩,fun b hb=>?_,q⟩
    have e:b=s1.heap.objs.size:=by simpa using hb
    subst e
    exact I1.fpOk (Nat.le_refl _) (I1.hok.fresh (Nat.le_refl _))
   ·obtain ⟨its,rv,p,hz⟩:=I1.tuple hq
    refine wpAny_pyIter_tuple (show s1.heap.IsTuple a its.toArray from p) ?_
    refine ⟨s1.heap.objs.size,[s1.heap.objs.size],_,_,H1,rfl,I1.kept (t':=s1.toks) fun b o e=>Heap.get?_push_of_some _ e,turn_tuple a _,⟨_,Heap.get?_push_size _ rfl,rfl,rfl⟩,fun b hb=>?_,q⟩
    have e:b=s1.heap.objs.size:=by simpa using hb
    subst e
    exact I1.fpOk (Nat.le_refl _) (I1.hok.fresh (Nat.le_refl _))
 ·refine qa W σ Γ F0 H0 F H _ g (EOk.bindI h fun x v F1 H1 ex e1 r1 h1=>?_)
  obtain ⟨t,q⟩:=x
  cases q with
  | lst l =>
   cases t with
   | fz =>
    have r:=r1.ofFz
    unfold Rep at r
    obtain ⟨ad,vs,rfl,s2,r3⟩:=r
    exact .inr ⟨ad,rfl,.inl ⟨⟨vs,e1.fh.seq s2⟩,h1 _ F1 H1 e1 (itok_list s2 r3)⟩⟩
   | bw d =>
    obtain ⟨_,fp,o⟩:=r1
    obtain ⟨ad,rfl,sq,it⟩:=itok_bw e1.fh o
    exact .inr ⟨ad,rfl,.inl ⟨sq,h1 _ F1 H1 e1 it⟩⟩
   | ow d =>
    obtain ⟨fp,o⟩:=r1
    obtain ⟨F2,e2,s2,r2,_⟩:=RVf.put (x:=(.ow d,.lst l)) e1 o rfl
    unfold Rep at r2
    obtain ⟨ad,vs,rfl,s3,r3⟩:=r2
    exact .inr ⟨ad,rfl,.inl ⟨⟨vs,e2.fh.seq s3⟩,h1 _ F2 H1 e2 (itok_list s3 r3)⟩⟩
  | tup l =>
   obtain ⟨ad,vs,rfl,s2,r3⟩:=rv_tup r1
   exact .inr ⟨ad,rfl,.inr ⟨⟨vs,(TupAt.sq (TupAt.mono e1.fh s2))⟩,h1 _ F1 H1 e1 (itok_tup s2 r3)⟩⟩
  | str l =>
   have r:=r1.rep e1.fh
   unfold Rep at r
   obtain ⟨rfl,hg⟩:=r
   exact .inl ⟨_,rfl,h1 _ F1 H1 e1 (itok_str hg)⟩
  | _=>exact h1.elim
theorem itok_range{K:KK}{F H:Hp}(lo hi:Int):ItOk K (Itr lo (hi - lo).toNat) true ((rngL lo hi).map fun p=>(.fz,p)) F H:=by
 have hl:((rngL lo hi).map fun p=>((.fz,p):TV)).length=(hi - lo).toNat:=by simp [rngL]
 refine ⟨fun _ x hx=>?_,fun i F1 H1 _ e1 t1 _=>⟨fun h=>by rw [hl] at h; exact h,fun h=>by rw [hl] at h; rw [h]; exact Nat.le_refl _,fun x H' hlt y=>?_⟩⟩
 ·obtain ⟨p,_,rfl⟩:=List.mem_map.mp hx
  exact ⟨p,rfl⟩
 ·obtain ⟨rfl,rfl⟩:=y
  rw [hl] at hlt
  refine ⟨(.fz,.int (lo+i)),?_,F1,Ext.refl e1 t1,fun Hs=>.fz rep_int⟩
  simp [rngL,hlt]
theorem di_range (ha:DE C cm k N sc a A) (mx:C.mg "range" = none) (hg:sc.names.lookup ("range":Str)=some .globalImplicit:=by rfl)
  (hst:∀ env:PySem.Env,starEach [a] env=[(false,eval a env)]:=by intro _; rfl):DI C cm k N sc tg (.Call (.Name "range" p) [a] [] pos) (jRange A):=by
 obtain ⟨ta,pa,qa⟩:=ha
 refine ⟨fun W=>iRng1 (tCons (ta W) tNil),fun X S W T=>pi_range1 (S.gl hg) (by rw [S.mg]; exact mx) (pa_cons (pa X S W T) pa_nil (hst _)) (hst _),fun W σ Γ F0 H0 F H R g h=>?_⟩
 refine qa W σ Γ F0 H0 F H _ g (EOk.bindI h fun x v F1 H1 ex e1 r1 h1=>?_)
 have r:=r1.rep e1.fh
 obtain ⟨t,q⟩:=x
 cases q with
 | int n =>
  unfold Rep at r
  subst r
  by_cases hn:rngOk n=true
  ·have h2:(match (if rngOk n then (.ok (true,(rngL 0 n).map fun p=>(.fz,p)):Res (Bool×List TV)) else .bad) with
    | .ok y=>∀ J F' H',Ext F H F' H'→ItOk C.K J y.1 y.2 F' H'→R J H'
    | .exc c=>∀ F' H',Ext F H F' H'→W (C.xc c) none σ H'
    | .bad=>False):=h1
   rw [if_pos hn] at h2
   have hn2:=rngOk_iff.mp hn
   refine ⟨n,rfl,hn2.1,hn2.2,?_⟩
   have:=h2 (Itr 0 (n - 0).toNat) F1 H1 e1 (itok_range 0 n)
   simpa using this
  ·have h2:(match (if rngOk n then (.ok (true,(rngL 0 n).map fun p=>(.fz,p)):Res (Bool×List TV)) else .bad) with
    | .ok y=>∀ J F' H',Ext F H F' H'→ItOk C.K J y.1 y.2 F' H'→R J H'
    | .exc c=>∀ F' H',Ext F H F' H'→W (C.xc c) none σ H'
    | .bad=>False):=h1
   rw [if_neg hn] at h2
   exact h2.elim
 | _=>exact h1.elim
def DF(C:Cn)(cm:Bool)(k:Nat)(N:List Str)(sc:Scope)(ifs:List Expr)(E:TX):Prop:=∃ tb:WX→TT,(∀ X,Sta C cm k N sc X→∀ W,Takes X W→PTs X ifs (tb W)) ∧
 ∀ W σ Γ F0 H0 F H Q,Good C.K F0 H0 Γ σ F H→TOk C W σ F H Q (E Γ)→tb W σ H Q
theorem df_nil:DF C cm k N sc [] xYes:=⟨fun _=>L2.tYes,fun _ _ _ _=>pts_nil,fun W σ Γ F0 H0 F H Q g h=>h F H g.here⟩
theorem wipe_idem{σ:L2.St}:∀ {us:List Nat} (vs:List Nat),(∀ u∈us,u∈vs)→wipe (wipe σ us) vs=wipe σ vs
 | [],vs,_=>rfl
 | u :: us,vs,h=>by
  show wipe ((wipe σ us).set u none) vs=_
  rw [wipe_set_in (h u (by simp)),wipe_idem vs fun w hw=>h w (by simp [hw])]
theorem sta_blk(S:Sta C cm k N sc X){s:Shared}{H:Hp}{scope:Scope}{Ca:Addr}{cl:List (Str×Addr)}{fp:List Addr}:Sta C cm k N (relS scope sc) (X.blk s H scope (compEnvC scope cl Ca X.env) fp):=by
 have hs:=S.s
 subst hs
 exact ⟨S.cn,S.n,rfl,S.nd,S.c,S.r,S.u⟩
theorem req_blk{s:Shared}{H:Hp}{scope:Scope}{env:PySem.Env}{fp:List Addr}:FnReq scope (X.blk s H scope env fp):=fun x h=>by
 show (scope.names.lookup x == some .cell)=true
 rw [h]; rfl
theorem lcGo_cons{Γ:En}{pat:Pat}{c:TX}{e:EX}{x:TV}{xs:List TV}{ps:List PV}(h:lcGo Γ pat c e (x :: xs) = .ok ps):∃ Γ' b,bindP Γ x pat = .ok Γ'∧c Γ' = .ok b ∧
  (b=true→∃ y p r,e Γ' = .ok y∧putV y = .ok p∧lcGo Γ pat c e xs = .ok r∧ps=p :: r)∧(b=false→lcGo Γ pat c e xs = .ok ps):=by
 unfold lcGo at h
 cases h1:bindP Γ x pat with
 | ok Γ' =>
  rw [h1,bind_ok] at h
  cases h2:c Γ' with
  | ok b =>
   rw [h2,bind_ok] at h
   refine ⟨Γ',b,rfl,h2,fun hb=>?_,fun hb=>?_⟩
   ·rw [if_pos hb] at h
    cases h3:e Γ' with
    | ok y =>
     rw [h3,bind_ok] at h
     cases h4:putV y with
     | ok p =>
      rw [h4,bind_ok] at h
      cases h5:lcGo Γ pat c e xs with
      | ok r=>rw [h5,bind_ok] at h; cases h; exact ⟨y,p,r,rfl,h4,rfl,rfl⟩
      | exc _=>rw [h5] at h; cases h
      | bad=>rw [h5] at h; cases h
     | exc _=>rw [h4] at h; cases h
     | bad=>rw [h4] at h; cases h
    | exc _=>rw [h3] at h; cases h
    | bad=>rw [h3] at h; cases h
   ·rw [hb] at h
    exact h
  | exc _=>rw [h2] at h; cases h
  | bad=>rw [h2] at h; cases h
 | exc _=>rw [h1] at h; cases h
 | bad=>rw [h1] at h; cases h
variable {elt iter:Expr} {ifs:List Expr} {scope:Scope} {own:List (Str×Nat)} {I:IX} {pat:Pat}
theorem lc_reads{wi:TI}{g:TG}{tt:TT}{te:TE}{ow:List Nat}{W:WX}{σ:L2.St}{Γ:En}{F0 H0 F H:Hp}{Q:VK}(gd:Good C.K F0 H0 Γ σ F H)
  (qi:∀ (R:It→Hp→Prop),(match I Γ with
   | .ok y=>∀ J F' H',Ext F H F' H'→ItOk C.K J y.1 y.2 F' H'→R J H'
   | .exc c=>∀ F' H',Ext F H F' H'→W (C.xc c) none σ H'
   | .bad=>False)→wi σ H R)
  (qg:∀ Γ σ F0 H0 F H x v Hs Q,Good C.K F0 H0 Γ σ F H→RV C.K F H Hs x v→(match bindP Γ x pat with
   | .ok Γ'=>∀ σ',Good C.K F0 H0 Γ' σ' F H→(∀ ws:List Nat,(∀ i∈pat.slots,i∈ws)→wipe σ' ws=wipe σ ws)→Q σ' H
   | _=>False)→g v σ H Q)
  (qt:∀ σ Γ F0 H0 F H Q,Good C.K F0 H0 Γ σ F H→TOk C (fun _ _ _ _=>False) σ F H Q (T Γ)→tt σ H Q)
  (qe:∀ σ Γ F0 H0 F H Q,Good C.K F0 H0 Γ σ F H→EOk C (fun _ _ _ _=>False) σ F H Q (A Γ)→te σ H Q)
  (hsl:∀ i∈pat.slots,i∈ow)(h:EOk C W σ F H Q (eLC ow I pat T A Γ)):tLc wi g tt te ow σ H Q:=by
 refine qi _ ?_
 unfold eLC at h
 cases ei:I Γ with
 | exc c=>rw [ei] at h; exact h
 | bad=>rw [ei] at h; exact h
 | ok y =>
  rw [ei,bind_ok] at h
  intro J F1 H1 e1 it D hD
  cases el:lcGo (wipeE Γ ow) pat T A y.2 with
  | exc c=>rw [el] at h; exact h.elim
  | bad=>rw [el] at h; exact h.elim
  | ok ps =>
   rw [el] at h
   simp only [noExc,bind_ok] at h
   by_cases hz:ps.length≤16777216
   ·rw [if_pos hz] at h
    refine ⟨fun i m H'=>m=y.2.length - i∧i≤y.2.length∧∃ F' acc vs rest,Ext F1 H1 F' H'∧F' D=none∧H' D=some (.lst vs)∧RepL C.K F' acc vs∧lcGo (wipeE Γ ow) pat T A (y.2.drop i) = .ok rest∧acc++rest=ps,?_,?_⟩
    ·exact ⟨_,rfl,Nat.zero_le _,F1,[],[],ps,Ext.lst e1.fh e1.tp hD,e1.fh.free hD,upd_same,RepL.nil,el,rfl⟩
    ·rintro i m H' ⟨rfl,hi,F',acc,vs,rest,e2,fD,hD',ra,hr,happ⟩
     obtain ⟨i1,i2,i3⟩:=it.2 i F' H' e2.ff e2.fh e2.tp (fun _=>e2.hh)
     by_cases hlt:i < y.2.length
     ·refine .inr ⟨i1 hlt,fun H''=>∃ F'' acc vs rest,Ext F1 H1 F'' H''∧F'' D=none∧H'' D=some (.lst vs)∧RepL C.K F'' acc vs∧lcGo (wipeE Γ ow) pat T A (y.2.drop (i+1)) = .ok rest∧acc++rest=ps,fun H'' hN=>⟨y.2.length - (i+1),by omega,rfl,hlt,hN⟩,fun x H2 hy=>?_⟩
      obtain ⟨itm,hit,F2,e3,rx⟩:=i3 x H2 hlt hy
      have hd:y.2.drop i=itm :: y.2.drop (i+1):=by
       rw [List.drop_eq_getElem_cons hlt]
       rw [List.getElem?_eq_getElem hlt] at hit
       cases hit
       rfl
      rw [hd] at hr
      obtain ⟨Γ',b,h1,h2,h3,h4⟩:=lcGo_cons hr
      have eall:=e1.trans (e2.trans e3)
      have g2:=(gd.next eall).wipe ow
      refine qg _ _ F0 H0 F2 H2 itm x H2 _ g2 (rx H2) ?_
      rw [h1]
      intro σ2 g3 w3
      refine ⟨by rw [w3 ow hsl]; exact wipe_idem ow fun _ z=>z,?_⟩
      refine qt σ2 Γ' F0 H0 F2 H2 _ g3 ?_
      rw [h2]
      intro F3 H3 e4
      have keepD:∀ {Fx Hx:Hp},Ext F' H' Fx Hx→Fx D=none∧Hx D=some (.lst vs):=fun {Fx Hx} ee=>by
       refine ⟨?_,ee.hh _ _ hD'⟩
       cases q:Fx D with
       | none=>rfl
       | some o =>
        rcases ee.nw D (by rw [q]; simp) with z | z
        ·exact (z fD).elim
        ·rw [hD'] at z; cases z
      cases b with
      | true =>
       rw [if_pos rfl]
       obtain ⟨yy,p,r,h5,h6,h7,h8⟩:=h3 rfl
       refine qe σ2 Γ' F0 H0 F3 H3 _ (g3.next e4) ?_
       rw [h5]
       intro v F4 H4 e5 rv
       obtain ⟨F5,e6,rp⟩:=rv.put e5 h6
       have ef:=e3.trans (e4.trans e6)
       obtain ⟨k1,k2⟩:=keepD ef
       subst h8
       refine ⟨vs,k2,?_,F5,acc++[p],vs++[v],r,?_,k1,upd_same,(ra.mono ef.ff _ _).append (RepL.cons rp RepL.nil),h7,by rw [← happ]; simp⟩
       ·have:=congrArg List.length happ
        rw [List.length_append,List.length_cons] at this
        rw [ra.len,← szL_eq]
        omega
       ·have eu:=e2.trans ef
        refine ⟨eu.ff,fun a o z=>?_,fun a o z=>?_,tups_new eu.tp (fun _ z=>by cases z) k1,eu.nw⟩
        ·rw [upd_ne (ne_of_none z hD)]; exact eu.hh _ _ z
        ·rw [upd_ne (ne_of_none z k1)]; exact eu.fh _ _ z
      | false =>
       rw [if_neg Bool.false_ne_true]
       have ef:=e3.trans e4
       obtain ⟨k1,k2⟩:=keepD ef
       exact ⟨F3,acc,vs,rest,e2.trans ef,k1,k2,ra.mono ef.ff _ _,h4 rfl,happ⟩
     ·have ein:i=y.2.length:=by omega
      refine .inl ⟨i2 (by omega),?_⟩
      rw [List.drop_eq_nil_of_le (by omega)] at hr
      cases hr
      rw [List.append_nil] at happ
      subst happ
      exact h _ F' H' (e1.trans e2) (rv_new ra hD' fD (e1.hh.free hD))
   ·rw [if_neg hz] at h; exact h.elim
theorem takesF{X:Cx}:Takes X (fun _ _ _ _=>False):=takes0
theorem de_lc{pos:Pos}(hi:DI C true k N sc tg iter I)(ok:blkC N sc scope own=true)(hg:DG C true k N (relS scope sc) scope tg pat)(ht:DF C true k N (relS scope sc) ifs T)(he:DE C true k N (relS scope sc) elt A)
  (hs:∀ (env:PySem.Env) x,foldedSetIterable iter env x=pure x:=by intro _ _; rfl)(hsl:∀ i∈pat.slots,i∈own.map (·.2):=by decide):DE C true k N sc (.ListComp elt [⟨tg,iter,ifs,0⟩] scope pos) (eLC (own.map (·.2)) I pat T A):=by
 obtain ⟨ti,pi,qi⟩:=hi
 obtain ⟨g,pg,qg⟩:=hg
 obtain ⟨tt,pt,qt⟩:=ht
 obtain ⟨te,pe,qe⟩:=he
 refine ⟨fun W=>tLc (ti W) g (tt fun _ _ _ _=>False) (te fun _ _ _ _=>False) (own.map (·.2)),fun X S W Tk=>?_,fun W σ Γ F0 H0 F H Q gd h=>?_⟩
 ·exact pe_lc (S.c rfl) (by rw [S.n]; exact S.nd) (pi X S W Tk) (blkOk_by (by rw [S.n,S.s]; exact ok)) (fun s H Ca cl fp=>pg _ (sta_blk S) req_blk) (fun s H Ca cl fp=>pt _ (sta_blk S) _ takesF) (fun s H Ca cl fp=>pe _ (sta_blk S) _ takesF) (hs _)
 ·exact lc_reads gd (fun R=>qi W σ Γ F0 H0 F H R gd) qg (qt _) (qe _) hsl h
end
end Vl
end
section
set_option Elab.async false
set_option linter.all false
set_option maxRecDepth 100000
set_option maxHeartbeats 1000000
namespace Vl
open PySem L2 Vm PyProof.Rows
structure GoodS (K:KK) (F0 H0:Hp) (Γ:En) (σ:L2.St) (F H:Hp):Prop extends Good K F0 H0 Γ σ F H where
 nb:NoBw Γ
structure StaS (C:Cn) (cm:Bool) (k:Nat) (N:List Str) (sc:Scope) (X:Cx):Prop extends Sta C cm k N sc X where
 po:PassesOwn (model X.prog X.w) X.A X.env X.xe
 rq:FnReq sc X
 sk:X.stack=X.env :: X.outer
 fr:X.env.frame=some X.env.locals
def OutOk(C:Cn)(W:WX)(F0 H0:Hp)(D:Ends):Out→Prop
 | .nx Γ=>∀ σ F H,GoodS C.K F0 H0 Γ σ F H→D.nx σ H
 | .rt t p _=>∀ v F H,Ext F0 H0 F H→RV C.K F H H0 (t,p) v→D.rt v H
 | .bk Γ=>∀ σ F H,GoodS C.K F0 H0 Γ σ F H→D.bk σ H
 | .ct Γ=>∀ σ F H,GoodS C.K F0 H0 Γ σ F H→D.ct σ H
 | .exc c Γ=>∀ σ F H,GoodS C.K F0 H0 Γ σ F H→W (C.xc c) none σ H
 | .bad=>False
def DS(C:Cn)(cm:Bool)(k:Nat)(N:List Str)(sc:Scope)(st:Stmt)(d:ST):Prop:=∃ tb:WX→TS,(∀ X,StaS C cm k N sc X→∀ W,Takes X W→PS X st (tb W)) ∧
 ∀ W D σ Γ F0 H0 F H,GoodS C.K F0 H0 Γ σ F H→OutOk C W F0 H0 D (d Γ)→tb W D σ H
def DSs(C:Cn)(cm:Bool)(k:Nat)(N:List Str)(sc:Scope)(st:List Stmt)(d:ST):Prop:=∃ tb:WX→TS,(∀ X,StaS C cm k N sc X→∀ W,Takes X W→PSs X st (tb W)) ∧
 ∀ W D σ Γ F0 H0 F H,GoodS C.K F0 H0 Γ σ F H→OutOk C W F0 H0 D (d Γ)→tb W D σ H
section
variable {C:Cn} {cm:Bool} {k:Nat} {N:List Str} {sc so:Scope} {a b c e tg:Expr} {es:List Expr} {A B:EX} {As:EXs} {T U:TX} {pos p:Pos} {X:Cx} {x:Str} {st:Stmt} {sts:List Stmt} {d d':ST}
variable {F0 H0 F H F1 H1:Hp} {Γ:En} {σ:L2.St} {W:WX} {D:Ends}
theorem GoodS.next(g:GoodS C.K F0 H0 Γ σ F H)(e:Ext F H F1 H1):GoodS C.K F0 H0 Γ σ F1 H1:=⟨g.toGood.next e,g.nb⟩
theorem OutOk.bind{f:TV→Out}{Q1:VK}{r:Res TV}(g:GoodS C.K F0 H0 Γ σ F H)(h:OutOk C W F0 H0 D (aft r Γ f))
  (q:∀ x v F1 H1,r = .ok x→Ext F H F1 H1→RV C.K F1 H1 H x v→OutOk C W F0 H0 D (f x)→Q1 v H1):EOk C W σ F H Q1 r:=by
 cases r with
 | ok x=>exact fun v F' H' e rv=>q x v F' H' rfl e rv h
 | exc c=>exact fun F' H' e=>h σ F' H' (g.next e)
 | bad=>exact h
theorem OutOk.bindT{f:Bool→Out}{Q1:Bool→Hp→Prop}{r:Res Bool}(g:GoodS C.K F0 H0 Γ σ F H)(h:OutOk C W F0 H0 D (aft r Γ f))
  (q:∀ x F1 H1,r = .ok x→Ext F H F1 H1→OutOk C W F0 H0 D (f x)→Q1 x H1):TOk C W σ F H Q1 r:=by
 cases r with
 | ok x=>exact fun F' H' e=>q x F' H' rfl e h
 | exc c=>exact fun F' H' e=>h σ F' H' (g.next e)
 | bad=>exact h
theorem ds_nil:DSs C cm k N sc [] dNil:=⟨fun _=>tNext,fun _ _ _ _=>pss_nil,fun W D σ Γ F0 H0 F H g h=>h σ F H g⟩
theorem ds_one(h:DS C cm k N sc st d):DSs C cm k N sc [st] d:=by
 obtain ⟨tb,pb,qb⟩:=h
 exact ⟨tb,fun X S W T=>pss_one (pb X S W T),qb⟩
theorem ds_cons(h1:DS C cm k N sc st d)(h2:DSs C cm k N sc sts d'):DSs C cm k N sc (st :: sts) (dSeq d d'):=by
 obtain ⟨ta,pa,qa⟩:=h1
 obtain ⟨tb,pb,qb⟩:=h2
 refine ⟨fun W=>tSeq (ta W) (tb W),fun X S W T=>pss_cons (pa X S W T) (pb X S W T),fun W D σ Γ F0 H0 F H g h=>?_⟩
 refine qa W _ σ Γ F0 H0 F H g ?_
 unfold dSeq at h
 cases e:d Γ with
 | nx Γ'=>rw [e] at h; exact fun σ' F' H' g'=>qb W D σ' Γ' F0 H0 F' H' g' h
 | rt t p Γr=>rw [e] at h; exact h
 | bk Γ'=>rw [e] at h; exact h
 | ct Γ'=>rw [e] at h; exact h
 | exc c Γ'=>rw [e] at h; exact h
 | bad=>rw [e] at h; exact h
theorem GoodS.forget(g:GoodS C.K F0 H0 Γ σ F H)(vs:List Nat):GoodS C.K F0 H0 (wipeE Γ vs) σ F H :=
 ⟨g.toGood.forget vs,fun i d p h=>g.nb i d p (wipe_get h).1⟩
theorem nb_set{i:Nat}{x:TV}(h:NoBw Γ)(hx:∀ d p,x ≠ (.bw d,p)):NoBw (Γ.set i (some x)):=fun j d p hj=>by
 rw [get_set] at hj
 split at hj
 ·cases hj; exact hx d p rfl
 ·exact h j d p hj
theorem GoodS.setF(g:GoodS C.K F0 H0 Γ σ F H)(i:Nat){p:PV}{v:V}(h:Rep C.K F p v):GoodS C.K F0 H0 (Γ.set i (some (.fz,p))) (σ.set i (some v)) F H :=
 ⟨g.toGood.setF i (x:=(.fz,p)) h,nb_set g.nb fun d p h=>by cases h⟩
theorem GoodS.setO(g:GoodS C.K F0 H0 Γ σ F H)(i:Nat){d:Nat}{p:PV}{v:V}(e:Ext F H F1 H1)(h:RV C.K F1 H1 H (.ow d,p) v):GoodS C.K F0 H0 (Γ.set i (some (.ow d,p))) (σ.set i (some v)) F1 H1:=by
 obtain ⟨f,o,nd,fr⟩:=h
 refine ⟨(g.toGood.next e).set i (f:=f) ⟨o,nd,fun a ha=>⟨(fr a ha).1,g.ext.hh.free (fr a ha).2⟩⟩ fun fp h1 h2=>?_,nb_set g.nb fun d p h=>by cases h⟩
 obtain ⟨fq,k1,k2⟩:=g.slots
 refine ⟨fun j=>if j=i then f else match Γ.get j with
  | some (.ow _,_)=>fq j
  | _=>[],fun j y hy hj=>?_,fun i' j a hij ha hb=>?_,if_pos rfl⟩
 ·obtain ⟨v',h3,h4⟩:=k1 j y hy
  refine ⟨v',h3,?_⟩
  simp only
  rw [if_neg hj,hy]
  obtain ⟨t,q⟩:=y
  cases t with
  | fz=>exact h4.ext e
  | bw d=>exact h4.ext e
  | ow d=>exact h4.ext e
 ·have old:∀ j',a∈(match Γ.get j' with | some (.ow _,_)=>fq j' | _=>[])→a∈fq j'∧H a ≠ none:=fun j' hm=>by
   cases q:Γ.get j' with
   | none=>rw [q] at hm; simp at hm
   | some y =>
    obtain ⟨t,pp⟩:=y
    rw [q] at hm
    cases t with
    | fz=>simp at hm
    | bw _=>simp at hm
    | ow dd =>
     obtain ⟨v',_,h4⟩:=k1 j' _ q
     refine ⟨hm,?_⟩
     obtain ⟨ws,z,_⟩:=h4.1.there dd a hm
     rw [z]; simp
  simp only at ha hb
  by_cases h1':i'=i
  ·rw [if_pos h1'] at ha
   rw [if_neg (fun z=>hij (h1'.trans z.symm))] at hb
   exact (old j hb).2 (fr a ha).2
  ·rw [if_neg h1'] at ha
   by_cases h2':j=i
   ·rw [if_pos h2'] at hb
    exact (old i' ha).2 (fr a hb).2
   ·rw [if_neg h2'] at hb
    exact k2 i' j a hij (old i' ha).1 (old j hb).1
theorem ds_set(i:Nat){x:Str}{pos':Pos}(he:DE C cm k N sc e A)(hi:N[i]? = some x:=by rfl)(hx:Loc sc x:=by first | exact Or.inl rfl | exact Or.inr rfl)
  (hs:∀ env:PySem.Env,env.scope=sc→swapsWith e (some (.Name x pos')) pos.line env=pure false:=by intro env _; rfl):DS C cm k N sc (.Assign [.Name x pos'] e pos) (dSet i A):=by
 obtain ⟨ta,pa,qa⟩:=he
 refine ⟨fun W=>tAsg (ta W) (gName i),fun X S W T=>ps_set (by rw [S.n]; exact S.nd) (by rw [S.n]; exact hi) (by rw [S.s]; exact hx) (pa X S.toSta W T) (hs _ S.s) (by
  rcases hx with hx | hx
  ·exact .inr (by rw [S.s]; exact hx)
  ·exact .inl (S.rq _ hx)),fun W D σ Γ F0 H0 F H g h=>?_⟩
 refine qa W σ Γ F0 H0 F H _ g.toGood (OutOk.bind g h fun x v F1 H1 ex e1 r1 h1=>?_)
 cases hp:putV x with
 | ok p =>
  rw [hp,after_ok] at h1
  obtain ⟨F2,e2,r2⟩:=r1.put e1 hp
  exact h1 _ F2 H1 ((g.next e2).setF i r2)
 | exc c=>exact (put_noexc hp).elim
 | bad=>rw [hp] at h1; exact h1.elim
theorem ds_setO(i:Nat){x:Str}{pos':Pos}(he:DE C cm k N sc e A)(hi:N[i]? = some x:=by rfl)(hx:Loc sc x:=by first | exact Or.inl rfl | exact Or.inr rfl)
  (hs:∀ env:PySem.Env,env.scope=sc→swapsWith e (some (.Name x pos')) pos.line env=pure false:=by intro env _; rfl):DS C cm k N sc (.Assign [.Name x pos'] e pos) (dSetO i A):=by
 obtain ⟨ta,pa,qa⟩:=he
 refine ⟨fun W=>tAsg (ta W) (gName i),fun X S W T=>ps_set (by rw [S.n]; exact S.nd) (by rw [S.n]; exact hi) (by rw [S.s]; exact hx) (pa X S.toSta W T) (hs _ S.s) (by
  rcases hx with hx | hx
  ·exact .inr (by rw [S.s]; exact hx)
  ·exact .inl (S.rq _ hx)),fun W D σ Γ F0 H0 F H g h=>?_⟩
 refine qa W σ Γ F0 H0 F H _ g.toGood (OutOk.bind g h fun x v F1 H1 ex e1 r1 h1=>?_)
 obtain ⟨t,q⟩:=x
 cases t with
 | ow d=>exact h1 _ F1 H1 (g.setO i e1 r1)
 | _=>exact h1.elim
theorem ds_setLC(i:Nat){x:Str}{py:Pos}{elt iter:Expr}{ifs:List Expr}{scope:Scope}{own:List (Str×Nat)}{lpos:Pos}{I:IX}{pat:Pat}(ow:Bool)(hi:DI C true k N sc tg iter I)(ok:blkC N sc scope own=true)(hg:DG C true k N (relS scope sc) scope tg pat)(ht:DF C true k N (relS scope sc) ifs T)(he:DE C true k N (relS scope sc) elt A)
  (hN:N[i]? = some x:=by rfl)(hyl:sc.names.lookup x=some .local:=by rfl)(hk:sc.kind = .function:=by rfl)(hl:(py.line == lpos.line)=true:=by rfl)(ha:(scope.names.any fun (n,k)=>n == x && (k == .local || k == .cell))=false:=by decide +kernel)
  (hs:∀ (env:PySem.Env) x,foldedSetIterable iter env x=pure x:=by intro _ _; rfl)(hsl:∀ i∈pat.slots,i∈own.map (·.2):=by decide):DS C true k N sc (.Assign [.Name x py] (.ListComp elt [⟨tg,iter,ifs,0⟩] scope lpos) pos) ((if ow then dSetO else dSet) i (eLC (own.map (·.2)) I pat T A)):=by
 obtain ⟨ti,pi,qi⟩:=hi
 obtain ⟨g,pg,qg⟩:=hg
 obtain ⟨tt,pt,qt⟩:=ht
 obtain ⟨te,pe,qe⟩:=he
 refine ⟨fun W=>tAsg (tLc (ti W) g (tt fun _ _ _ _=>False) (te fun _ _ _ _=>False) (own.map (·.2))) (gName i),fun X S W Tk=>?_,fun W D σ Γ F0 H0 F H gd h=>?_⟩
 ·exact ps_setLc (S.c rfl) (by rw [S.n]; exact S.nd) (by rw [S.n]; exact hN) (by rw [S.s]; exact hyl) (sw_true (by rw [S.s]; exact hk) (by rw [S.s]; exact hyl) hl ha) (pi X S.toSta W Tk) (blkOk_by (by rw [S.n,S.s]; exact ok)) (fun s H Ca cl fp=>pg _ (sta_blk S.toSta) req_blk) (fun s H Ca cl fp=>pt _ (sta_blk S.toSta) _ takesF) (fun s H Ca cl fp=>pe _ (sta_blk S.toSta) _ takesF) (hs _)
 ·show tLc _ _ _ _ _ σ H _
  cases ow with
  | true =>
   refine lc_reads gd.toGood (fun R=>qi W σ Γ F0 H0 F H R gd.toGood) qg (qt _) (qe _) hsl (OutOk.bind gd h fun x v F1 H1 ex e1 r1 h1=>?_)
   obtain ⟨t,q⟩:=x
   cases t with
   | ow d=>exact h1 _ F1 H1 (gd.setO i e1 r1)
   | _=>exact h1.elim
  | false =>
   refine lc_reads gd.toGood (fun R=>qi W σ Γ F0 H0 F H R gd.toGood) qg (qt _) (qe _) hsl (OutOk.bind gd h fun x v F1 H1 ex e1 r1 h1=>?_)
   cases hp:putV x with
   | ok p =>
    rw [hp,after_ok] at h1
    obtain ⟨F2,e2,r2⟩:=r1.put e1 hp
    exact h1 _ F2 H1 ((gd.next e2).setF i r2)
   | exc c=>exact (put_noexc hp).elim
   | bad=>rw [hp] at h1; exact h1.elim
theorem setAll_nb:∀ {is:List Nat} {ps:List PV} {Γ Γ':En},setAll Γ is ps=some Γ'→NoBw Γ→NoBw Γ'
 | [],[],_,_,h,n=>by cases h; exact n
 | i :: is,p :: ps,Γ,Γ',h,n=>setAll_nb (is:=is) (ps:=ps) h (nb_set n fun d p h=>by cases h)
 | [],_ :: _,_,_,h,_=>by cases h
 | _ :: _,[],_,_,h,_=>by cases h
theorem ds_setT{is:List Nat}{k':Nat}{tpos:Pos}(he:DE C true k N sc e A)(hg:DG C true k N sc sc (.Tuple es k' tpos) (.t is))(hs:∀ env:PySem.Env,swapsWithSole [.Tuple es k' tpos] e pos.line env=pure false:=by intro _; rfl)(hw:∀ env:PySem.Env,swappedStores [.Tuple es k' tpos] e env=pure none:=by intro _; rfl)
  (h1:∀ env:PySem.Env,(assignEach [.Tuple es k' tpos] env).map (·.2)=[assign (.Tuple es k' tpos) env]:=by intro _; rfl):DS C true k N sc (.Assign [.Tuple es k' tpos] e pos) (dSetT is A):=by
 obtain ⟨ta,pa,qa⟩:=he
 obtain ⟨t,pt,qt⟩:=hg
 refine ⟨fun W=>tAsg (ta W) t,fun X S W T=>ps_asg (pa X S.toSta W T) (pt X S.toSta S.rq) (hs _) (hw _) (h1 _),fun W D σ Γ F0 H0 F H g h=>?_⟩
 refine qa W σ Γ F0 H0 F H _ g.toGood (OutOk.bind g h fun x v F1 H1 ex e1 r1 h1=>?_)
 cases hp:putV x with
 | ok p =>
  rw [hp,after_ok] at h1
  obtain ⟨F2,e2,r2⟩:=r1.put e1 hp
  refine qt Γ σ F0 H0 F2 H1 (.fz,p) v H1 _ (g.next e2).toGood (.fz r2) ?_
  cases hb:bindP Γ (.fz,p) (.t is) with
  | ok Γ' =>
   rw [hb,after_ok] at h1
   intro σ' g' _
   refine h1 σ' F2 H1 ⟨g',?_⟩
   unfold bindP at hb
   cases q0:seqP (.fz,p) with
   | none=>simp only [q0] at hb; cases hb
   | some ps =>
    simp only [q0] at hb
    cases q:setAll Γ is ps with
    | none=>rw [q] at hb; cases hb
    | some Γ2=>rw [q] at hb; cases hb; exact setAll_nb q g.nb
  | exc c =>
   unfold bindP at hb
   cases q0:seqP (.fz,p) with
   | none=>simp only [q0] at hb; cases hb
   | some ps =>
    simp only [q0] at hb
    cases q:setAll Γ is ps with
    | none=>rw [q] at hb; cases hb
    | some Γ2=>rw [q] at hb; cases hb
  | bad=>rw [hb] at h1; exact h1.elim
 | exc c=>exact (put_noexc hp).elim
 | bad=>rw [hp] at h1; exact h1.elim
theorem ds_if{s1 s2:List Stmt}{d1 d2:ST}(ht:DT C cm k N sc c T)(h1:DSs C cm k N sc s1 d1)(h2:DSs C cm k N sc s2 d2):DS C cm k N sc (.If c s1 s2 pos) (dIf T d1 d2):=by
 obtain ⟨tc,pc,qc⟩:=ht
 obtain ⟨ta,pa,qa⟩:=h1
 obtain ⟨tb,pb,qb⟩:=h2
 refine ⟨fun W=>tIfS (tc W) (ta W) (tb W),fun X S W T=>ps_if (pc X S.toSta W T) (pa X S W T) (pb X S W T),fun W D σ Γ F0 H0 F H g h=>?_⟩
 refine qc W σ Γ F0 H0 F H _ g.toGood (OutOk.bindT g h fun b F1 H1 eb e1 h1=>?_)
 cases b with
 | true=>exact iteT (qa W D σ Γ F0 H0 F1 H1 (g.next e1) h1)
 | false=>exact iteF (qb W D σ Γ F0 H0 F1 H1 (g.next e1) h1)
theorem ds_ret(he:DE C cm k N sc e A):DS C cm k N sc (.Return (some e) pos) (dRet A):=by
 obtain ⟨ta,pa,qa⟩:=he
 refine ⟨fun W=>tRet (ta W),fun X S W T=>ps_ret (pa X S.toSta W T),fun W D σ Γ F0 H0 F H g h=>?_⟩
 refine qa W σ Γ F0 H0 F H _ g.toGood (OutOk.bind g h fun x v F1 H1 ex e1 r1 h1=>?_)
 obtain ⟨t,q⟩:=x
 have ee:=g.ext.trans e1
 have rs:=r1.start g.ext.hh
 cases t with
 | fz=>exact h1 v F1 H1 ee rs
 | ow d=>exact h1 v F1 H1 ee rs
 | bw d =>
  cases d with
  | zero=>obtain ⟨_,fp,z⟩:=rs; exact h1 v F1 H1 ee (.fz z.2)
  | succ d=>exact h1.elim
theorem ds_retV (i:Nat) {x:Str} (hN:N[i]? = some x:=by rfl) (hv:Vis sc x:=by first | exact Or.inl rfl | exact Or.inr (Or.inl rfl) | exact Or.inr (Or.inr rfl)) (hd:(x == ("__debug__":Str))=false:=by decide)
  (hcd:(x == ("__classdict__":Str))=false:=by decide):DS C cm k N sc (.Return (some (.Name x p)) pos) (dRetV i):=by
 refine ⟨fun W=>tRet (tVar i),fun X S W T=>ps_ret (pe_var (by rw [S.n]; exact hN) (by rw [S.s]; exact hv) hd hcd),fun W D σ Γ F0 H0 F H g h=>?_⟩
 obtain ⟨fp,h1,_⟩:=g.slots
 unfold dRetV at h
 cases e:Γ.get i with
 | none=>rw [e] at h; exact h.elim
 | some y =>
  obtain ⟨t,q⟩:=y
  obtain ⟨v,h3,h4⟩:=h1 i _ e
  rw [e] at h
  refine ⟨v,h3,?_⟩
  cases t with
  | fz=>exact h v F H g.ext ⟨[],h4⟩
  | ow d=>exact h v F H g.ext ⟨_,h4⟩
  | bw d=>exact h.elim
theorem ds_ex(he:DE C cm k N sc e A)(hs:∀ env:PySem.Env,swapsWith e none pos.line env=pure false:=by intro _; rfl):DS C cm k N sc (.Expr e pos) (dEx A):=by
 obtain ⟨ta,pa,qa⟩:=he
 refine ⟨fun W=>tDrop (ta W),fun X S W T=>ps_expr (pa X S.toSta W T) (hs _),fun W D σ Γ F0 H0 F H g h=>?_⟩
 exact qa W σ Γ F0 H0 F H _ g.toGood (OutOk.bind g h fun x v F1 H1 ex e1 r1 h1=>h1 σ F1 H1 (g.next e1))
end
end Vl
end
section
set_option Elab.async false
set_option linter.all false
set_option maxRecDepth 100000
set_option maxHeartbeats 1000000
namespace Vl
open PySem L2 Vm PyProof.Rows
section
variable {C:Cn} {cm:Bool} {k:Nat} {N:List Str} {sc so:Scope} {a b c e tg:Expr} {es:List Expr} {A B:EX} {As:EXs} {T U:TX} {pos p:Pos} {X:Cx} {x:Str} {st:Stmt} {sts:List Stmt} {d d':ST}
variable {F0 H0 F H F1 H1:Hp} {Γ:En} {σ:L2.St} {W:WX} {D:Ends}
theorem bindP_nb{x:TV}{pat:Pat}{Γ':En}(hx:∃ p,x=(.fz,p))(h:bindP Γ x pat = .ok Γ')(n:NoBw Γ):NoBw Γ':=by
 obtain ⟨p,rfl⟩:=hx
 cases pat with
 | v i=>cases h; exact nb_set n fun d p h=>by cases h
 | t is =>
  unfold bindP at h
  cases q0:seqP (.fz,p) with
  | none=>simp only [q0] at h; cases h
  | some ps =>
   simp only [q0] at h
   cases q:setAll Γ is ps with
   | none=>rw [q] at h; cases h
   | some Γ2=>rw [q] at h; cases h; exact setAll_nb q n
theorem bindP_noexc{x:TV}{pat:Pat}{c:Nat}:bindP Γ x pat ≠ .exc c:=by
 intro h
 cases pat with
 | v i =>
  obtain ⟨t,p⟩:=x
  cases t with
  | fz=>cases h
  | ow d=>cases h
  | bw d=>cases d <;> cases h
 | t is =>
  unfold bindP at h
  cases q0:seqP x with
  | none=>simp only [q0] at h; cases h
  | some ps =>
   simp only [q0] at h
   cases q:setAll Γ is ps with
   | none=>rw [q] at h; cases h
   | some Γ2=>rw [q] at h; cases h
theorem GoodS.rebase(g:GoodS C.K F0 H0 Γ σ F H):GoodS C.K F H0 Γ σ F H :=
 ⟨⟨⟨Same.refl _,g.ext.hh,g.ext.fh,g.ext.tp,fun a q=>.inl q⟩,g.len,g.slots⟩,g.nb⟩
theorem Ext.back{Fx Hx Fy Hy:Hp}(e:Ext F0 H0 Fx Hx)(e2:Ext Fx H0 Fy Hy):Ext F0 H0 Fy Hy :=
 ⟨e.ff.trans e2.ff,e2.hh,e2.fh,e2.tp,fun a q=>by
  rcases e2.nw a q with q | q
  ·exact e.nw a q
  ·exact .inr q⟩
theorem GoodS.back{Fx Hx Fy Hy:Hp}{Γ':En}{σ':L2.St}(e:Ext F0 H0 Fx Hx)(g:GoodS C.K Fx H0 Γ' σ' Fy Hy):GoodS C.K F0 H0 Γ' σ' Fy Hy :=
 ⟨⟨Ext.back e g.ext,g.len,g.slots⟩,g.nb⟩
theorem ds_for{iter:Expr}{body:List Stmt}{I:IX}{pat:Pat}(ws:List Nat)(hi:DI C true k N sc tg iter I)(hg:DG C true k N sc sc tg pat)(hb:DSs C true k N sc body d)
  (hs:∀ (env:PySem.Env) x,foldedSetIterable iter env x=pure x:=by intro _ _; rfl):DS C true k N sc (.For tg iter body [] pos) (dFor I pat ws d):=by
 obtain ⟨ti,pi,qi⟩:=hi
 obtain ⟨t,pt,qt⟩:=hg
 obtain ⟨tb,pb,qb⟩:=hb
 refine ⟨fun W=>tFor (ti W) t (tb W),fun X S W T=>ps_for S.po (S.c rfl) (pi X S.toSta W T) (pt X S.toSta S.rq) (pb X S W T) (hs _),fun W D σ Γ F0 H0 F H g h=>?_⟩
 refine qi W σ Γ F0 H0 F H _ g.toGood ?_
 unfold dFor at h
 cases ei:I Γ with
 | exc c=>rw [ei] at h; exact fun F' H' e=>h σ F' H' (g.next e)
 | bad=>rw [ei] at h; exact h
 | ok y =>
  rw [ei,after_ok] at h
  intro J F1 H1 e1 it
  cases hy:y.1 with
  | false=>rw [hy] at h; exact h.elim
  | true =>
   rw [hy,if_pos rfl] at h
   rw [hy] at it
   have g1:=(g.next e1).forget ws
   refine ⟨fun i m σ' H'=>m=y.2.length - i∧i≤y.2.length∧∃ Γ' F',GoodS C.K F0 H0 Γ' σ' F' H'∧Same F1 F'∧OutOk C W F0 H0 D (forL pat ws d (y.2.drop i) Γ'),⟨_,rfl,Nat.zero_le _,wipeE Γ ws,F1,g1,Same.refl _,h⟩,?_⟩
   rintro i m σ' H' ⟨rfl,hi,Γ',F',g',sf,ho⟩
   obtain ⟨i1,i2,i3⟩:=it.2 i F' H' sf g'.ext.fh g'.ext.tp fun z=>by cases z
   by_cases hlt:i < y.2.length
   ·refine .inr ⟨i1 hlt,fun σ2 H2=>∃ Γ2 F2,GoodS C.K F0 H0 Γ2 σ2 F2 H2∧Same F1 F2∧OutOk C W F0 H0 D (forL pat ws d (y.2.drop (i+1)) Γ2),fun σ2 H2 hN=>⟨y.2.length - (i+1),by omega,rfl,hlt,hN⟩,fun xv H2 hyl=>?_⟩
    obtain ⟨itm,hit,F2,e3,rx⟩:=i3 xv H2 hlt hyl
    have hd:y.2.drop i=itm :: y.2.drop (i+1):=by
     rw [List.drop_eq_getElem_cons hlt]
     rw [List.getElem?_eq_getElem hlt] at hit
     cases hit
     rfl
    have hfz:=it.1 rfl itm (List.mem_of_getElem? hit)
    rw [hd] at ho
    unfold forL at ho
    have g2:=g'.next e3
    refine qt Γ' σ' F0 H0 F2 H2 itm xv H2 _ g2.toGood (rx H2) ?_
    cases hbp:bindP Γ' itm pat with
    | exc c=>exact (bindP_noexc hbp).elim
    | bad=>rw [hbp] at ho; exact ho.elim
    | ok Γ3 =>
     rw [hbp] at ho
     simp only at ho
     intro σ3 g3 _
     have gs3:GoodS C.K F0 H0 Γ3 σ3 F2 H2:=⟨g3,bindP_nb hfz hbp g2.nb⟩
     refine qb W _ σ3 Γ3 F2 H0 F2 H2 gs3.rebase ?_
     have e2:Ext F0 H0 F2 H2:=gs3.ext
     have sf2:Same F1 F2:=sf.trans e3.ff
     cases eo:d Γ3 with
     | nx Γ4=>rw [eo] at ho; exact fun σ4 F4 H4 g4=>⟨wipeE Γ4 ws,F4,(g4.back e2).forget ws,sf2.trans g4.ext.ff,ho⟩
     | ct Γ4=>rw [eo] at ho; exact fun σ4 F4 H4 g4=>⟨wipeE Γ4 ws,F4,(g4.back e2).forget ws,sf2.trans g4.ext.ff,ho⟩
     | bk Γ4=>rw [eo] at ho; exact fun σ4 F4 H4 g4=>ho σ4 F4 H4 ((g4.back e2).forget ws)
     | rt t p Γr=>rw [eo] at ho; exact fun v F4 H4 e4 r4=>ho v F4 H4 (Ext.back e2 e4) r4
     | exc c Γ4=>rw [eo] at ho; exact fun σ4 F4 H4 g4=>ho σ4 F4 H4 (g4.back e2)
     | bad=>rw [eo] at ho; exact ho.elim
   ·have ein:i=y.2.length:=by omega
    rw [List.drop_eq_nil_of_le (by omega)] at ho
    exact .inl ⟨i2 (by omega),ho σ' F' H' g'⟩
theorem good_mod{i:Nat}{l:List PV}(g:GoodS C.K F0 H0 Γ σ F H)(e:Γ.get i=some (.ow 1,.lst l)):∃ ad vs,σ[i]? = some (some (.ref ad))∧H ad=some (.lst vs)∧RepL C.K F l vs∧F ad=none∧H0 ad=none ∧
  ∀ {F2 H2 l2 vs2},Ext F H F2 H2→RepL C.K F2 l2 vs2→GoodS C.K F0 H0 (Γ.set i (some (.ow 1,.lst l2))) σ F2 (upd H2 ad (.lst vs2))∧H2 ad=some (.lst vs):=by
 obtain ⟨fp,h1,h2⟩:=g.slots
 obtain ⟨v,hv,o,nd,fr⟩:=h1 i _ e
 have hi:i < Γ.length:=by
  cases Nat.lt_or_ge i Γ.length with
  | inl h=>exact h
  | inr h =>
   have:Γ.get i=none:=by unfold En.get; simp [List.getD,List.getElem?_eq_none h]
   rw [this] at e; cases e
 have o':=o
 obtain ⟨l',ad,vs,fps,e0,rfl,h3,h4,h5⟩:=o'.lst
 cases e0
 have hm:ad∈fp i:=by rw [h4]; simp
 obtain ⟨f1,f2⟩:=fr ad hm
 have r1:RepL C.K F l vs:=by
  obtain ⟨ad',vs',e6,e7,e8⟩:=own_one o
  cases e6
  rw [h3] at e7
  cases e7
  exact e8
 refine ⟨ad,vs,hv,h3,r1,f1,f2,fun {F2 H2 l2 vs2} e2 r2=>⟨⟨⟨?_,by rw [List.length_set]; exact g.len,fun j=>if j=i then [ad] else fp j,fun j y hy=>?_,fun i' j a hij ha hb=>?_⟩,nb_set g.nb fun d p h=>by cases h⟩,e2.hh _ _ h3⟩⟩
 ·have f2n:F2 ad=none:=by
   cases q:F2 ad with
   | none=>rfl
   | some o =>
    rcases e2.nw ad (by rw [q]; simp) with z | z
    ·exact (z f1).elim
    ·rw [h3] at z; cases z
  have ee:=g.ext.trans e2
  refine ⟨ee.ff,fun a o z=>?_,fun a o z=>?_,tups_new ee.tp (fun _ z=>by cases z) f2n,ee.nw⟩
  ·rw [upd_ne (ne_of_none z f2)]; exact ee.hh _ _ z
  ·rw [upd_ne (ne_of_none z f2n)]; exact ee.fh _ _ z
 ·rw [get_set] at hy
  by_cases hj:j=i
  ·subst hj
   rw [if_pos ⟨rfl,hi⟩] at hy
   cases hy
   refine ⟨_,hv,?_⟩
   simp only [if_pos]
   have f2n:F2 ad=none:=by
    cases q:F2 ad with
    | none=>rfl
    | some o =>
     rcases e2.nw ad (by rw [q]; simp) with z | z
     ·exact (z f1).elim
     ·rw [h3] at z; cases z
   exact ⟨own_new r2 upd_same,by simp,fun a ha=>by simp at ha; subst ha; exact ⟨f2n,f2⟩⟩
  ·rw [if_neg fun z=>hj z.1] at hy
   obtain ⟨u,h6,h7⟩:=h1 j y hy
   refine ⟨u,h6,?_⟩
   simp only
   rw [if_neg hj]
   have h8:=h7.ext e2
   obtain ⟨t,q⟩:=y
   cases t with
   | fz=>exact h8
   | bw d=>exact (g.nb j d q hy).elim
   | ow d =>
    obtain ⟨z1,z2,z3⟩:=h8
    exact ⟨Own.mono (Same.refl _) d z1 fun a ha=>upd_ne fun z=>by subst z; exact h2 i j a (Ne.symm hj) hm ha,z2,z3⟩
 ·simp only at ha hb
  by_cases h1':i'=i
  ·rw [if_pos h1'] at ha
   rw [if_neg (fun z=>hij (h1'.trans z.symm))] at hb
   simp at ha
   subst ha
   exact h2 i j a (fun z=>hij (h1'.trans z)) hm hb
  ·rw [if_neg h1'] at ha
   by_cases h2':j=i
   ·rw [if_pos h2'] at hb
    simp at hb
    subst hb
    exact h2 i' i a h1' ha hm
   ·rw [if_neg h2'] at hb
    exact h2 i' j a hij ha hb
theorem ds_app (i:Nat) {x:Str} {apos cpos p1:Pos} (he:DE C cm k N sc e A) (hN:N[i]? = some x:=by rfl) (hv:Vis sc x:=by first | exact Or.inl rfl | exact Or.inr (Or.inl rfl) | exact Or.inr (Or.inr rfl)) (hd:(x == ("__debug__":Str))=false:=by decide)
  (hcd:(x == ("__classdict__":Str))=false:=by decide) (hbase:∀ env:PySem.Env,attributeBase (.Name x p1) "append" env (eval (.Name x p1) env)=eval (.Name x p1) env:=by intro _; rfl)
  (hfew:∀ env:PySem.Env,((backTo cpos (starEach [e] env)).all (fun x=>!x.1) && (backToKw cpos (keywordEach [] env)).all (fun x=>x.1.isSome)
   && decide (([e]).length+([]:List Keyword).length+(if ([]:List Keyword).isEmpty then 0 else 1) < 30))=true:=by intro _; rfl)
  (hline:(apos.endLine == cpos.line)=true:=by rfl) (hst:∀ env:PySem.Env,starEach [e] env=(false,eval e env) :: starEach [] env:=by intro _; rfl) (hs:∀ env:PySem.Env,swapsWith (.Call (.Attribute (.Name x p1) "append" apos) [e] [] cpos) none pos.line env=pure false:=by intro _; rfl) :
  DS C cm k N sc (.Expr (.Call (.Attribute (.Name x p1) "append" apos) [e] [] cpos) pos) (dApp i A):=by
 obtain ⟨ta,pa,qa⟩:=he
 refine ⟨fun W=>tDrop (tBM C.K "list" rAppend (tVar i) (tCons (ta W) tNil)),fun X S W T=>by rw [← S.K]; exact ps_expr (pe_bm PySem.F.plainAttrs_list PySem.F.slot_list_append PySem.F.type_list_append mt_append (pe_var (by rw [S.n]; exact hN) (by rw [S.s]; exact hv) hd hcd) (pa_cons (pa X S.toSta W T) pa_nil (hst _)) (hbase _) (hfew _) hline (hst _) rfl) (hs _),fun W D σ Γ F0 H0 F H g h=>?_⟩
 unfold dApp at h
 split at h
 ·rename_i l eg
  obtain ⟨ad,vs,hv',hH,rl,f1,f2,go⟩:=good_mod g eg
  refine ⟨.ref ad,hv',.inl ⟨rfl,vs,SqL.of hH⟩,qa W σ Γ F0 H0 F H _ g.toGood (OutOk.bind g h fun x v F1 H1 ex e1 rv h=>?_)⟩
  cases hp:putV x with
  | exc c=>exact (put_noexc hp).elim
  | bad=>rw [hp] at h; exact h.elim
  | ok p =>
   rw [hp,after_ok] at h
   by_cases hz:l.length < 16777216
   ·rw [if_pos hz] at h
    obtain ⟨F2,e2,r2⟩:=rv.put e1 hp
    obtain ⟨gg,hH2⟩:=go e2 ((rl.mono e2.ff _ _).append (RepL.cons r2 RepL.nil))
    exact ⟨ad,vs,v,rfl,rfl,hH2,by rw [rl.len,← szL_eq]; exact hz,h σ _ _ gg⟩
   ·rw [if_neg hz] at h; exact h.elim
 ·exact h.elim
theorem get_args{n:Nat}{ps:List PV}{i:Nat}{x:TV}(h:En.get (ps.map (fun p=>some (.fz,p))++List.replicate n none) i=some x):∃ p,ps[i]? = some p∧x=(.fz,p):=by
 unfold En.get at h
 rw [List.getD,List.getElem?_append] at h
 split at h
 ·rename_i hl
  rw [List.getElem?_map] at h
  cases q:ps[i]? with
  | none=>rw [q] at h; cases h
  | some p=>rw [q] at h; exact ⟨p,rfl,by cases h; rfl⟩
 ·rename_i hl
  rw [List.getElem?_replicate] at h
  split at h <;> cases h
theorem fn_okF{x:Str}{ad:Addr}{fd:FuncData}{ps:List Str}{n ns j:Nat}{d:ST}(F:Fun C.K x x st ad fd)(S:FnScope N ps (defScope st))(hp:ps.length=n)(hN:N.length=ns)(hm:C.mg x=some (.ref ad))(hb:Binds C.K fd ps [])
  (body:DSs C true j N (defScope st) (defBody st) d):FnOk C.P C.w C.K C.mg C.base (L2.CX C.P C.w) (j+1) ad fd ps (spOf C n (runFn n ns d)):=by
 obtain ⟨tb,pb,qb⟩:=body
 have hnn:n≤ns:=by
  have:=congrArg List.length S.pre
  rw [List.length_take] at this
  omega
 refine F.okX S (fun vs H Q E h=>?_) (fun cdv A outer s H vs Q E hr h=>?_)
 ·obtain ⟨_,_,h1,_⟩:=h
  rw [h1,hp]
 ·obtain ⟨F0,qs,h1,h2,h3,h4,h5⟩:=h
  refine ⟨tb fun cls d _ H=>E cls d H,pb _ ⟨⟨rfl,rfl,rfl,S.nd,fun _=>rfl,fun _=>hr,?_⟩,passes_of rfl,fun _ _=>rfl,rfl,rfl⟩ _ (takes_of rfl rfl rfl rfl),?_⟩
  ·have h0:=hr.un
   have h1:(cxOf (L2.CX C.P C.w) C.P C.w C.K C.mg C.base N x (defScope st) ad cdv A outer s H E).A.units+100 < cLine:=by
    show (A.deeper _).units+100 < cLine
    omega
   exact h1
  ·refine qb _ _ _ (qs.map (fun p=>some (.fz,p))++List.replicate (ns - n) none) F0 H F0 H ⟨⟨Ext.refl h2 h3,?_,fun _=>[],fun i y hy=>?_,fun _ _ _ _ h=>by simp at h⟩,fun i d p hy=>?_⟩ ?_
   ·have:=h4.len
    simp [L2.start,hN]
    omega
   ·obtain ⟨p,hp,rfl⟩:=get_args hy
    obtain ⟨v,hv,r⟩:=h4.get hp
    refine ⟨v,?_,r⟩
    unfold L2.start
    rw [List.getElem?_append_left (by rw [List.length_map]; exact (List.getElem?_eq_some_iff.mp hv).1),List.getElem?_map,hv]
    rfl
   ·obtain ⟨p',hp,e⟩:=get_args hy
    cases e
   ·have hl:qs.length=n:=by rw [← h4.len]; exact h1
    unfold runFn at h5
    rw [if_pos hl] at h5
    cases eo:d (qs.map (fun p=>some (.fz,p))++List.replicate (ns - n) none) with
    | nx Γ=>rw [eo] at h5; exact fun σ' F' H' g'=>h5 _ F' H' g'.ext (.fz rep_non)
    | rt t p Γr=>rw [eo] at h5; exact fun v F' H' e r=>h5 v F' H' e r
    | bk Γ=>rw [eo] at h5; exact h5.elim
    | ct Γ=>rw [eo] at h5; exact h5.elim
    | exc c Γ=>rw [eo] at h5; exact fun σ' F' H' g'=>h5 F' H' g'.ext
    | bad=>rw [eo] at h5; exact h5.elim
theorem fn_ok{x:Str}{ad:Addr}{fd:FuncData}{ps:List Str}{n ns j:Nat}{d:ST}(F:Fun C.K x x st ad fd)(S:FnScope N ps (defScope st))(hp:ps.length=n)(hN:N.length=ns)(hm:C.mg x=some (.ref ad))(hb:Binds C.K fd ps [])
  (body:DSs C true j N (defScope st) (defBody st) d):Cal C x n (j+1) (runFn n ns d):=⟨ad,fd,ps,hp,fn_okF F S hp hN hm hb body,F.kp,hb,hm⟩
theorem cal_bad{x:Str}{ad:Addr}{fd:FuncData}{ps:List Str}{n j:Nat}(F:Fun C.K x x st ad fd)(S:FnScope N ps (defScope st))(hp:ps.length=n)(hm:C.mg x=some (.ref ad))(hb:Binds C.K fd ps []):Cal C x n j (fun _=>.bad) :=
 ⟨ad,fd,ps,hp,⟨fun vs H Q E h=>by obtain ⟨_,_,_,_,_,_,h⟩:=h; exact h.elim,fun A outer s H args us vs Q E _ _ _ _ h=>by obtain ⟨_,_,_,_,_,_,h⟩:=h; exact h.elim⟩,F.kp,hb,hm⟩
end
end Vl
end
section
set_option Elab.async false
set_option linter.all false
set_option maxRecDepth 100000
set_option maxHeartbeats 1000000
namespace Vl
open PySem L2 Vm PyProof.Rows
def spLaw(K:PySem.W.Frag):Sp:=fun vs H Q _=>∃ (a:Addr) (ns:List Int),vs=[.ref a]∧SqL K H a (ns.map V.int)∧ns.length≤63∧(∀ z∈ns,Builtin.Int.intBits z≤1048576)∧Only H∧∀ H',Q (.bl true) H'
theorem repL_ints{K:KK}{F:Hp}:∀ ns:List Int,RepL K F (ns.map PV.int) (ns.map V.int)
 | []=>RepL.nil
 | n :: ns=>RepL.cons rep_int (repL_ints ns)
theorem law_end {C:Cn} {k:Nat} {ad:Addr} {fd:FuncData} {f:FN} (h:FnOk C.P C.w C.K C.mg C.base (L2.CX C.P C.w) k ad fd ["script"] (spOf C 1 f))
  (s2:∀ ns:List Int,ns.length≤63→(∀ z∈ns,z.natAbs.log2≤1048576)→f [.lst (ns.map .int)] = .ok (.fz,.bl true)):FnOk C.P C.w C.K C.mg C.base (L2.CX C.P C.w) k ad fd ["script"] (spLaw C.K) :=
 h.imp fun vs H Q E q=>by
  obtain ⟨a,ns,rfl,hS,hl,hb,ho,hq⟩:=q
  refine ⟨H,[.lst (ns.map .int)],rfl,Same.refl _,fun _ _ z=>z,RepL.cons ?_ RepL.nil,?_⟩
  ·unfold Rep
   exact ⟨a,_,rfl,hS,repL_ints ns⟩
  ·rw [s2 ns hl fun z hz=>?_]
   ·intro v F' H' _ r
    have r:=r.ofFz
    unfold Rep at r
    subst r
    exact hq H'
   ·have:=hb z hz
    unfold Builtin.Int.intBits at this
    split at this
    ·rename_i e
     have:z=0:=by simpa using e
     subst this
     decide
    ·omega
theorem cx_no{P:Program}{w:World}{H:Hp}{s:Shared}{e:Value}{s':Shared}(h:L2.CX P w [] H s (fun _ _ _=>False) e s'):False:=by
 obtain ⟨_,_,_,_,_,_,_,_,_,_,_,_,h⟩:=h
 exact h
end Vl
end
section
set_option Elab.async false
set_option linter.all false
set_option maxRecDepth 100000
set_option maxHeartbeats 1000000
namespace Vl
open PySem PySem.Spec L2 Vm PyProof.Rows
inductive Src where | l (a:Addr) | t (a:Addr) | s (x:Str) (k:Tok)
def Src.it(h:Heap)(it:Addr)(i:Nat):Src→Prop
 | .l a=>h.IsListIter it a i
 | .t a=>h.IsTupleIter it a i
 | .s x k=>h.IsStrIter it (strIterType x) x k i
def Src.has(K:PySem.W.Frag)(H:Hp)(vs:List V):Src→Prop
 | .l a=>SqL K H a vs
 | .t a=>SqT K H a vs
 | .s x _=>vs=x.cps.toList.map fun c=>V.str ⟨#[c]⟩
def Src.val:Src→Value
 | .l a=>.ref a
 | .t a=>.ref a
 | .s x k=>.str x k
def Src.ob:Src→Obj
 | .l a=>{ cls:=.type "list_iterator",data:=.fields #[.ref a,.int 0 0] }
 | .t a=>{ cls:=.type "tuple_iterator",data:=.fields #[.ref a,.int 0 0] }
 | .s x k=>{ cls:=.type (strIterType x),data:=.fields #[.str x k,.int 0 0] }
def Src.off(b:Addr):Src→Prop
 | .l a=>a ≠ b
 | .t a=>a ≠ b
 | .s _ _=>True
structure ZOff (z TI TO i1 i2:Addr) (S U:Src):Prop where
 nd:[z,TI,TO,i1,i2].Nodup
 o1:∀ b∈[z,TI,TO,i1,i2],S.off b
 o2:∀ b∈[z,TI,TO,i1,i2],U.off b
theorem ZOff.sep{z TI TO i1 i2:Addr}{S U:Src}(D:ZOff z TI TO i1 i2 S U){fp1 fp2:List Addr}(m1:i1∈fp1)(m2:i2∈fp2)(n1:∀ c,c ≠ i1→S.off c→c ∉ fp1)(n2:∀ c,c ≠ i2→U.off c→c ∉ fp2):ZipSep2 z TI TO i1 i2 fp1 fp2:=by
 have nd:=D.nd
 simp only [List.nodup_cons,List.mem_cons,List.not_mem_nil,not_or,or_false,not_false_eq_true,List.nodup_nil,and_true] at nd
 obtain ⟨⟨a1,a2,a3,a4⟩,⟨b1,b2,b3⟩,⟨c1,c2⟩,d1⟩:=nd
 exact ⟨Ne.symm a1,Ne.symm a2,b1,b2,m1,n1 z a3 (D.o1 z (by simp)),n1 TO c1 (D.o1 TO (by simp)),b3,m2,n2 z a4 (D.o2 z (by simp)),n2 TO c2 (D.o2 TO (by simp)),n2 i1 d1 (D.o2 i1 (by simp)),n1 i2 (Ne.symm d1) (D.o1 i2 (by simp))⟩
def SrcOf(K:PySem.W.Frag)(H:Hp)(v:V)(R:Src→Prop):Prop :=
 (∃ x,v = .str x∧∀ k,R (.s x k)) ∨ ∃ a,v = .ref a∧((∃ vs,SqL K H a vs)∧R (.l a) ∨ (∃ vs,SqT K H a vs)∧R (.t a))
theorem SrcOf.use{K:PySem.W.Frag}{H:Hp}{v:V}{R:Src→Prop}{u:Value}(h:SrcOf K H v R)(r:RelV v u):∃ S vs,u=S.val∧S.has K H vs∧R S:=by
 rcases h with ⟨x,rfl,q⟩ | ⟨a,rfl,⟨⟨vs,hv⟩,q⟩ | ⟨⟨vs,hv⟩,q⟩⟩
 ·obtain ⟨k,rfl⟩:=r
  exact ⟨.s x k,_,rfl,rfl,q k⟩
 ·cases r
  exact ⟨.l a,vs,rfl,hv,q⟩
 ·cases r
  exact ⟨.t a,vs,rfl,hv,q⟩
end Vl
end
section
set_option Elab.async false
set_option linter.all false
set_option maxRecDepth 100000
set_option maxHeartbeats 1000000
namespace Vl
open PySem L2 Vm PyProof.Rows
def SeqOk(K:KK)(S:Src)(fl:Bool)(l:List PV)(F1 H1:Hp):Prop:=∀ F H,Same F1 F→Same F H→(fl=false→Same H1 H)→∃ vs,S.has K H vs∧RepL K F l vs
theorem SeqOk.weak{K:KK}{S:Src}{fl:Bool}{l:List PV}{F H F' H':Hp}(h:SeqOk K S fl l F H)(e:Ext F H F' H'):SeqOk K S fl l F' H':=fun Fx Hx a b c=>h Fx Hx (e.ff.trans a) b fun z=>e.hh.trans (c z)
theorem SeqOk.false{K:KK}{S:Src}{fl:Bool}{l:List PV}{F H:Hp}(h:SeqOk K S fl l F H):SeqOk K S false l F H:=fun Fx Hx a b c=>h Fx Hx a b fun _=>c rfl
theorem new_tup{K:KK}{F H:Hp}{T:Addr}{ps:List PV}{vs:List V}{o:Obj}(hd:o.dict=none)(hf:Same F H)(ht:Tups F H)(r:RepL K F ps vs)(hT:H T=none):∃ F',Ext F H F' (upd H T (tq (o,vs)))∧∀ Hs,RV K F' (upd H T (tq (o,vs))) Hs (.fz,.tup ps) (.ref T):=by
 have e:=Ext.tup hf ht (o:=o) (vs:=vs) hT
 refine ⟨_,e,fun Hs=>.fz ?_⟩
 unfold Rep
 exact ⟨T,vs,rfl,.new hd,r.mono e.ff _ _⟩
section
variable {C:Cn} {cm:Bool} {k:Nat} {N:List Str} {sc so:Scope} {a b c e tg:Expr} {es:List Expr} {A B:EX} {As:EXs} {T U:TX} {pos p tpos:Pos} {X:Cx} {x:Str} {elts:List Expr} {kk:Nat}
end
end Vl
end
section
set_option Elab.async false
set_option linter.all false
set_option maxRecDepth 100000
set_option maxHeartbeats 1000000
namespace Vl
open PySem L2 Vm PyProof.Rows
section
open PySem.Builtin PySem.Builtin.Str PySem.StrLaws
def occA(L Y:List Nat):Nat→Nat→Nat→Nat→List Nat
 | _,0,_,_=>[]
 | lim,k+1,i,free=>if (0 < lim∧free≤i)∧Y.isPrefixOf (L.drop i)=true then i :: occA L Y (lim - 1) k (i+1) (i+Y.length) else occA L Y lim k (i+1) free
theorem pre_iff{Y S:List Nat}:Y.isPrefixOf S=true ↔ S.take Y.length=Y:=by
 rw [List.isPrefixOf_iff_prefix,List.prefix_iff_eq_take]
 exact ⟨fun h=>h.symm,fun h=>h.symm⟩
theorem at_iff{x y:Str}{i:Nat}(h:i≤x.length):(i+y.length≤x.length∧subAt x y i=true) ↔ y.cps.toList.isPrefixOf (x.cps.toList.drop i)=true:=by
 rw [pre_iff,subAt_eq,beq_iff_eq]
 have e:y.cps.toList.length=y.length:=by simp [Str.length]
 rw [e]
 refine ⟨fun h=>h.2,fun g=>⟨?_,g⟩⟩
 have:=congrArg List.length g
 rw [List.length_take,List.length_drop,e] at this
 have e2:x.cps.toList.length=x.length:=by simp [Str.length]
 omega
theorem occ_run(x y:Str)(limit:Nat):∀ (k i:Nat) (st:Array Nat×Nat),i+k≤x.length+1 →
  (forIn (List.range' i k) st (occBody x y x.length limit)).run.fst.toList=st.fst.toList++occA x.cps.toList y.cps.toList (limit - st.fst.size) k i st.snd
 | 0,i,st,_=>by simp [occA]
 | k+1,i,st,h=>by
  rw [List.range'_succ,List.forIn_cons]
  have hi:=at_iff (x:=x) (y:=y) (i:=i) (by omega)
  unfold occBody occA
  by_cases c:(st.fst.size < limit∧st.snd≤i)∧y.cps.toList.isPrefixOf (x.cps.toList.drop i)=true
  ·have c2:=hi.mpr c.2
   rw [if_pos ⟨⟨c.1,c2.1⟩,c2.2⟩,if_pos ⟨⟨by omega,c.1.2⟩,c.2⟩]
   have ih:=occ_run x y limit k (i+1) (st.fst.push i,i+y.length) (by omega)
   have e:y.cps.toList.length=y.length:=by simp [Str.length]
   rw [e]
   refine Eq.trans ih ?_
   rw [Array.size_push,Array.toList_push,List.append_assoc,Nat.sub_add_eq]
   rfl
  ·have c2:¬ (((st.fst.size < limit∧st.snd≤i)∧i+y.length≤x.length)∧subAt x y i=true):=fun z=>c ⟨z.1.1,hi.mp ⟨z.1.2,z.2⟩⟩
   have c3:¬ ((0 < limit - st.fst.size∧st.snd≤i)∧y.cps.toList.isPrefixOf (x.cps.toList.drop i)=true):=fun z=>c ⟨⟨by omega,z.1.2⟩,z.2⟩
   rw [if_neg c2,if_neg c3]
   exact occ_run x y limit k (i+1) st (by omega)
theorem occ_is(x y:Str)(limit:Nat):occurrences x y 0 x.length limit=occA x.cps.toList y.cps.toList limit (x.length+1) 0 0:=by
 rw [occ_eq,Nat.sub_zero,occ_run x y limit (x.length+1) 0 (#[],0) (by omega)]
 rfl
def partsF(L:List Nat)(w:Nat):Nat→List Nat→List (List Nat)
 | a,[]=>[L.drop a]
 | a,c :: r=>(L.take c).drop a :: partsF L w (c+w) r
theorem parts_is(x:Str)(w:Nat):∀ (cuts:List Nat) (a:Nat),(partsFrom x w a cuts).map (·.cps.toList)=partsF x.cps.toList w a cuts
 | [],a=>by
  show [(strSub x a x.length).cps.toList]=[_]
  rw [strSub_toList,List.take_of_length_le]
  simp [Str.length]
 | c :: r,a=>by
  show (strSub x a c).cps.toList :: _=_ :: _
  rw [parts_is x w r,strSub_toList,List.drop_take]
theorem spl_is(L Y:List Nat)(hY:0 < Y.length):∀ (S:List Nat) (i lim:Nat),L.drop i=S→S.length < lim →
  (∀ (a free:Nat) (acc:List Nat),free≤i→a≤i→acc.reverse=(L.take i).drop a→partsF L Y.length a (occA L Y lim (S.length+1) i free)=splS Y S 0 acc) ∧
  (∀ s:Nat,partsF L Y.length (i+s+1) (occA L Y lim (S.length+1) i (i+s+1))=splS Y S (s+1) [])
 | [],i,lim,hS,hl=>by
  have hp:¬ Y.isPrefixOf (L.drop i)=true:=by
   rw [hS]
   cases Y with
   | nil=>simp at hY
   | cons y Y=>simp
  refine ⟨fun a free acc h1 h2 h3=>?_,fun s=>?_⟩
  ·unfold occA
   rw [if_neg fun z=>hp z.2]
   have:L.length≤i:=by simpa using hS
   rw [List.take_of_length_le this] at h3
   simp [occA,partsF,splS,h3]
  ·unfold occA
   rw [if_neg fun z=>hp z.2]
   have:L.length≤i:=by simpa using hS
   simp [occA,partsF,splS]
   omega
 | c :: S,i,lim,hS,hl=>by
  have hS':L.drop (i+1)=S:=by rw [← List.drop_drop,hS]; rfl
  have hlt:i < L.length:=by
   have:=congrArg List.length hS
   simp at this
   omega
  have hc:L[i]? = some c:=by
   have:=congrArg (·[0]?) hS
   simpa using this
  refine ⟨fun a free acc h1 h2 h3=>?_,fun s=>?_⟩
  ·rw [List.length_cons]
   unfold occA splS
   rw [hS]
   by_cases hp:Y.isPrefixOf (c :: S)=true
   ·rw [if_pos ⟨⟨by omega,h1⟩,hp⟩,if_pos hp]
    obtain ⟨ih1,ih2⟩:=spl_is L Y hY S (i+1) (lim - 1) hS' (by rw [List.length_cons] at hl; omega)
    show (L.take i).drop a :: partsF L Y.length (i+Y.length) _=_
    rw [h3]
    congr 1
    cases hw:Y.length with
    | zero=>omega
    | succ w =>
     cases w with
     | zero =>
      rw [hw] at ih1
      exact ih1 (i+1) (i+1) [] (Nat.le_refl _) (Nat.le_refl _) (by simp)
     | succ w =>
      rw [hw] at ih2
      have:=ih2 w
      rw [show i+(w+1+1)=i+1+w+1 by omega]
      exact this
   ·rw [if_neg fun z=>hp z.2,if_neg hp]
    obtain ⟨ih1,_⟩:=spl_is L Y hY S (i+1) lim hS' (by rw [List.length_cons] at hl; omega)
    refine ih1 a free (c :: acc) (by omega) (by omega) ?_
    rw [List.reverse_cons,h3,List.take_succ,hc,List.drop_append_of_le_length (by rw [List.length_take]; omega)]
    rfl
  ·rw [List.length_cons]
   unfold occA splS
   rw [if_neg fun z=>by have:=z.1.2; omega]
   cases s with
   | zero =>
    obtain ⟨ih1,_⟩:=spl_is L Y hY S (i+1) lim hS' (by rw [List.length_cons] at hl; omega)
    exact ih1 (i+1) (i+1) [] (Nat.le_refl _) (Nat.le_refl _) (by simp)
   | succ s =>
    obtain ⟨_,ih2⟩:=spl_is L Y hY S (i+1) lim hS' (by rw [List.length_cons] at hl; omega)
    have:=ih2 s
    rw [show i+(s+1)+1=i+1+s+1 by omega]
    exact this
def tx(l:List Nat):Str:=⟨l.toArray⟩
theorem tx_back(x:Str):tx x.cps.toList=x:=by cases x; simp [tx]
theorem tx_len(l:List Nat):(tx l).length=l.length:=by simp [tx,Str.length]
theorem kind_le(x:Str){n:Nat}(h:∀ c∈x.cps.toList,c < n):(n≤256→Builtin.Str.strKind x=1)∧(n≤65536→Builtin.Str.strKind x≤2):=by
 refine ⟨fun hn=>?_,fun hn=>?_⟩
 ·unfold PySem.Builtin.Str.strKind
  rw [if_pos]
  rw [← Array.all_toList,List.all_eq_true]
  exact fun c hc=>decide_eq_true (Nat.lt_of_lt_of_le (h c hc) hn)
 ·unfold PySem.Builtin.Str.strKind
  split
  ·omega
  ·rw [if_pos]
   ·exact Nat.le_refl _
   ·rw [← Array.all_toList,List.all_eq_true]
    exact fun c hc=>decide_eq_true (Nat.lt_of_lt_of_le (h c hc) hn)
theorem kind_pos(x:Str):1≤Builtin.Str.strKind x∧Builtin.Str.strKind x≤4:=by
 unfold PySem.Builtin.Str.strKind
 split
 ·omega
 ·split <;> omega
theorem kind_sub{x y:Str}(h:∀ c∈y.cps.toList,c∈x.cps.toList):Builtin.Str.strKind y≤Builtin.Str.strKind x:=by
 by_cases h1:x.cps.toList.all (fun c=>decide (c < 256))=true
 ·have:∀ c∈y.cps.toList,c < 256:=fun c hc=>of_decide_eq_true (List.all_eq_true.mp h1 c (h c hc))
  rw [(kind_le y this).1 (Nat.le_refl _)]
  exact (kind_pos x).1
 ·by_cases h2:x.cps.toList.all (fun c=>decide (c < 65536))=true
  ·have:∀ c∈y.cps.toList,c < 65536:=fun c hc=>of_decide_eq_true (List.all_eq_true.mp h2 c (h c hc))
   have a:=(kind_le y this).2 (Nat.le_refl _)
   have b:Builtin.Str.strKind x=2:=by
    unfold PySem.Builtin.Str.strKind
    rw [if_neg (by rw [← Array.all_toList]; exact h1),if_pos (by rw [← Array.all_toList]; exact h2)]
   omega
  ·have b:Builtin.Str.strKind x=4:=by
    unfold PySem.Builtin.Str.strKind
    rw [if_neg (by rw [← Array.all_toList]; exact h1),if_neg (by rw [← Array.all_toList]; exact h2)]
   have:=(kind_pos y).2
   omega
theorem split_is(x y:Str)(hy:0 < y.length):(Txt.split x y).map (·.cps.toList)=splS y.cps.toList x.cps.toList 0 []:=by
 have ly:y.cps.toList.length=y.length:=by simp [Str.length]
 have lx:x.cps.toList.length=x.length:=by simp [Str.length]
 have key:=(spl_is x.cps.toList y.cps.toList (by omega) x.cps.toList 0 (x.length+1) (by simp) (by omega)).1 0 0 [] (Nat.le_refl _) (Nat.le_refl _) (by simp)
 rw [ly,lx,← occ_is] at key
 have whole:∀ cuts,cuts=[]→partsF x.cps.toList y.length 0 cuts=[x.cps.toList]:=fun cuts e=>by rw [e]; simp [partsF]
 unfold Txt.split
 split
 ·rename_i h
  rw [← key,whole]
  ·rfl
  ·obtain ⟨f,hf⟩:=occ_chain x y (x.length+1)
   cases ho:occurrences x y 0 x.length (x.length+1) with
   | nil=>rfl
   | cons c r =>
    rw [ho] at hf
    have h2:=hf.2.1
    have h3:=h2.1
    have h4:=h2.2
    rw [Bool.or_eq_true,decide_eq_true_eq,decide_eq_true_eq] at h
    rcases h with h | h
    ·omega
    ·have:=kind_sub (x:=x) (y:=y) fun a ha=>by
      rw [subAt_eq,beq_iff_eq] at h4
      rw [← h4] at ha
      exact List.mem_of_mem_drop (List.mem_of_mem_take ha)
     omega
 ·split
  ·rename_i h
   rw [List.isEmpty_iff] at h
   rw [← key,whole _ h]
   rfl
  ·rw [partsBetween_eq,parts_is,key]
theorem splS_mem(Y:List Nat):∀ (S:List Nat) (n:Nat) (acc:List Nat),∀ p∈splS Y S n acc,p.length≤acc.length+S.length∧∀ c∈p,c∈acc ∨ c∈S
 | [],n,acc,p,hp=>by
  unfold splS at hp
  rw [List.mem_singleton] at hp
  subst hp
  exact ⟨by simp,fun c hc=>.inl (by simpa using hc)⟩
 | c :: S,0,acc,p,hp=>by
  unfold splS at hp
  split at hp
  ·rcases List.mem_cons.mp hp with rfl | hp
   ·exact ⟨by simp,fun c hc=>.inl (by simpa using hc)⟩
   ·obtain ⟨a,b⟩:=splS_mem Y S _ [] p hp
    exact ⟨by simp at a ⊢; omega,fun d hd=>.inr ((b d hd).elim (fun z=>by cases z) fun z=>List.mem_cons_of_mem _ z)⟩
  ·obtain ⟨a,b⟩:=splS_mem Y S 0 (c :: acc) p hp
   refine ⟨by simp at a ⊢; omega,fun d hd=>?_⟩
   rcases b d hd with z | z
   ·rcases List.mem_cons.mp z with rfl | z
    ·exact .inr (by simp)
    ·exact .inl z
   ·exact .inr (List.mem_cons_of_mem _ z)
 | c :: S,n+1,acc,p,hp=>by
  unfold splS at hp
  obtain ⟨a,b⟩:=splS_mem Y S n acc p hp
  exact ⟨by simp at a ⊢; omega,fun d hd=>(b d hd).imp id (List.mem_cons_of_mem _)⟩
theorem strG_sub{l p:List Nat}(h:strG l=true)(a:p.length≤l.length)(b:∀ c∈p,c∈l):strG p=true:=by
 unfold strG at h ⊢
 rw [Bool.and_eq_true,decide_eq_true_eq,List.all_eq_true] at h ⊢
 exact ⟨Nat.le_trans a h.1,fun c hc=>h.2 c (b c hc)⟩
theorem repL_strs{K:KK}{F:Hp}:∀ {ws:List (List Nat)},(∀ w∈ws,strG w=true)→RepL K F (ws.map PV.str) (ws.map fun w=>V.str (tx w))
 | [],_=>RepL.nil
 | w :: ws,h=>RepL.cons (rep_str (h w (by simp))) (repL_strs fun v hv=>h v (by simp [hv]))
theorem glued_is(s:List Nat):∀ (ws:List (List Nat)) (w:List Nat),(List.foldl (fun (acc:Array Nat) (p:Str)=>acc++(tx s).cps++p.cps) w.toArray (ws.map tx)).toList=joinL s (w :: ws)
 | [],w=>by simp [joinL]
 | v :: ws,w=>by
  rw [List.map_cons,List.foldl_cons,joinL]
  have ih:=glued_is s ws (w++s++v)
  have e:(w.toArray++(tx s).cps++(tx v).cps)=(w++s++v).toArray:=by simp [tx]
  rw [e,ih]
  cases ws with
  | nil=>simp [joinL]
  | cons u ws=>simp [joinL]
theorem join_is(s:List Nat)(ws:List (List Nat)):Txt.join (tx s) (ws.map tx)=tx (joinL s ws):=by
 cases ws with
 | nil=>rfl
 | cons w ws =>
  have:=glued_is s ws w
  unfold Txt.join glued
  apply Str.ext'
  apply Array.toList_inj.mp
  simpa [tx] using this
theorem joinL_mem{s:List Nat}:∀ {ws:List (List Nat)} {c:Nat},c∈joinL s ws→c∈s ∨ ∃ w∈ws,c∈w
 | [],c,h=>by simp [joinL] at h
 | [w],c,h=>.inr ⟨w,by simp,by simpa [joinL] using h⟩
 | w :: v :: r,c,h=>by
  rw [joinL,List.mem_append,List.mem_append] at h
  rcases h with (h | h) | h
  ·exact .inr ⟨w,by simp,h⟩
  ·exact .inl h
  ·rcases joinL_mem h with h | ⟨u,hu,h⟩
   ·exact .inl h
   ·exact .inr ⟨u,List.mem_cons_of_mem _ hu,h⟩
theorem joinL_len{s:List Nat}:∀ {ws:List (List Nat)},(joinL s ws).length≤(ws.map (·.length)).sum+ws.length * s.length
 | []=>by simp [joinL]
 | [w]=>by simp [joinL]
 | w :: v :: r=>by
  have:=joinL_len (s:=s) (ws:=v :: r)
  rw [joinL]
  simp only [List.length_append,List.map_cons,List.sum_cons,List.length_cons,Nat.add_mul,Nat.one_mul] at this ⊢
  omega
end
end Vl
end
section
set_option Elab.async false
set_option linter.all false
set_option maxRecDepth 100000
set_option maxHeartbeats 1000000
namespace Vl
open PySem L2 Vm PyProof.Rows
section
variable {C:Cn} {cm:Bool} {k:Nat} {N:List Str} {sc so:Scope} {a b c e tg:Expr} {es:List Expr} {A B:EX} {As:EXs} {T U:TX} {pos p tpos:Pos} {X:Cx} {x:Str} {elts:List Expr} {kk:Nat}
theorem de_int1 (ha:DE C cm k N sc a A) (mx:C.mg "int" = none) (hg:sc.names.lookup ("int":Str)=some .globalImplicit:=by rfl)
  (hst:∀ env:PySem.Env,starEach [a] env=(false,eval a env) :: starEach [] env:=by intro _; rfl):DE C cm k N sc (.Call (.Name "int" p) [a] [] pos) (eInt A) :=
 de_t1 (fun X S=>call_int1) (fun W σ x v F H Hs Q hf ht rv h=>by
  have r:=rv.rep hf
  obtain ⟨t,q⟩:=x
  have fin:Ext F H F H:=Ext.refl hf ht
  cases q with
  | int i=>unfold Rep at r; subst r; exact .inl ⟨i,rfl,h _ F H fin (.fz rep_int)⟩
  | bl b=>unfold Rep at r; subst r; exact .inr ⟨b,rfl,h _ F H fin (.fz rep_int)⟩
  | _=>exact h.elim) mx (by decide +kernel) (by decide) (by decide) ha hg hst
end
end Vl
end
section
set_option Elab.async false
set_option linter.all false
set_option maxRecDepth 100000
set_option maxHeartbeats 1000000
namespace Vl
open PySem L2 Vm PyProof.Rows
theorem strsOf_is:∀ {l:List PV} {ws:List (List Nat)},strsOf l=some ws→l=ws.map .str
 | [],ws,h=>by cases h; rfl
 | p :: l,ws,h=>by
  cases p <;> simp only [strsOf] at h <;> try (cases h; done)
  cases hs:strsOf l with
  | none=>rw [hs] at h; cases h
  | some us =>
   rw [hs] at h
   cases h
   rw [strsOf_is hs]
   rfl
theorem repL_strs_of{K:KK}{F:Hp}:∀ {ws:List (List Nat)} {vs:List V},RepL K F (ws.map PV.str) vs→vs=(ws.map tx).map V.str∧∀ w∈ws,strG w=true
 | [],vs,h=>by unfold RepL at h; exact ⟨h,fun _ z=>by cases z⟩
 | w :: ws,vs,h=>by
  rw [List.map_cons] at h
  unfold RepL at h
  obtain ⟨v,r,rfl,h1,h2⟩:=h
  unfold Rep at h1
  obtain ⟨rfl,hg⟩:=h1
  obtain ⟨rfl,h3⟩:=repL_strs_of h2
  exact ⟨rfl,fun u hu=>(List.mem_cons.mp hu).elim (fun z=>z ▸ hg) (h3 u)⟩
theorem strG_join{s:List Nat}{ws:List (List Nat)}(hs:strG s=true)(hw:∀ w∈ws,strG w=true)(hz:(ws.map (·.length)).sum+ws.length * s.length≤16777216):strG (joinL s ws)=true:=by
 unfold strG
 rw [Bool.and_eq_true,decide_eq_true_eq,List.all_eq_true]
 refine ⟨Nat.le_trans joinL_len hz,fun c hc=>?_⟩
 have all:∀ {l:List Nat},strG l=true→∀ c∈l,decide (c < 1114112)=true:=fun {l} h c hc=>by
  unfold strG at h
  rw [Bool.and_eq_true,List.all_eq_true] at h
  exact h.2 c hc
 rcases joinL_mem hc with h | ⟨w,hw',h⟩
 ·exact all hs c h
 ·exact all (hw w hw') c h
section
variable {C:Cn} {cm:Bool} {k:Nat} {N:List Str} {sc so:Scope} {a b c e o tg:Expr} {es:List Expr} {A B:EX} {As:EXs} {T U:TX} {pos p tpos apos cpos:Pos} {X:Cx} {x:Str} {elts:List Expr} {kk:Nat}
theorem de_txt{name:Str}{f:List Nat→TV→Res TV}{r:V→List V→Hp→VK→Prop}(hp:∀ X,Sta C cm k N sc X→∀ ta tb:TE,PE X o ta→PE X e tb→PE X (.Call (.Attribute o name apos) [e] [] pos) (tM1 r ta tb))
  (hr:∀ W σ (s:List Nat) y u F H Hs Q,Same F H→Tups F H→strG s=true→RV C.K F H Hs y u→Same Hs H→EOk C W σ F H Q (f s y)→r (.str (tx s)) [u] H Q)(ho:DE C cm k N sc o A)(he:DE C cm k N sc e B):DE C cm k N sc (.Call (.Attribute o name apos) [e] [] pos) (eTxt f A B):=by
 obtain ⟨ta,pa,qa⟩:=ho
 obtain ⟨tb,pb,qb⟩:=he
 refine ⟨fun W=>tM1 r (ta W) (tb W),fun X S W T=>hp X S _ _ (pa X S W T) (pb X S W T),fun W σ Γ F0 H0 F H Q g h=>?_⟩
 refine qa W σ Γ F0 H0 F H _ g (EOk.bind h fun x v F1 H1 ex e1 r1 h1=>?_)
 obtain ⟨t,q⟩:=x
 cases q with
 | str s =>
  have r:=r1.rep e1.fh
  unfold Rep at r
  obtain ⟨rfl,hg⟩:=r
  refine ⟨⟨_,rfl⟩,?_⟩
  refine qb W σ Γ F0 H0 F1 H1 _ (g.next e1) (EOk.bind (h1.next e1) fun y u F2 H2 ey e2 r2 h2=>?_)
  exact hr W σ s y u F2 H2 H1 Q e2.fh e2.tp hg r2 e2.hh (h2.next e2)
 | _=>exact h1.elim
def rJoinS(K:PySem.W.Frag):V→List V→Hp→VK→Prop:=fun x xs H Q=>∃ a p,∃ ys:List Str,x = .str a∧xs=[.ref p]∧(SqL K H p (ys.map V.str) ∨ SqT K H p (ys.map V.str))∧(ys.map (·.length)).sum+ys.length * a.length≤16777216∧Q (.str (Txt.join a ys)) H
theorem de_join (ho:DE C cm k N sc o A) (he:DE C cm k N sc e B) (hs:∀ env:PySem.Env,starEach [e] env=[(false,eval e env)]:=by intro _; rfl) (hbase:∀ env:PySem.Env,attributeBase o "join" env (eval o env)=eval o env:=by intro _; rfl)
  (hline:(apos.endLine == pos.line)=true:=by rfl):DE C cm k N sc (.Call (.Attribute o "join" apos) [e] [] pos) (eTxt joinV A B) :=
 de_txt (r:=rJoinS C.K) (fun X S ta tb pa pb=>by rw [← S.K]; exact pe_join pa pb (hs _) (hbase _) hline) (fun W σ s y u F H Hs Q hf ht hg r2 _ h=>by
  obtain ⟨t',q'⟩:=y
  have r:=r2.rep hf
  have fin:∀ {l:List PV} {vs:List V} {ad:Addr},listOf q'=some l→RepL C.K H l vs→u = .ref ad→(SqL C.K H ad vs ∨ SqT C.K H ad vs)→rJoinS C.K (.str (tx s)) [u] H Q:=fun {l vs ad} el rl eu sq=>by
   unfold joinV at h
   simp only [el] at h
   cases hst:strsOf l with
   | none=>rw [hst] at h; exact h.elim
   | some ws =>
    rw [hst] at h
    simp only at h
    by_cases hz:(ws.map (·.length)).sum+ws.length * s.length≤16777216
    ·rw [if_pos hz] at h
     rw [strsOf_is hst] at rl
     obtain ⟨rfl,hw⟩:=repL_strs_of rl
     refine ⟨tx s,ad,ws.map tx,rfl,by rw [eu],sq,?_,?_⟩
     ·rw [List.map_map,List.length_map,tx_len]
      have e:((fun x:Str=>x.length) ∘ tx)=fun l:List Nat=>l.length:=funext tx_len
      rw [e]
      exact hz
     ·rw [join_is]
      exact h _ F H (Ext.refl hf ht) (.fz (rep_str (strG_join hg hw hz)))
    ·rw [if_neg hz] at h; exact h.elim
  cases q' with
  | lst l =>
   obtain ⟨ad,vs,eu,s2,r3⟩:=rep_lst r
   exact fin rfl r3 eu (.inl s2)
  | tup l =>
   obtain ⟨ad,vs,eu,s2,r3⟩:=rep_tup r
   exact fin rfl r3 eu (.inr ((TupAt.sq s2)))
  | _=>exact h.elim) ho he
theorem de_split (ho:DE C cm k N sc o A) (he:DE C cm k N sc e B) (hs:∀ env:PySem.Env,starEach [e] env=[(false,eval e env)]:=by intro _; rfl) (hbase:∀ env:PySem.Env,attributeBase o "split" env (eval o env)=eval o env:=by intro _; rfl)
  (hline:(apos.endLine == pos.line)=true:=by rfl):DE C cm k N sc (.Call (.Attribute o "split" apos) [e] [] pos) (eTxt splitV A B) :=
 de_txt (fun X S ta tb pa pb=>pe_split pa pb (hs _) (hbase _) hline) (fun W σ s y u F H Hs Q hf ht hg r2 hsh h=>by
  have r:=r2.rep hf
  obtain ⟨t',q'⟩:=y
  cases q' with
  | str Y =>
   unfold Rep at r
   obtain ⟨rfl,hg2⟩:=r
   cases Y with
   | nil=>exact h.elim
   | cons c Y =>
    unfold splitV at h
    simp only at h
    by_cases hz:s.length+2≤16777216
    ·rw [if_pos hz] at h
     refine ⟨tx s,tx (c :: Y),rfl,rfl,?_,by rw [tx_len,← szL_eq]; exact hz,fun p hp=>?_⟩
     ·rw [tx_len]; rfl
     ·have e:Txt.split (tx s) (tx (c :: Y))=(splS (c :: Y) s 0 []).map tx:=by
       have:=split_is (tx s) (tx (c :: Y)) (by rw [tx_len]; simp)
       have e2:(tx (c :: Y)).cps.toList=c :: Y:=rfl
       have e3:(tx s).cps.toList=s:=rfl
       rw [e2,e3] at this
       rw [← this,List.map_map]
       have e4:(tx ∘ fun x:Str=>x.cps.toList)=id:=funext fun x=>tx_back x
       rw [e4,List.map_id]
      rw [e]
      have rl:RepL C.K F ((splS (c :: Y) s 0 []).map PV.str) (((splS (c :: Y) s 0 []).map tx).map V.str):=by
       rw [List.map_map]
       exact repL_strs fun w hw=>by
        obtain ⟨a,b⟩:=splS_mem (c :: Y) s 0 [] w hw
        exact strG_sub hg (by simpa using a) fun d hd=>(b d hd).elim (fun z=>by cases z) id
      exact h _ F _ (Ext.lst hf ht hp) (rv_new rl upd_same (hf.free hp) hp)
    ·rw [if_neg hz] at h; exact h.elim
  | _=>exact h.elim) ho he
end
end Vl
end
section
set_option Elab.async false
set_option linter.all false
set_option maxRecDepth 100000
set_option maxHeartbeats 1000000
namespace Vl
open PySem L2 Vm PyProof.Rows
section
open PySem.AutoSeq1
end
section
variable {C:Cn} {cm:Bool} {k:Nat} {N:List Str} {sc so:Scope} {a b c e o tg:Expr} {es:List Expr} {A B:EX} {As:EXs} {T U:TX} {pos p tpos apos cpos p1:Pos} {X:Cx} {x:Str} {elts:List Expr} {kk:Nat}
theorem ds_setIx (i:Nat) {xpos:Pos} (hj:DE C true k N sc b B) (he:DE C true k N sc e A) (hN:N[i]? = some x:=by rfl) (hv:Vis sc x:=by first | exact Or.inl rfl | exact Or.inr (Or.inl rfl) | exact Or.inr (Or.inr rfl)) (hd:(x == ("__debug__":Str))=false:=by decide)
  (hcd:(x == ("__classdict__":Str))=false:=by decide) (hs:∀ env:PySem.Env,swapsWithSole [.Subscript (.Name x p1) b xpos] e pos.line env=pure false:=by intro _; rfl) (hw:∀ env:PySem.Env,swappedStores [.Subscript (.Name x p1) b xpos] e env=pure none:=by intro _; rfl)
  (h1:∀ env:PySem.Env,(assignEach [.Subscript (.Name x p1) b xpos] env).map (·.2)=[assign (.Subscript (.Name x p1) b xpos) env]:=by intro _; rfl)
  (ha:∀ (env:PySem.Env) v,assign (.Subscript (.Name x p1) b xpos) env v=(do
   let ov ← holding [v] (eval (.Name x p1) env)
   let iv ← holding [v,ov] (eval b env)
   standAt xpos
   holding [v,ov,iv] (setItem ov iv v)
   release [v,ov,iv] []):=by intro _ _; rfl):DS C true k N sc (.Assign [.Subscript (.Name x p1) b xpos] e pos) (dSetIx i B A):=by
 obtain ⟨ta,pa,qa⟩:=he
 obtain ⟨tb,pb,qb⟩:=hj
 refine ⟨fun W=>tAsg (ta W) (gSub (tVar i) (tb W) rSetL),fun X S W T=>ps_asg (pa X S.toSta W T) (pg_sub (pe_var (by rw [S.n]; exact hN) (by rw [S.s]; exact hv) hd hcd) (pb X S.toSta W T) set_list (ha _)) (hs _) (hw _) (h1 _),fun W D σ Γ F0 H0 F H g h=>?_⟩
 unfold dSetIx at h
 split at h
 ·rename_i l eg
  obtain ⟨ad,vs,hv',hH,rl,f1,f2,go⟩:=good_mod g eg
  refine qa W σ Γ F0 H0 F H _ g.toGood (OutOk.bind g h fun y v F1 H1 ex e1 rv h=>?_)
  refine ⟨.ref ad,hv',qb W σ Γ F0 H0 F1 H1 _ (g.next e1).toGood (OutOk.bind (g.next e1) h fun z u F2 H2 ez e2 r2 h=>?_)⟩
  cases hp:putV y with
  | exc c=>exact (put_noexc hp).elim
  | bad=>rw [hp] at h; exact h.elim
  | ok q =>
   rw [hp,after_ok] at h
   obtain ⟨t,z⟩:=z
   have rz:=r2.rep e2.fh
   cases z with
   | int j =>
    unfold Rep at rz
    subst rz
    simp only at h
    cases hn:vIxN l.length j with
    | none=>rw [hn] at h; exact h.elim
    | some n =>
     rw [hn] at h
     obtain ⟨F3,e3,r3⟩:=(rv.ext e2).put (e1.trans e2) hp
     obtain ⟨gg,hH2⟩:=go e3 ((rl.mono e3.ff _ _).set r3 n)
     exact ⟨ad,vs,j,n,rfl,rfl,hH2,by rw [rl.len]; exact hn,h σ _ _ gg⟩
   | _=>exact h.elim
 ·exact h.elim
end
end Vl
end
section
set_option Elab.async false
set_option linter.all false
set_option maxRecDepth 100000
set_option maxHeartbeats 1000000
namespace Vl
open PySem L2 Vm PyProof.Rows
def Xc(C:Cn)(c:Nat):Prop:=∃ a:Addr,C.mg (xName c)=some (.ref a)∧PySem.W.excIn C.K a [.type "ValueError",.type "Exception",.type "BaseException",.type "object"] "ValueError.__new__" = true∧PySem.W.keepIn C.K (.ref a)=true ∧
 PySem.W.subIn C.K (.ref a) (.type "BaseException")=some true∧PySem.W.typeIn C.K (.ref a)=some (.type "type")
section
variable {C:Cn} {cm:Bool} {k:Nat} {N:List Str} {sc so:Scope} {a b c e o tg:Expr} {es:List Expr} {A B:EX} {As:EXs} {T U:TX} {pos p tpos apos cpos p1:Pos} {X:Cx} {x:Str} {elts:List Expr} {kk:Nat}
theorem ds_raise {i:Nat} {m:Str} {j:Nat} {p2 pos':Pos} (xc:Xc C i) (hg:sc.names.lookup (xName i)=some .globalImplicit:=by rfl) (hdb:(xName i == ("__debug__":Str))=false:=by decide) :
  DS C true k N sc (.Raise (some (.Call (.Name (xName i) p) [.Constant (.str m) j p2] [] pos)) none pos') (dRaise i):=by
 obtain ⟨ad,h1,h2,h3,h4,h5⟩:=xc
 have e:C.xc i = .ref ad:=by show (C.mg (xName i)).getD .none=_; rw [h1]; rfl
 refine ⟨fun W _ σ H=>W (.ref ad) none σ H,fun X S W T=>?_,fun W D σ Γ F0 H0 F H g h=>?_⟩
 ·exact ps_raise (S.c rfl) T (pmk_own PySem.F.excBase_ValueError (by rw [S.K]; exact h2) (by rw [S.toSta.mg]; exact h1) (by rw [S.K]; exact h3) (raises_own (by rw [S.K]; exact h4) (by rw [S.K]; exact h5)) (S.toSta.gl hg) hdb)
 ·have:=h σ F H g
  rw [e] at this
  exact this
end
end Vl
end
section
set_option Elab.async false
set_option linter.all false
set_option maxRecDepth 100000
set_option maxHeartbeats 1000000
namespace Vl
open PySem L2 Vm PyProof.Rows
section
variable {C:Cn} {cm:Bool} {k:Nat} {N:List Str} {sc so:Scope} {a b c e o tg:Expr} {es:List Expr} {A B:EX} {As:EXs} {T U:TX} {pos p tpos apos cpos p1:Pos} {X:Cx} {x:Str} {elts:List Expr} {kk:Nat}
end
end Vl
end
section
set_option Elab.async false
set_option linter.all false
set_option maxRecDepth 100000
set_option maxHeartbeats 1000000
namespace Vl
open PySem PySem.Calls PySem.W L2 Vm PyProof.Rows
section
variable {X:Cx}
end
section
variable {C:Cn} {cm:Bool} {k:Nat} {N:List Str} {sc so:Scope} {a b c e o tg:Expr} {es:List Expr} {A B:EX} {As:EXs} {T U:TX} {pos p tpos apos cpos p1 kpos:Pos} {X:Cx} {x:Str} {elts:List Expr} {kk:Nat}
end
section
variable {C:Cn} {cm:Bool} {k:Nat} {N:List Str} {sc so:Scope} {a b c e o tg:Expr} {es:List Expr} {A B:EX} {As:EXs} {T U:TX} {pos p tpos apos cpos p1 kpos:Pos} {X:Cx} {x:Str} {elts:List Expr} {kk:Nat}
end
end Vl
end
section
set_option Elab.async false
set_option linter.all false
set_option maxRecDepth 100000
set_option maxHeartbeats 1000000
namespace HT
open PySem PySem.Spec PyProof.Rows L2
section
variable {prog:Program} {w:World} {A:Around} {E:Value→Shared→Prop} {s:Shared}
end
end HT
namespace Vl
open PySem L2 Vm PyProof.Rows
section
variable {X:Cx}
end
section
variable {C:Cn} {cm:Bool} {k:Nat} {N:List Str} {sc so:Scope} {a b c e o tg:Expr} {es:List Expr} {A B E:EX} {As:EXs} {T U:TX} {pos p tpos apos cpos p1 p2 p3 kpos:Pos} {X:Cx} {x:Str} {elts:List Expr} {kk:Nat}
structure CmpI (C:Cn) (cm:Bool) (k:Nat) (N:List Str) (sc:Scope) (op:CmpOp) (f:PV→PV→Res PV):Prop where
 x:∃ r,(∀ X,Sta C cm k N sc X→OpR X (compareOp op) r)∧Op2 C r f
 b:∀ p q z,f p q = .ok z→∃ b:Bool,z = .bl b
end
end Vl
end
section
set_option Elab.async false
set_option linter.all false
set_option maxRecDepth 100000
set_option maxHeartbeats 1000000
namespace Vl
open PySem L2 Vm PyProof.Rows
section
variable {C:Cn} {cm:Bool} {k:Nat} {N:List Str} {sc so:Scope} {a b c e o tg:Expr} {es:List Expr} {A B E:EX} {As:EXs} {T U:TX} {pos p tpos apos cpos p1 p2 p3 kpos:Pos} {X:Cx} {x:Str} {elts:List Expr} {kk:Nat}
theorem log2_leV{a b:Nat}(h:a≤b):a.log2≤b.log2:=by
 by_cases ha:a=0
 ·subst ha; rw [Nat.log2_zero]; exact Nat.zero_le _
 ·have hb:b ≠ 0:=by omega
  exact (Nat.le_log2 hb).mpr (Nat.le_trans (Nat.log2_self_le ha) h)
theorem natS_G(n:Nat)(h:(natS n).length≤16777216):strG (natS n)=true:=by
 unfold strG
 rw [Bool.and_eq_true,decide_eq_true_eq,List.all_eq_true]
 refine ⟨h,fun c hc=>?_⟩
 have:=TL.numL_digits n c hc
 exact decide_eq_true (by omega)
theorem digits_len:∀ n:Nat,(natS n).length≤n.log2+1:=fun n=>by
 induction n using Nat.strongRecOn with
 | _ n ih =>
  by_cases h:n < 10
  ·have:natS n=[48+n]:=TL.numL_lt h
   rw [this]; simp
  ·have e:natS n=natS (n / 10)++[48+n % 10]:=TL.numL_step (by omega)
   have h1:=ih (n / 10) (by omega)
   rw [e,List.length_append,List.length_singleton]
   have h2:(n / 10).log2+1≤n.log2:=by
    have h3:n / 10≤n / 2:=Nat.div_le_div_left (by omega) (by omega)
    have h4:(n / 10).log2≤(n / 2).log2:=log2_leV h3
    have h5:n.log2=(n / 2).log2+1:=by rw [Nat.log2_def,if_pos (by omega)]
    omega
   omega
theorem de_strF (ha:DE C cm k N sc a A) (mx:C.mg "str" = none) (hg:sc.names.lookup ("str":Str)=some .globalImplicit:=by rfl)
  (hst:∀ env:PySem.Env,starEach [a] env=(false,eval a env) :: starEach [] env:=by intro _; rfl):DE C cm k N sc (.Call (.Name "str" p) [a] [] pos) (eStr A) :=
 de_t1 (fun X S=>CallR.or call_str_int SkE.call_str_str) (fun W σ x v F H Hs Q hf ht rv h=>by
  have r:=rv.rep hf
  obtain ⟨t,q⟩:=x
  have fin:Ext F H F H:=Ext.refl hf ht
  cases q with
  | int i =>
   unfold Rep at r
   subst r
   cases i with
   | ofNat n =>
    unfold strV at h
    simp only at h
    by_cases hz:n.log2 < 1920
    ·rw [if_pos hz] at h
     refine .inl ⟨Int.ofNat n,rfl,by simpa using hz,?_⟩
     have e:(Str.ofString (toString (Int.ofNat n)))=tx (natS n):=SX.num_S n
     rw [e]
     refine h _ F H fin (.fz (rep_str (natS_G n ?_)))
     have:=digits_len n
     omega
    ·rw [if_neg hz] at h; exact h.elim
   | negSucc n=>exact h.elim
  | str l =>
   have r':=r
   unfold Rep at r
   obtain ⟨rfl,hg⟩:=r
   exact .inr ⟨_,rfl,h _ F H fin (.fz (rep_str hg))⟩
  | _=>exact h.elim) mx (by decide +kernel) (by decide) (by decide) ha hg hst
theorem de_intT (ha:DE C cm k N sc a A) (mx:C.mg "int" = none) (hg:sc.names.lookup ("int":Str)=some .globalImplicit:=by rfl)
  (hst:∀ env:PySem.Env,starEach [a] env=(false,eval a env) :: starEach [] env:=by intro _; rfl):DE C cm k N sc (.Call (.Name "int" p) [a] [] pos) (eIntT A) :=
 de_t1 (fun X S=>CallR.or call_int_str call_int1) (fun W σ x v F H Hs Q hf ht rv h=>by
  have r:=rv.rep hf
  obtain ⟨t,q⟩:=x
  have fin:Ext F H F H:=Ext.refl hf ht
  cases q with
  | int i=>unfold Rep at r; subst r; exact .inr (.inl ⟨i,rfl,h _ F H fin (.fz rep_int)⟩)
  | bl b=>unfold Rep at r; subst r; exact .inr (.inr ⟨b,rfl,h _ F H fin (.fz rep_int)⟩)
  | str l =>
   unfold Rep at r
   obtain ⟨rfl,hg⟩:=r
   unfold intTV at h
   simp only at h
   by_cases hz:l ≠ []∧l.all isFig∧l.length≤640
   ·rw [if_pos hz] at h
    have hd:l.all (fun c=>decide (48≤c) && decide (c≤57))=true:=by
     rw [List.all_eq_true]
     intro c hc
     have:=List.all_eq_true.mp hz.2.1 c hc
     unfold isFig at this
     rw [Bool.and_eq_true,Nat.ble_eq,Nat.ble_eq] at this
     rw [Bool.and_eq_true,decide_eq_true_eq,decide_eq_true_eq]
     exact this
    refine .inl ⟨_,_,rfl,SX.int_S hd hz.1 (by omega),by show (tx l).length≤640; rw [tx_len]; exact hz.2.2,?_⟩
    exact h _ F H fin (.fz rep_int)
   ·rw [if_neg hz] at h; exact h.elim
  | _=>exact h.elim) mx (by decide +kernel) (by decide) (by decide) ha hg hst
theorem partS_is(L Y:List Nat)(hY:0 < Y.length):∀ (S:List Nat) (i:Nat) (acc:List Nat),L.drop i=S→acc.reverse=L.take i →
  partS Y S acc=(match occA L Y 1 (S.length+1) i 0 with
   | j :: _=>[L.take j,Y,L.drop (j+Y.length)]
   | []=>[L,[],[]])
 | [],i,acc,hS,ha=>by
  have hp:¬ Y.isPrefixOf (L.drop i)=true:=by
   rw [hS]
   cases Y with
   | nil=>simp at hY
   | cons y Y=>simp
  unfold occA
  rw [if_neg fun z=>hp z.2]
  have:L.length≤i:=by simpa using hS
  rw [List.take_of_length_le this] at ha
  simp [occA,partS,ha]
 | c :: S,i,acc,hS,ha=>by
  have hS':L.drop (i+1)=S:=by rw [← List.drop_drop,hS]; rfl
  have hc:L[i]? = some c:=by
   have:=congrArg (·[0]?) hS
   simpa using this
  rw [List.length_cons]
  unfold occA partS
  rw [hS]
  by_cases hp:Y.isPrefixOf (c :: S)=true
  ·rw [if_pos hp,if_pos ⟨⟨by omega,by omega⟩,hp⟩]
   simp only
   rw [ha,← List.drop_drop,hS]
  ·rw [if_neg hp,if_neg fun z=>hp z.2]
   exact partS_is L Y hY S (i+1) (c :: acc) hS' (by rw [List.reverse_cons,ha,List.take_succ,hc]; rfl)
theorem partition_is(s Y:List Nat)(hY:0 < Y.length):[(Txt.partition (tx s) (tx Y)).1.cps.toList,(Txt.partition (tx s) (tx Y)).2.1.cps.toList,(Txt.partition (tx s) (tx Y)).2.2.cps.toList]=partS Y s []:=by
 rw [partS_is s Y hY s 0 [] (by simp) (by simp)]
 unfold Txt.partition
 rw [occ_is,tx_len]
 have e1:(tx s).cps.toList=s:=rfl
 have e2:(tx Y).cps.toList=Y:=rfl
 rw [e1,e2]
 cases occA s Y 1 (s.length+1) 0 0 with
 | nil=>simp [tx,Str.empty]
 | cons j r =>
  simp only
  rw [PySem.StrLaws.strSub_toList,PySem.StrLaws.strSub_toList,tx_len,e1,e2]
  simp
  exact List.take_of_length_le (by rw [List.length_drop]; omega)
theorem partS_mem(Y:List Nat):∀ (S acc:List Nat),∀ p∈partS Y S acc,(p=Y ∨ p.length≤acc.length+S.length)∧∀ c∈p,c∈acc ∨ c∈S ∨ c∈Y
 | [],acc,p,hp=>by
  simp [partS] at hp
  rcases hp with rfl | rfl
  ·exact ⟨.inr (by simp),fun c hc=>.inl (by simpa using hc)⟩
  ·exact ⟨.inr (by simp),fun c hc=>by cases hc⟩
 | d :: S,acc,p,hp=>by
  unfold partS at hp
  split at hp
  ·simp only [List.mem_cons,List.not_mem_nil,or_false] at hp
   rcases hp with rfl | rfl | rfl
   ·exact ⟨.inr (by simp),fun c hc=>.inl (by simpa using hc)⟩
   ·exact ⟨.inl rfl,fun c hc=>.inr (.inr hc)⟩
   ·refine ⟨.inr (by rw [List.length_drop]; omega),fun c hc=>.inr (.inl (List.mem_of_mem_drop hc))⟩
  ·obtain ⟨h1,h2⟩:=partS_mem Y S (d :: acc) p hp
   refine ⟨h1.imp id fun z=>by simp at z ⊢; omega,fun c hc=>?_⟩
   rcases h2 c hc with z | z | z
   ·rcases List.mem_cons.mp z with rfl | z
    ·exact .inr (.inl (by simp))
    ·exact .inl z
   ·exact .inr (.inl (List.mem_cons_of_mem _ z))
   ·exact .inr (.inr z)
theorem de_partition (ho:DE C cm k N sc o A) (he:DE C cm k N sc e B) (hs:∀ env:PySem.Env,starEach [e] env=[(false,eval e env)]:=by intro _; rfl) (hbase:∀ env:PySem.Env,attributeBase o "partition" env (eval o env)=eval o env:=by intro _; rfl)
  (hline:(apos.endLine == pos.line)=true:=by rfl):DE C cm k N sc (.Call (.Attribute o "partition" apos) [e] [] pos) (eTxt partV A B) :=
 de_txt (fun X S ta tb pa pb=>pe_partitionD pa pb (hs _) (hbase _) hline) (fun W σ s y u F H Hs Q hf ht hg r2 hsh h=>by
  have r:=r2.rep hf
  obtain ⟨t',q'⟩:=y
  cases q' with
  | str Y =>
   unfold Rep at r
   obtain ⟨rfl,hg2⟩:=r
   cases Y with
   | nil=>exact h.elim
   | cons c Y =>
    unfold partV at h
    simp only at h
    by_cases hz:s.length≤16777216
    ·rw [if_pos hz] at h
     refine ⟨tx s,tx (c :: Y),rfl,rfl,by rw [tx_len]; rfl,by rw [tx_len,← szL_eq]; exact hz,fun p o hp hd=>?_⟩
     have key:=partition_is s (c :: Y) (by simp)
     have all:∀ w∈partS (c :: Y) s [],strG w=true:=fun w hw=>by
      obtain ⟨h1,h2⟩:=partS_mem (c :: Y) s [] w hw
      have gs:=hg
      have gy:=hg2
      unfold strG at gs gy ⊢
      rw [Bool.and_eq_true,decide_eq_true_eq,List.all_eq_true] at gs gy ⊢
      refine ⟨?_,fun d hd=>?_⟩
      ·rcases h1 with rfl | h1
       ·exact gy.1
       ·simp at h1; omega
      ·rcases h2 d hd with z | z | z
       ·cases z
       ·exact gs.2 d z
       ·exact gy.2 d z
     have rl:RepL C.K F ((partS (c :: Y) s []).map PV.str) [.str (Txt.partition (tx s) (tx (c :: Y))).1,.str (Txt.partition (tx s) (tx (c :: Y))).2.1,.str (Txt.partition (tx s) (tx (c :: Y))).2.2]:=by
      have:=repL_strs (K:=C.K) (F:=F) all
      rw [← key] at this ⊢
      simpa [tx_back] using this
     obtain ⟨F2,e2,rv⟩:=new_tup hd hf ht rl hp
     exact h _ F2 _ e2 (rv _)
    ·rw [if_neg hz] at h; exact h.elim
  | _=>exact h.elim) ho he
end
end Vl
end
section
set_option Elab.async false
set_option linter.all false
set_option maxRecDepth 100000
set_option maxHeartbeats 1000000
namespace L2
open PySem PySem.Spec PyProof.Rows
theorem tuple_mulS(l:Addr)(items:Array Value)(n:Nat)(dd:Option Addr)(sl:Array (Option Value))(x:Int)(u:Tok)(c0:(decide (x < -(2 ^ 63)) || decide (x ≥ 2 ^ 63))=false)(c1:(items.isEmpty || x == 1)=true) :
  Meets (Builtin.«tuple.__mul__» ⟨[.ref l,.int x u],[]⟩) (fun _ R s=>s.heap.get? l=some { cls:=.type "tuple",dict:=dd,data:=.seq items n,slots:=sl }∧R (.ok (.ret (Value.ref l))) s) :=
 .of_wp fun prog w A R s h=>by
  obtain ⟨hp,g,d,tk,os⟩:=s
  obtain ⟨hl,h⟩:=h
  have f1:=AutoSeq1.idx_int
  wp_walk using wpAny_loadPart' hl
  repeat (first
   | (refine wpAny_ite_false (decide_eq_false (by rw [c0]; exact Bool.false_ne_true)) ?_; wp_walk using wpAny_loadPart' hl)
   | (refine wpAny_ite_true (decide_eq_true c1) ?_; wp_walk using wpAny_loadPart' hl))
  exact ⟨_,rfl,h⟩
theorem tuple_mulZ(l:Addr)(items:Array Value)(n:Nat)(dd:Option Addr)(sl:Array (Option Value))(x:Int)(u:Tok)(c0:(decide (x < -(2 ^ 63)) || decide (x ≥ 2 ^ 63))=false)(c1:(items.isEmpty || x == 1)=false)(c2:(decide (x≤0) || items.isEmpty)=true) :
  Meets (Builtin.«tuple.__mul__» ⟨[.ref l,.int x u],[]⟩) (fun _ R s=>s.heap.get? l=some { cls:=.type "tuple",dict:=dd,data:=.seq items n,slots:=sl } ∧
   R (.ok (.ret (Value.ref s.heap.objs.size))) { s with heap:=s.heap.push { cls:=Value.type "tuple",data:=Data.seq #[] },toks:=s.toks }) :=
 .of_wp fun prog w A R s h=>by
  obtain ⟨hp,g,d,tk,os⟩:=s
  obtain ⟨hl,h⟩:=h
  have f1:=AutoSeq1.idx_int
  wp_walk using wpAny_loadPart' hl
  repeat (first
   | (refine wpAny_ite_false (decide_eq_false (by rw [c0]; exact Bool.false_ne_true)) ?_; wp_walk using wpAny_loadPart' hl)
   | (refine wpAny_ite_false (decide_eq_false (by rw [c1]; exact Bool.false_ne_true)) ?_; wp_walk using wpAny_loadPart' hl)
   | (refine wpAny_ite_true (decide_eq_true c2) ?_; wp_walk using wpAny_loadPart' hl))
  exact ⟨_,rfl,h⟩
section
variable {X:Cx}
def rMulT(K:PySem.W.Frag):R2:=fun x y H Q=>∃ l k xs,x = .ref l∧y = .int k∧SqT K H l xs∧-1000≤k∧k≤1000∧xs.length≤1000∧(xs=[] ∨ k=1→Q (.ref l) H)∧(xs ≠ []→k ≠ 1→NewT (List.replicate k.toNat xs).flatten H Q)
theorem op_mulT:OpR X (binaryOp .Mult) (rMulT X.K):=by
 intro pins s σ H x y v u Q I rx ry h
 obtain ⟨l,k,xs,rfl,rfl,hT,h0,h2,hz,q0,q⟩:=h
 by_cases hsame:xs=[] ∨ k=1
 ·cases rx
  obtain ⟨t,rfl⟩:=ry
  obtain ⟨its,r,⟨⟨cls,dd,data,sl⟩,ho,hc,n,hd⟩,hs⟩:=I.tuple hT
  simp only at hc hd
  subst hc hd
  have c0:(decide (k < -(2 ^ 63)) || decide (k ≥ 2 ^ 63))=false:=by
   rw [decide_eq_false (by omega),decide_eq_false (by omega)] <;> rfl
  have c1:(its.toArray.isEmpty || k == 1)=true:=by
   rcases hsame with e | e
   ·have:its=[]:=by
     have:=r.length
     rw [e] at this
     exact List.eq_nil_of_length_eq_zero this.symm
    subst this; rfl
   ·rw [e]; simp
  exact wpAny_binaryOp_repeat_ref (T:="tuple") (U:="int") (by decide) ⟨_,ho,rfl⟩ (fun s'=>typeIs_int s' k t) noFill_tuple_mul F.fills_int_mul F.slot_int_rmul repeat_tuple F.slot_int_index.lookup
   (call_meets F.slot_int_rmul (typeIs_int s k t) F.entry_int_rmul (F.args_int_rmul_2 _ _) (int_rmul_tuple k t l its.toArray n dd sl)
    ⟨ho,rfl,⟨_,ho,rfl⟩,call_meets F.slot_tuple_mul ⟨_,ho,rfl⟩ F.entry_tuple_mul (F.args_tuple_mul_2 _ _) (tuple_mulS l its.toArray n dd sl k t c0 c1) ⟨ho,.ref l,H,I,rfl,q0 hsame⟩⟩)
 ·have hne:xs ≠ []:=fun e=>hsame (.inl e)
  have hk1:k ≠ 1:=fun e=>hsame (.inr e)
  by_cases h1:2≤k
  ·exact op_repD pins s σ H _ _ v u Q I rx ry ⟨l,k,xs,rfl,rfl,hT,hne,h1,h2,hz,q hne hk1⟩
  ·cases rx
   obtain ⟨t,rfl⟩:=ry
   obtain ⟨its,r,⟨⟨cls,dd,data,sl⟩,ho,hc,n,hd⟩,hs⟩:=I.tuple hT
   simp only at hc hd
   subst hc hd
   have hn:its ≠ []:=fun e=>hne (by
    have:=r.length
    rw [e] at this
    exact List.eq_nil_of_length_eq_zero this)
   have hi:its.toArray.isEmpty=false:=by
    cases its with
    | nil=>exact absurd rfl hn
    | cons a b=>rfl
   have c0:(decide (k < -(2 ^ 63)) || decide (k ≥ 2 ^ 63))=false:=by
    rw [decide_eq_false (by omega),decide_eq_false (by omega)] <;> rfl
   have c1:(its.toArray.isEmpty || k == 1)=false:=by
    rw [hi,Bool.false_or]
    exact beq_eq_false_iff_ne.mpr (by omega)
   have c2:(decide (k≤0) || its.toArray.isEmpty)=true:=by
    rw [decide_eq_true (by omega)]; rfl
   have hq:=q hne hk1
   rw [show k.toNat=0 by omega,List.replicate_zero,List.flatten_nil] at hq
   refine wpAny_binaryOp_repeat_ref (T:="tuple") (U:="int") (by decide) ⟨_,ho,rfl⟩ (fun s'=>typeIs_int s' k t) noFill_tuple_mul F.fills_int_mul F.slot_int_rmul repeat_tuple F.slot_int_index.lookup
    (call_meets F.slot_int_rmul (typeIs_int s k t) F.entry_int_rmul (F.args_int_rmul_2 _ _) (int_rmul_tuple k t l its.toArray n dd sl)
     ⟨ho,rfl,⟨_,ho,rfl⟩,call_meets F.slot_tuple_mul ⟨_,ho,rfl⟩ F.entry_tuple_mul (F.args_tuple_mul_2 _ _) (tuple_mulZ l its.toArray n dd sl k t c0 c1 c2) ⟨ho,?_⟩⟩)
   exact newD (its:=[]) s.toks I (Nat.zero_le _) .nil hq
def rMulL(K:PySem.W.Frag):R2:=fun x y H Q=>∃ l k xs,x = .ref l∧y = .int k∧SqL K H l xs∧-(2 ^ 63)≤k∧k < 2 ^ 63∧xs.length * k.toNat≤sizeLine ∧
 ∀ p,H p=none→Q (.ref p) (upd H p (.lst (List.replicate k.toNat xs).flatten))
theorem op_mulL:OpR X (binaryOp .Mult) (rMulL X.K):=by
 intro pins s σ H x y v u Q I rx ry h
 obtain ⟨l,k,xs,rfl,rfl,hH,h1,h2,hz,q⟩:=h
 cases rx
 obtain ⟨t,rfl⟩:=ry
 obtain ⟨its,r,⟨⟨cls,dd,data,sl⟩,n,e,hc,hd1,hd⟩,hl⟩:=I.list hH
 simp only at hc hd
 subst hc hd
 have hlx:xs.length=its.length:=r.length
 have hlen:its.toArray.size * k.toNat≤sizeLine:=by rw [List.size_toArray,← hlx]; exact hz
 have hcap:¬ its.toArray.size * k.toNat > (2 ^ 63 - 1) / 8:=by
  have:(sizeLine:Nat)≤(2 ^ 63 - 1) / 8:=by decide
  omega
 have hfit:¬ (!Builtin.List.listFitsIndex k)=true:=by
  rw [fitsIndex_both h1 h2]
  exact Bool.false_ne_true
 have hlong:¬ Builtin.List.listTooLong (its.toArray.size * k.toNat)=true:=by
  rw [notLongL hlen]
  exact Bool.false_ne_true
 have hnew:List.foldl (fun x1 x2=>x1++x2) #[] (List.replicate (if its.toArray.isEmpty=true then 0 else k.toNat) its.toArray)=(List.replicate k.toNat its).flatten.toArray:=by
  have f0:∀ m:Nat,List.foldl (fun x1 x2=>x1++x2) #[] (List.replicate m its.toArray)=(List.replicate m its).flatten.toArray:=fun m=>by
   have:=foldl_rep its m []
   rw [List.nil_append] at this
   exact this
  rw [f0]
  cases its with
  | nil=>simp
  | cons a r'=>rw [if_neg (by simp)]
 refine wpAny_binaryOp_repeat_ref (T:="list") (U:="int") (by decide) ⟨_,e,rfl⟩ (fun s'=>typeIs_int s' k t) noFill_list_mul F.fills_int_mul F.slot_int_rmul repeat_list F.slot_int_index.lookup
  (call_meets F.slot_int_rmul (typeIs_int s k t) F.entry_int_rmul (F.args_int_rmul_2 _ _) (lm_int_rmul_list_any k t l its.toArray n dd sl)
   ⟨e,rfl,⟨_,e,rfl⟩,call_meets F.slot_list_mul ⟨_,e,rfl⟩ F.entry_list_mul (F.args_list_mul_2 _ _) (lm_list_mul_any l its.toArray n dd sl k t hfit hcap hlong) ⟨e,?_⟩⟩)
 rw [hnew]
 exact ⟨.ref _,_,I.lnew (t':=s.toks) (r.rep k.toNat) (by rw [PyProof.Rows.lm_len_rep_flat,Nat.mul_comm]; exact hz),rfl,q _ I.fresh⟩
end
end L2
namespace Vl
open PySem L2 Vm PyProof.Rows
section
variable {C:Cn} {cm:Bool} {k:Nat} {N:List Str} {sc:Scope} {a b:Expr} {A B:EX} {pos:Pos} {X:Cx}
theorem de_mul2(ha:DE C cm k N sc a A)(hb:DE C cm k N sc b B):DE C cm k N sc (.BinOp a .Mult b pos) (eMul2 A B):=by
 obtain ⟨ta,pa,qa⟩:=ha
 obtain ⟨tb,pb,qb⟩:=hb
 refine ⟨fun W=>tOp (fun x y H Q=>rMulL C.K x y H Q ∨ rMulT C.K x y H Q ∨ rI (fun i j=>mulOk i j=true) (fun i j=>.int (i * j)) x y H Q) (ta W) (tb W),fun X S W T=>by rw [← S.K]; exact pe_op (op_mulL.or (op_mulT.or op_mulV)) (pa X S W T) (pb X S W T),fun W σ Γ F0 H0 F H Q g h=>?_⟩
 refine qa W σ Γ F0 H0 F H _ g (EOk.bind h fun x v F1 H1 ex e1 r1 h1=>?_)
 refine qb W σ Γ F0 H0 F1 H1 _ (g.next e1) (EOk.bind (h1.next e1) fun y u F2 H2 ey e2 r2 h2=>?_)
 have h3:=h2.next e2
 have rx:=r1.ext e2
 have ex':=rx.rep e2.fh
 have ey':=r2.rep e2.fh
 obtain ⟨t,p⟩:=x
 obtain ⟨t',q⟩:=y
 have fin:Ext F2 H2 F2 H2:=Ext.refl e2.fh e2.tp
 cases q with
 | int j =>
  unfold Rep at ey'
  subst ey'
  cases p with
  | int i =>
   unfold Rep at ex'
   subst ex'
   have h4:EOk C W σ F2 H2 Q ((if mulOk i j then .ok (.int (i * j)) else .bad:Res PV).bind fzv):=h3
   by_cases hm:mulOk i j=true
   ·rw [if_pos hm] at h4
    exact .inr (.inr ⟨i,j,rfl,rfl,hm,h4 _ F2 H2 fin (.fz rep_int)⟩)
   ·rw [if_neg hm] at h4; exact h4.elim
  | lst l =>
   have h4:EOk C W σ F2 H2 Q (if flat1 t && repOk l.length j then .ok (.ow 1,.lst (List.replicate j.toNat l).flatten) else .bad):=h3
   by_cases hc:(flat1 t && repOk l.length j)=true
   ·rw [if_pos hc] at h4
    rw [Bool.and_eq_true] at hc
    have hc2:=repOk_iff.mp hc.2
    obtain ⟨ad,vs,rfl,s5,r3⟩:=rv_flat e2.fh rx hc.1
    refine .inl ⟨_,j,vs,rfl,rfl,s5,by omega,by omega,by rw [r3.len,← szL_eq]; exact hc2.2.2,fun p hp=>?_⟩
    exact h4 _ F2 _ (Ext.lst e2.fh e2.tp hp) (rv_new (rep_flat r3 j.toNat) upd_same (e2.fh.free hp) hp)
   ·rw [if_neg hc] at h4; exact h4.elim
  | tup l =>
   have h4:EOk C W σ F2 H2 Q (if repT l.length j then .ok (.fz,.tup (List.replicate j.toNat l).flatten) else .bad):=h3
   by_cases hc:repT l.length j=true
   ·rw [if_pos hc] at h4
    unfold repT at hc
    rw [Bool.and_eq_true,Bool.and_eq_true,decide_eq_true_iff,decide_eq_true_iff,decide_eq_true_iff] at hc
    obtain ⟨ad,vs,rfl,s2,r3⟩:=rv_tup rx
    refine .inr (.inl ⟨ad,j,vs,rfl,rfl,(TupAt.sq (TupAt.mono e2.fh s2)),hc.1.2,hc.1.1,by rw [r3.len]; exact hc.2,fun z=>?_,fun _ _ p o hp hd=>?_⟩)
    ·have e:(List.replicate j.toNat l).flatten=l:=by
      rcases z with z | z
      ·subst z
       have hl:l=[]:=List.eq_nil_of_length_eq_zero (by have:=r3.len; simpa using this.symm)
       subst hl
       simp
      ·subst z; simp
     rw [e] at h4
     refine h4 _ F2 H2 fin (.fz ?_)
     unfold Rep
     exact ⟨ad,vs,rfl,s2,r3⟩
    ·refine h4 _ (upd F2 p (tq (o,(List.replicate j.toNat vs).flatten))) _ (Ext.tup e2.fh e2.tp hp) (.fz ?_)
     unfold Rep
     exact ⟨p,_,rfl,.new hd,(rep_flat r3 j.toNat).mono (same_new (e2.fh.free hp)) _ _⟩
   ·rw [if_neg hc] at h4; exact h4.elim
  | _=>exact h3.elim
 | _=>cases p <;> exact h3.elim
end
end Vl
end
section
set_option Elab.async false
set_option linter.all false
set_option maxRecDepth 100000
set_option maxHeartbeats 1000000
namespace Vl
open PySem L2 Vm PyProof.Rows
section
variable {C:Cn} {cm:Bool} {k:Nat} {N:List Str} {sc:Scope} {a b:Expr} {A B:EX} {pos:Pos} {X:Cx}
end
end Vl
end
section
set_option Elab.async false
set_option linter.all false
set_option maxRecDepth 100000
set_option maxHeartbeats 1000000
namespace Vl
open PySem L2 Vm PyProof.Rows
section
variable {C:Cn} {cm:Bool} {k:Nat} {N:List Str} {sc:Scope} {pos np pos':Pos} {X:Cx} {d e:ST} {body suite:List Stmt} {b₀:Stmt}
def Xs(C:Cn)(j:Nat)(cs:List (Nat×Bool)):Prop:=∃ ad:Addr,C.mg (xName j)=some (.ref ad)∧∀ c b,takesC cs c=some b→PySem.W.exmOne C.K (C.xc c) (.ref ad)=some b
theorem sta_tr{pn:List (Addr×Obj)}{xe:Value→Shared→Prop}(S:StaS C cm k N sc X)(hp:PassesOwn (model X.prog X.w) X.A X.env xe):StaS C cm k N sc (X.tr pn xe) :=
 ⟨⟨S.cn,S.n,S.s,S.nd,S.c,S.r,S.u⟩,hp,S.rq,S.sk,S.fr⟩
theorem sta_suite{a:Addr}{pn:List (Addr×Obj)}(S:StaS C cm k N sc X):StaS C false k N sc (X.suite a pn) :=
 ⟨⟨S.cn,S.n,S.s,S.nd,(fun h=>nomatch h),(fun h=>nomatch h),S.u⟩,PassesOwn.never,S.rq,S.sk,S.fr⟩
def XsA(C:Cn)(ad:Addr)(cs:List (Nat×Bool)):Prop:=∀ c b,takesC cs c=some b→PySem.W.exmOne C.K (C.xc c) (.ref ad)=some b
theorem XsA.nil{ad:Addr}:XsA C ad []:=fun c b h=>by cases h
theorem XsA.cons{ad a:Addr}{c:Nat}{b:Bool}{cs:List (Nat×Bool)}(hc:C.mg (xName c)=some (.ref a))(hx:PySem.W.exmOne C.K (.ref a) (.ref ad)=some b)(r:XsA C ad cs):XsA C ad ((c,b) :: cs):=fun c' b' h=>by
 unfold takesC at h
 by_cases e:c=c'
 ·subst e
  rw [List.find?_cons_of_pos (by simp)] at h
  cases h
  have e2:C.xc c = .ref a:=by show (C.mg (xName c)).getD .none=_; rw [hc]; rfl
  rw [e2]; exact hx
 ·rw [List.find?_cons_of_neg (by simpa using e)] at h
  exact r c' b' h
theorem Xs.of{ad:Addr}{j:Nat}{cs:List (Nat×Bool)}(h:C.mg (xName j)=some (.ref ad))(r:XsA C ad cs):Xs C j cs:=⟨ad,h,r⟩
end
end Vl
end
section
set_option linter.all false
set_option maxHeartbeats 1000000
namespace Vm
def isC(tab:List (Nat×Bool))(c:Nat):Bool:=((takesC tab c).getD false)
def isCs(tabs:List (List (Nat×Bool)))(c:Nat):Bool:=tabs.any fun t=>isC t c
@[simp] def eIsC (tab:List (Nat×Bool)) (c:Nat):EX:=fun _=>.ok (.fz,.bl (isC tab c))
@[simp] def eIsCs (tabs:List (List (Nat×Bool))) (c:Nat):EX:=fun _=>.ok (.fz,.bl (isCs tabs c))
@[simp] def dTryC (cs:List (Nat×Bool)) (i:Nat) (b:ST) (h:Nat→ST):ST:=fun Γ=>match b Γ with
 | .exc c Γ'=>match takesC cs c with
  | some true=>if Nat.ble (i+1) Γ'.length then match h c (Γ'.set i none) with
   | .nx Γ2=>.nx (Γ2.set i none)
   | _=>.bad
   else .bad
  | some false=>.exc c Γ'
  | none=>.bad
 | o=>o
@[simp] def dRetF (e:EX):ST:=fun Γ=>aft (e Γ) Γ fun x=>aft (putV x) Γ fun p=>.rt .fz p Γ
end Vm
end
section
set_option Elab.async false
set_option linter.all false
set_option maxRecDepth 100000
set_option maxHeartbeats 1000000
namespace Vl
open PySem L2 Vm PyProof.Rows
section
variable {C:Cn} {cm:Bool} {k i c:Nat} {N:List Str} {sc:Scope} {pos np pos' p p1 p2:Pos} {X:Cx} {d d':ST} {a b e:Expr} {es:List Expr} {A B:EX} {As:EXs} {st:Stmt} {sts:List Stmt}
def ExAt(C:Cn)(c:Nat)(X:Cx)(ad:Addr):Prop:=∃ oe,(ad,oe)∈X.pn∧Zc (C.xc c) none oe∧∃ vs,oe.data = .fields vs
variable (C k N sc) in
def DE2 (c i:Nat) (e:Expr) (E:EX):Prop:=∃ tb:Addr→WX→TE,(∀ X a,Sta C false k N sc X→ExAt C c X a→∀ W,Takes X W→PE X e (tb a W)) ∧
 ∀ a W σ Γ F0 H0 F H Q,Good C.K F0 H0 Γ σ F H→σ[i]? = some (some (.ref a))→EOk C W σ F H Q (E Γ)→tb a W σ H Q
variable (C k N sc) in
def DA2 (c i:Nat) (es:List Expr) (E:EXs):Prop:=∃ tb:Addr→WX→TA,(∀ X a,Sta C false k N sc X→ExAt C c X a→∀ W,Takes X W→PA X es (tb a W)) ∧
 ∀ a W σ Γ F0 H0 F H Q,Good C.K F0 H0 Γ σ F H→σ[i]? = some (some (.ref a))→AOk C W σ F H Q (E Γ)→tb a W σ H Q
def Ends.at(D:Ends)(i:Nat)(a:Addr):Ends:={ D with nx:=fun σ H=>σ[i]? = some (some (.ref a))→D.nx σ H }
variable (C k N sc) in
def DS2 (c i:Nat) (st:Stmt) (d:ST):Prop:=∃ tb:Addr→WX→TS,(∀ X a,StaS C false k N sc X→ExAt C c X a→∀ W,Takes X W→PS X st (tb a W)) ∧
 ∀ a W D σ Γ F0 H0 F H,GoodS C.K F0 H0 Γ σ F H→σ[i]? = some (some (.ref a))→OutOk C W F0 H0 (Ends.at D i a) (d Γ)→tb a W D σ H
variable (C k N sc) in
def DSs2 (c i:Nat) (st:List Stmt) (d:ST):Prop:=∃ tb:Addr→WX→TS,(∀ X a,StaS C false k N sc X→ExAt C c X a→∀ W,Takes X W→PSs X st (tb a W)) ∧
 ∀ a W D σ Γ F0 H0 F H,GoodS C.K F0 H0 Γ σ F H→σ[i]? = some (some (.ref a))→OutOk C W F0 H0 (Ends.at D i a) (d Γ)→tb a W D σ H
structure Iq (C:Cn) (y:Str) (tab:List (Nat×Bool)):Prop where
 ex:∃ (v:V) (u:Value),(C.mg y=some u ∨ (C.mg y=none∧bootBuiltins y=some u∧y ≠ "__name__"))∧RelV v u∧(∀ u',RelV v u'→u'=u) ∧
  ∀ c b,takesC tab c=some b→∃ D:Addr,C.xc c = .ref D∧ExcC C.K D∧PySem.W.kitOne C.K (.ref D) u=some b
theorem pe_nm {y:Str} {v:V} {u:Value} (hg:Gl X y) (h:X.mg y=some u ∨ (X.mg y=none∧bootBuiltins y=some u∧y ≠ "__name__")) (r:RelV v u) (hd:(y == ("__debug__":Str))=false):PE X (.Name y pos) (tC v):=by
 rcases h with h | ⟨h1,h2,h3⟩
 ·exact pe_glob hg h r hd
 ·exact pe_bltn hg h1 h2 r h3 hd
theorem isC_of{tab:List (Nat×Bool)}{b:Bool}(h:takesC tab c=some b):isC tab c=b:=by unfold isC; rw [h]; rfl
def tCl:List V→TA
 | []=>tNil
 | v :: r=>tCons (tC v) (tCl r)
theorem tCl_run:∀ (vs:List V) {σ:L2.St} {H:Hp} {Q:List V→Hp→Prop},Q vs H→tCl vs σ H Q
 | [],_,_,_,h=>h
 | v :: r,_,_,_,h=>tCl_run r (Q:=fun xs H2=>_) h
variable (C k N sc) in
def TCs (c:Nat) (es:List Expr) (tabs:List (List (Nat×Bool))):Prop:=∃ (vs:List V) (us:List Value),(∀ X,Sta C false k N sc X→PA X es (tCl vs))∧vs.length=tabs.length∧(∀ us',Vals vs us'→us'=us) ∧
 ∀ D,C.xc c = .ref D→PySem.W.kitAny C.K (.ref D) us=some (isCs tabs c)
theorem Iq.dd{y:Str}{tab:List (Nat×Bool)}(iq:Iq C y tab)(hc:(takesC tab c).isSome=true):∃ D,C.xc c = .ref D∧ExcC C.K D:=by
 obtain ⟨⟨v,u,hm,hr,hinj,hk⟩⟩:=iq
 obtain ⟨b,hb⟩:=Option.isSome_iff_exists.mp hc
 obtain ⟨D,hD,hE,hkit⟩:=hk c b hb
 exact ⟨D,hD,hE⟩
def IqA(C:Cn)(u:Value)(tab:List (Nat×Bool)):Prop:=∀ c b,takesC tab c=some b→∃ D:Addr,C.xc c = .ref D∧ExcC C.K D∧PySem.W.kitOne C.K (.ref D) u=some b
theorem IqA.nil{u:Value}:IqA C u []:=fun c b h=>by cases h
theorem IqA.cons{u:Value}{ad:Addr}{c:Nat}{b:Bool}{cs:List (Nat×Bool)}(hc:C.mg (xName c)=some (.ref ad))(hE:ExcC C.K ad)(hx:PySem.W.kitOne C.K (.ref ad) u=some b)(r:IqA C u cs):IqA C u ((c,b) :: cs):=fun c' b' h=>by
 unfold takesC at h
 by_cases e:c=c'
 ·subst e
  rw [List.find?_cons_of_pos (by simp)] at h
  cases h
  have e2:C.xc c = .ref ad:=by show (C.mg (xName c)).getD .none=_; rw [hc]; rfl
  exact ⟨ad,e2,hE,hx⟩
 ·rw [List.find?_cons_of_neg (by simpa using e)] at h
  exact r c' b' h
theorem Iq.ofC{y:Str}{tab:List (Nat×Bool)}{ad:Addr}(h:C.mg y=some (.ref ad))(r:IqA C (.ref ad) tab):Iq C y tab:=⟨.ref ad,.ref ad,.inl h,rfl,fun u' h=>by cases h; rfl,r⟩
theorem Iq.ofB {y:Str} {tab:List (Nat×Bool)} {t:String} (h:C.mg y=none) (hb:bootBuiltins y=some (.type t)) (hn:y ≠ "__name__") (r:IqA C (.type t) tab):Iq C y tab:=⟨.ty t,.type t,.inr ⟨h,hb,hn⟩,rfl,fun u' h=>by cases h; rfl,r⟩
theorem good_hold{K:KK}{F0 H0 F H:Hp}{Γ:En}{σ:L2.St}{v:Option V}(g:GoodS K F0 H0 Γ σ F H)(hi:Γ.get i=none):GoodS K F0 H0 Γ (σ.set i v) F H:=by
 obtain ⟨⟨e,l,fp,h1,h2⟩,nb⟩:=g
 refine ⟨⟨e,by rw [List.length_set]; exact l,fp,fun j x hj=>?_,h2⟩,nb⟩
 obtain ⟨u,h3,h4⟩:=h1 j x hj
 refine ⟨u,?_,h4⟩
 by_cases q:i=j
 ·subst q; rw [hi] at hj; cases hj
 ·rw [List.getElem?_set_ne q]; exact h3
theorem get_set_none(Γ:En)(i:Nat):En.get (Γ.set i none) i=none:=by
 rw [get_set]
 split
 ·rfl
 ·rename_i h
  unfold En.get
  by_cases q:i < Γ.length
  ·exact absurd ⟨rfl,q⟩ h
  ·simp [List.getD,List.getElem?_eq_none (Nat.le_of_not_lt q)]
theorem good_drop{F0 H0 F H:Hp}{Γ:En}{σ:L2.St}(g:GoodS C.K F0 H0 Γ σ F H):GoodS C.K F0 H0 (Γ.set i none) σ F H:=g.forget [i]
end
end Vl
end
section
set_option Elab.async false
set_option linter.all false
set_option maxRecDepth 100000
set_option maxHeartbeats 1000000
namespace Vl
open PySem L2 Vm PyProof.Rows
section
variable {C:Cn} {cm:Bool} {k:Nat} {N:List Str} {sc:Scope} {pos p1 p2:Pos} {X:Cx}
def rRepS(x:Str)(n:Nat)(z:Str):R2:=fun v u H Q=>v = .str x∧u = .int (n:Int)∧Q (.str z) H
theorem op_mulS{x z:Str}{n:Nat}(h1:2≤n)(h2:n≤1000)(hx:1≤x.length)(hx2:x.length≤1000)(hz:(⟨(List.replicate n x.cps).foldl (·++·) #[]⟩:Str)=z)(hl:Builtin.Str.tooLong (x.length * n)=false)(hs:∀ (Q:Value→Shared→Prop) (s:Shared),Q (.str z s.toks) { s with toks:=s.toks+1 }→(Made.str z).post Q s):OpR X (binaryOp .Mult) (rRepS x n z):=by
 intro pins s σ H v u v' u' Q I rv ru h
 obtain ⟨rfl,rfl,q⟩:=h
 obtain ⟨t,rfl⟩:=rv
 obtain ⟨t',rfl⟩:=ru
 refine P.mul_str ?_ (fun _ _=>?_) (fun _ _=>?_) ?_
 ·have a:¬ (n:Int) < -(2 ^ 63):=by omega
  have b:¬ (n:Int) ≥ 2 ^ 63:=by omega
  rw [decide_eq_false a,decide_eq_false b]; rfl
 ·have:(1000:Int)≤(2 ^ 63 - 1) / (n:Int):=by
   rw [Int.le_ediv_iff_mul_le (by omega)]
   have:(n:Int)≤1000:=by omega
   omega
  omega
 ·rw [Int.toNat_natCast]; exact hl
 ·rw [if_neg (by omega),if_neg (by simp; omega),Int.toNat_natCast,hz]
  exact hs _ _ ⟨.str z,H,I.tok _,⟨_,rfl⟩,q⟩
theorem de_strmul{x:Str}{n:Nat}{j1 j2}(l L:List Nat)(hx:x=⟨l.toArray⟩:=by rfl)(hL:strG L=true:=by rfl)(h1:2≤n:=by decide)(h2:n≤1000:=by decide)(hx1:1≤x.length:=by decide)(hx2:x.length≤1000:=by decide)(hz:(⟨(List.replicate n x.cps).foldl (·++·) #[]⟩:Str)=⟨L.toArray⟩:=by decide +kernel)(hl:Builtin.Str.tooLong (x.length * n)=false:=by decide +kernel)
  (hs:∀ (Q:Value→Shared→Prop) (s:Shared),Q (.str ⟨L.toArray⟩ s.toks) { s with toks:=s.toks+1 }→(Made.str ⟨L.toArray⟩).post Q s:=by exact fun Q s h=>⟨by decide +kernel,h⟩) :
  DE C cm k N sc (.BinOp (.Constant (.str x) j1 p1) .Mult (.Constant (.int (n:Int)) j2 p2) pos) (eC (.str L)):=by
 refine ⟨fun W=>tOp (rRepS x n ⟨L.toArray⟩) (tC (.str x)) (tC (.int n)),fun X S W T=>pe_op (op_mulS h1 h2 hx1 hx2 hz hl hs) pe_str pe_int,fun W σ Γ F0 H0 F H Q g h=>?_⟩
 exact ⟨rfl,rfl,h _ F H g.here (.fz (rep_str hL))⟩
end
end Vl
end
section
set_option linter.all false
set_option maxHeartbeats 1000000
namespace Vm
def dicAt(ks:List (List Nat))(ps:List PV)(s:List Nat):Option PV:=((ks.zip ps).find? fun kv=>decide (kv.1=s)).map (·.2)
@[simp] def dDispRet (i:Nat) (ks:List (List Nat)) (as:EXs) (b:EX):ST:=fun Γ=>if Nat.ble (i+1) Γ.length && (Γ.get i).isNone then aft (as Γ) Γ fun xs=>aft (putVs xs) Γ fun ps=>aft (b Γ) Γ fun y=>match y.2 with
 | .str s=>(match dicAt ks ps s with
  | some p=>.rt .fz p Γ
  | none=>.bad)
 | _=>.bad
 else .bad
end Vm
end
section
set_option Elab.async false
set_option linter.all false
set_option maxRecDepth 100000
set_option maxHeartbeats 1000000
namespace Vl
open PySem L2 Vm PyProof.Rows
section
variable {C:Cn} {cm:Bool} {k i:Nat} {N:List Str} {sc:Scope} {pos p1 p2 dpos apos spos rpos:Pos} {X:Cx} {e b:Expr} {A B:EX} {As:EXs}
theorem Ext.any{F H:Hp}(h:Same F H)(t:Tups F H){p:Addr}{o:HO}(ho:∀ xs,o ≠ tq xs)(hp:H p=none):Ext F H F (upd H p o) :=
 ⟨Same.refl _,same_new hp,h.trans (same_new hp),tups_new t ho (h.free hp),fun _ q=>.inl q⟩
variable (C cm k N sc dpos) in
def DP (keys:List (Option Expr)) (values:List Expr) (ks:List Str) (As:EXs):Prop:=∃ tb:WX→List (TE×TE),(∀ X,Sta C cm k N sc X→∀ W,Takes X W→PPs X dpos keys values (tb W)) ∧
 ∀ W σ Γ F0 H0 F H (Q:List (V×V)→Hp→Prop),Good C.K F0 H0 Γ σ F H→AOk C W σ F H (fun vs H'=>vs.length=ks.length→Q ((ks.map V.str).zip vs) H') (As Γ)→tPairs (tb W) σ H Q
end
end Vl
end
section
set_option linter.all false
set_option maxHeartbeats 1000000
namespace Vm
def tgEq:Tg→Tg→Bool
 | .fz,.fz=>true
 | .ow a,.ow b=>a == b
 | .bw a,.bw b=>a == b
 | _,_=>false
@[simp] def isOw:Tg→Bool
 | .ow _=>true
 | _=>false
def takeA(Γ:En):List (Nat×Tg)→Option (List PV)
 | []=>some []
 | (j,t) :: r=>match Γ.get j with
  | some (t',p)=>if tgEq t' t then (takeA Γ r).map (p :: ·) else none
  | none=>none
def putA(Γ:En):List (Nat×Tg)→List PV→En
 | (j,.ow d) :: r,p :: ps=>putA (Γ.set j (some (.ow d,p))) r ps
 | (_,_) :: r,_ :: ps=>putA Γ r ps
 | _,_=>Γ
def startM(ts:List Tg)(ps:List PV):En:=(ts.zip ps).map some
abbrev FM:=List PV→Res (List PV)
end Vm
end
section
set_option Elab.async false
set_option linter.all false
set_option maxRecDepth 100000
set_option maxHeartbeats 1000000
namespace Vl
open PySem L2 Vm PyProof.Rows
def OutK(C:Cn)(F0 H0:Hp)(D:Ends)(keep:List Nat)(σ0:L2.St):Out→Prop
 | .nx Γ=>∀ σ F H,GoodS C.K F0 H0 Γ σ F H→(∀ i∈keep,σ[i]? = σ0[i]?)→D.nx σ H
 | .bk Γ=>∀ σ F H,GoodS C.K F0 H0 Γ σ F H→(∀ i∈keep,σ[i]? = σ0[i]?)→D.bk σ H
 | .ct Γ=>∀ σ F H,GoodS C.K F0 H0 Γ σ F H→(∀ i∈keep,σ[i]? = σ0[i]?)→D.ct σ H
 | _=>False
section
variable {C:Cn} {cm:Bool} {k:Nat} {N:List Str} {sc so:Scope} {a b c e o tg:Expr} {es:List Expr} {A B:EX} {As:EXs} {T U:TX} {pos p tpos apos cpos p1:Pos} {X:Cx} {x:Str} {st:Stmt} {sts:List Stmt} {d d':ST} {keep:List Nat}
variable {F0 H0 F H F1 H1:Hp} {Γ:En} {σ:L2.St} {W:WX} {D:Ends}
theorem OutK.bind{f:TV→Out}{Q1:VK}{r:Res TV}(g:GoodS C.K F0 H0 Γ σ F H)(h:OutK C F0 H0 D keep σ (aft r Γ f))
  (q:∀ x v F1 H1,r = .ok x→Ext F H F1 H1→RV C.K F1 H1 H x v→OutK C F0 H0 D keep σ (f x)→Q1 v H1):EOk C W σ F H Q1 r:=by
 cases r with
 | ok x=>exact fun v F' H' e rv=>q x v F' H' rfl e rv h
 | exc c=>exact h.elim
 | bad=>exact h
theorem OutK.bindT{f:Bool→Out}{Q1:Bool→Hp→Prop}{r:Res Bool}(g:GoodS C.K F0 H0 Γ σ F H)(h:OutK C F0 H0 D keep σ (aft r Γ f))
  (q:∀ x F1 H1,r = .ok x→Ext F H F1 H1→OutK C F0 H0 D keep σ (f x)→Q1 x H1):TOk C W σ F H Q1 r:=by
 cases r with
 | ok x=>exact fun F' H' e=>q x F' H' rfl e h
 | exc c=>exact h.elim
 | bad=>exact h
end
def spM(C:Cn)(ts:List Tg)(f:FM):Sp:=fun vs H Q E=>∃ F H0 ps,ps.length=ts.length∧vs.length=ts.length∧GoodS C.K F H0 (startM ts ps) (vs.map some) F H∧match f ps with
 | .ok news=>∀ F' H',news.length=ts.length→GoodS C.K F H0 (startM ts news) (vs.map some) F' H'→Q .non H'
 | _=>False
structure CalM (C:Cn) (x:Str) (k:Nat) (ts:List Tg) (f:FM):Prop where
 ex:∃ ad fd ps,ps.length=ts.length∧FnOk C.P C.w C.K C.mg C.base (L2.CX C.P C.w) k ad fd ps (spM C ts f)∧PySem.W.keepIn C.K (.ref ad)=true∧Binds C.K fd ps []∧C.mg x=some (.ref ad)
section
variable {C:Cn} {k:Nat} {N:List Str} {sc:Scope} {st:Stmt}
end
end Vl
end
section
set_option Elab.async false
set_option linter.all false
set_option maxRecDepth 100000
set_option maxHeartbeats 1000000
namespace Vl
open PySem L2 Vm PyProof.Rows
section
variable {C:Cn} {cm:Bool} {k:Nat} {N:List Str} {sc:Scope} {e:Expr} {es:List Expr} {pos p p1 cpos:Pos} {X:Cx} {x:Str}
def tVs:List Nat→TA
 | []=>tNil
 | i :: r=>tCons (tVar i) (tVs r)
variable (C cm k N sc) in
def AN (es:List Expr) (is:List Nat):Prop:=∀ X,Sta C cm k N sc X→PA X es (tVs is)
end
end Vl
end
section
set_option linter.all false
set_option maxHeartbeats 1000000
namespace Vm
def lcGoO(Γ:En)(pat:Pat)(e:EX):List TV→Res (List PV)
 | []=>.ok []
 | x :: xs=>(bindP Γ x pat).bind fun Γ'=>(e Γ').bind fun y=>match y with
  | (.ow 1,p)=>(lcGoO Γ pat e xs).bind fun ps=>.ok (p :: ps)
  | _=>.bad
@[simp] def eLCO (own:List Nat) (it:IX) (pat:Pat) (e:EX):EX:=fun Γ=>(it Γ).bind fun xs =>
 (noExc (lcGoO (wipeE Γ own) pat e xs.2)).bind fun ps=>if ps.length≤16777216 then .ok (.ow 2,.lst ps) else .bad
@[simp] def partL (l:List PV) (y:PV):Option (Nat×List PV):=match y with
 | .int k=>match vIxN l.length k with
  | some n=>match l[n]? with
   | some (.lst m)=>some (n,m)
   | _=>none
  | none=>none
 | _=>none
@[simp] def dApp2 (i:Nat) (j e:EX):ST:=fun Γ=>match Γ.get i with
 | some (.ow 2,.lst l)=>aft (j Γ) Γ fun y=>match partL l y.2 with
  | some (n,m)=>aft (e Γ) Γ fun x=>aft (putV x) Γ fun p=>if m.length < 16777216 then .nx (Γ.set i (some (.ow 2,.lst (l.set n (.lst (m++[p])))))) else .bad
  | none=>.bad
 | _=>.bad
@[simp] def dExt2 (i:Nat) (j e:EX):ST:=fun Γ=>match Γ.get i with
 | some (.ow 2,.lst l)=>aft (j Γ) Γ fun y=>match partL l y.2 with
  | some (n,m)=>aft (e Γ) Γ fun x=>match x.2 with
   | .lst q=>if flat1 x.1 && decide (m.length+q.length≤16777216) then .nx (Γ.set i (some (.ow 2,.lst (l.set n (.lst (m++q)))))) else .bad
   | .tup q=>if m.length+q.length≤16777216 then .nx (Γ.set i (some (.ow 2,.lst (l.set n (.lst (m++q)))))) else .bad
   | _=>.bad
  | none=>.bad
 | _=>.bad
@[simp] def dSetIx2 (i:Nat) (j k e:EX):ST:=fun Γ=>match Γ.get i with
 | some (.ow 2,.lst l)=>aft (e Γ) Γ fun x=>aft (j Γ) Γ fun y=>match partL l y.2 with
  | some (n,m)=>aft (k Γ) Γ fun z=>aft (putV x) Γ fun p=>match z.2 with
   | .int a=>match vIxN m.length a with
    | some b=>.nx (Γ.set i (some (.ow 2,.lst (l.set n (.lst (m.set b p))))))
    | none=>.bad
   | _=>.bad
  | none=>.bad
 | _=>.bad
end Vm
end
section
set_option Elab.async false
set_option linter.all false
set_option maxRecDepth 100000
set_option maxHeartbeats 1000000
namespace Vl
open PySem L2 Vm PyProof.Rows
section
variable {C:Cn} {F0 H0 F H F1 H1:Hp} {Γ:En} {σ:L2.St}
theorem good_chg{i:Nat}{d:Nat}{p:PV}(g:GoodS C.K F0 H0 Γ σ F H)(e:Γ.get i=some (.ow d,p)):∃ v fp,σ[i]? = some (some v)∧Own C.K F H d fp p v∧fp.Nodup∧(∀ a∈fp,F a=none∧H0 a=none) ∧
  ∀ {F2 H2 H3:Hp} {d':Nat} {p':PV} {fp':List Addr},Ext F H F2 H2→(∀ a,a ∉ fp→H3 a=H2 a)→(∀ a∈fp,∀ xs,H3 a ≠ some (tq xs))→Own C.K F2 H3 d' fp' p' v→fp'.Nodup→(∀ a∈fp',a∈fp ∨ (H a=none∧F2 a=none))→GoodS C.K F0 H0 (Γ.set i (some (.ow d',p'))) σ F2 H3:=by
 obtain ⟨fp,h1,h2⟩:=g.slots
 obtain ⟨v,hv,o,nd,fr⟩:=h1 i _ e
 have hi:i < Γ.length:=by
  cases Nat.lt_or_ge i Γ.length with
  | inl h=>exact h
  | inr h =>
   have:Γ.get i=none:=by unfold En.get; simp [List.getD,List.getElem?_eq_none h]
   rw [this] at e; cases e
 refine ⟨v,fp i,hv,o,nd,fr,fun {F2 H2 H3 d' p' fp'} e2 k1 k2 o' nd' sub=>?_⟩
 have hth:∀ a∈fp i,H a ≠ none:=fun a ha=>by obtain ⟨_,z,_⟩:=o.there d a ha; rw [z]; simp
 have f2n:∀ a∈fp i,F2 a=none:=fun a ha=>by
  cases q:F2 a with
  | none=>rfl
  | some o =>
   rcases e2.nw a (by rw [q]; simp) with z | z
   ·exact (z (fr a ha).1).elim
   ·exact (hth a ha z).elim
 refine ⟨⟨?_,by rw [List.length_set]; exact g.len,fun j=>if j=i then fp' else match Γ.get j with
  | some (.ow _,_)=>fp j
  | _=>[],fun j y hy=>?_,fun i' j a hij ha hb=>?_⟩,nb_set g.nb fun d p h=>by cases h⟩
 ·have ee:=g.ext.trans e2
  refine ⟨ee.ff,fun a o z=>?_,fun a o z=>?_,fun a xs z=>?_,ee.nw⟩
  ·rw [k1 a fun ha=>by rw [(fr a ha).2] at z; cases z]; exact ee.hh _ _ z
  ·rw [k1 a fun ha=>by rw [f2n a ha] at z; cases z]; exact ee.fh _ _ z
  ·by_cases ha:a∈fp i
   ·exact (k2 a ha xs z).elim
   ·rw [k1 a ha] at z; exact ee.tp _ _ z
 ·rw [get_set] at hy
  by_cases hj:j=i
  ·subst hj
   rw [if_pos ⟨rfl,hi⟩] at hy
   cases hy
   refine ⟨_,hv,?_⟩
   simp only [if_pos]
   refine ⟨o',nd',fun a ha=>?_⟩
   rcases sub a ha with z | ⟨z1,z2⟩
   ·exact ⟨f2n a z,(fr a z).2⟩
   ·exact ⟨z2,g.ext.hh.free z1⟩
  ·rw [if_neg fun z=>hj z.1] at hy
   obtain ⟨u,h6,h7⟩:=h1 j y hy
   refine ⟨u,h6,?_⟩
   simp only
   rw [if_neg hj,hy]
   have h8:=h7.ext e2
   obtain ⟨t,q⟩:=y
   cases t with
   | fz=>exact h8
   | bw d=>exact (g.nb j d q hy).elim
   | ow d =>
    obtain ⟨z1,z2,z3⟩:=h8
    exact ⟨Own.mono (Same.refl _) d z1 fun a ha=>k1 a fun z=>h2 i j a (Ne.symm hj) z ha,z2,z3⟩
 ·have old:∀ j',a∈(match Γ.get j' with | some (.ow _,_)=>fp j' | _=>[])→a∈fp j'∧H a ≠ none:=fun j' hm=>by
   cases q:Γ.get j' with
   | none=>rw [q] at hm; simp at hm
   | some y =>
    obtain ⟨t,pp⟩:=y
    rw [q] at hm
    cases t with
    | fz=>simp at hm
    | bw _=>simp at hm
    | ow dd =>
     obtain ⟨v',_,h4⟩:=h1 j' _ q
     refine ⟨hm,?_⟩
     obtain ⟨ws,z,_⟩:=h4.1.there dd a hm
     rw [z]; simp
  simp only at ha hb
  by_cases h1':i'=i
  ·rw [if_pos h1'] at ha
   rw [if_neg (fun z=>hij (h1'.trans z.symm))] at hb
   obtain ⟨o1,o2⟩:=old j hb
   rcases sub a ha with z | ⟨z,_⟩
   ·exact h2 i j a (fun z=>hij (h1'.trans z)) z o1
   ·exact o2 z
  ·rw [if_neg h1'] at ha
   by_cases h2':j=i
   ·rw [if_pos h2'] at hb
    obtain ⟨o1,o2⟩:=old i' ha
    rcases sub a hb with z | ⟨z,_⟩
    ·exact h2 i' i a h1' o1 z
    ·exact o2 z
   ·rw [if_neg h2'] at hb
    exact h2 i' j a hij (old i' ha).1 (old j hb).1
theorem ownl0_nil{K:KK}:∀ {fs:List (List Addr)} {ps:List PV} {vs:List V},OwnL (Own K F H 0) fs ps vs→fs.flatten=[]∧RepL K F ps vs
 | [],[],[],_=>⟨rfl,RepL.nil⟩
 | f :: fs,p :: ps,v :: vs,h=>by
  obtain ⟨a,b⟩:=ownl0_nil h.2
  exact ⟨by rw [List.flatten_cons,h.1.1,a]; rfl,RepL.cons h.1.2 b⟩
 | [],[],_ :: _,h=>h.elim
 | [],_ :: _,_,h=>h.elim
 | _ :: _,[],_,h=>h.elim
 | _ :: _,_ :: _,[],h=>h.elim
end
section
variable {C:Cn} {cm:Bool} {k:Nat} {N:List Str} {sc so:Scope} {a b c e o tg j:Expr} {es:List Expr} {A B J:EX} {pos p tpos apos cpos p1 p2:Pos} {X:Cx} {x:Str}
end
end Vl
end
section
set_option Elab.async false
set_option linter.all false
set_option maxRecDepth 100000
set_option maxHeartbeats 1000000
namespace Vl
open PySem L2 Vm PyProof.Rows
section
variable {C:Cn} {cm:Bool} {k:Nat} {N:List Str} {sc so:Scope} {a b c e tg:Expr} {es:List Expr} {A B:EX} {As:EXs} {T U:TX} {pos p:Pos} {X:Cx} {x:Str}
variable {elt iter:Expr} {ifs:List Expr} {scope:Scope} {own:List (Str×Nat)} {I:IX} {pat:Pat}
end
end Vl
end
section
set_option Elab.async false
set_option linter.all false
set_option maxRecDepth 100000
set_option maxHeartbeats 1000000
namespace Vl
open PySem L2 Vm PyProof.Rows
section
variable {C:Cn} {cm:Bool} {k:Nat} {N:List Str} {sc so:Scope} {a b c e o tg j:Expr} {es:List Expr} {A B J:EX} {pos p tpos apos cpos p1 p2:Pos} {X:Cx} {x:Str} {keep:List Nat} {d:ST}
theorem OutK.mono{F0 H0:Hp}{D:Ends}{σ σ':L2.St}{o:Out}(h:OutK C F0 H0 D keep σ o)(k:∀ i∈keep,σ'[i]? = σ[i]?):OutK C F0 H0 D keep σ' o:=by
 cases o with
 | nx Γ=>exact fun σ2 F H g q=>h σ2 F H g fun i hi=>(q i hi).trans (k i hi)
 | bk Γ=>exact fun σ2 F H g q=>h σ2 F H g fun i hi=>(q i hi).trans (k i hi)
 | ct Γ=>exact fun σ2 F H g q=>h σ2 F H g fun i hi=>(q i hi).trans (k i hi)
 | _=>exact h
end
end Vl
end
section
set_option linter.all false
set_option maxHeartbeats 1000000
namespace Vm
mutual
@[simp] def keyN:Nat→PV→Bool
 | _,.non=>true
 | _,.int _=>true
 | _,.str _=>true
 | n+1,.tup l=>keyNL n l
 | _,_=>false
@[simp] def keyNL:Nat→List PV→Bool
 | _,[]=>true
 | n,p :: ps=>keyN n p && keyNL n ps
end
@[simp] def keyL:PV→Bool
 | .non=>true
 | .int _=>true
 | .str _=>true
 | _=>false
@[simp] def keyT:PV→Bool
 | .tup l=>keyNL 7 l
 | _=>false
def sameK(p:PV)(ks:List PV):Bool:=(keyL p && ks.all keyL) || (keyT p && ks.all keyT)
def dIx:List PV→PV→Option Nat
 | [],_=>none
 | q :: ks,p=>if eqv q p then some 0 else (dIx ks p).map (· + 1)
def dPutK:List PV→PV→List PV
 | [],p=>[p]
 | q :: ks,p=>if eqv q p then q :: ks else q :: dPutK ks p
def dPutV{α:Type}:List PV→List α→PV→α→List α
 | q :: ks,v :: vs,p,x=>if eqv q p then x :: vs else v :: dPutV ks vs p x
 | _,_,_,x=>[x]
def dGet(ks l:List PV)(p:PV):Option PV:=(dIx ks p).bind fun j=>l[j]?
@[simp] def fzK:TV→Res PV
 | (.fz,p)=>.ok p
 | _=>.bad
@[simp] def eDic0 (d:Nat):EX:=fun _=>.ok (.ow d,.dic [] [])
@[simp] def eDic1 (tuple:Bool) (a b:EX):EX:=fun Γ=>(a Γ).bind fun x=>(b Γ).bind fun y=>(fzK x).bind fun p=>(putV y).bind fun q=>if (if tuple then keyT p else keyL p) then .ok (.ow 1,.dic [p] [q]) else .bad
@[simp] def dixV (o:TV) (p:PV):Res TV:=match o with
 | (t,.dic ks l)=>if sameK p ks then (match dGet ks l p with
  | some x=>.ok (dn t,x)
  | none=>.bad) else .bad
 | _=>.bad
@[simp] def eDIdx (a b:EX):EX:=fun Γ=>(a Γ).bind fun x=>(b Γ).bind fun y=>dixV x y.2
@[simp] def dinB (p q:PV):Res Bool:=match q with
 | .dic ks _=>if sameK p ks then .ok (dIx ks p).isSome else .bad
 | _=>.bad
@[simp] def opDIn (p q:PV):Res PV:=(dinB p q).bind fun b=>.ok (.bl b)
@[simp] def opDNotIn (p q:PV):Res PV:=(dinB p q).bind fun b=>.ok (.bl (!b))
@[simp] def eDLen (a:EX):EX:=fun Γ=>(a Γ).bind fun x=>match x.2 with
 | .dic ks _=>.ok (.fz,.int ks.length)
 | _=>.bad
@[simp] def dgetV (o:TV) (p:PV) (x:TV):Res TV:=match o with
 | (t,.dic ks l)=>if flat1 t && sameK p ks then (putV x).bind fun q=>.ok (.fz,(dGet ks l p).getD q) else .bad
 | _=>.bad
@[simp] def isDic:PV→Bool
 | .dic _ _=>true
 | _=>false
@[simp] def eDGet (a b c:EX):EX:=fun Γ=>(a Γ).bind fun x=>match isDic x.2 with
 | true=>(b Γ).bind fun y=>(c Γ).bind fun z=>dgetV x y.2 z
 | false=>.bad
@[simp] def dDPut (i:Nat) (k e:EX):ST:=fun Γ=>match Γ.get i with
 | some (.ow 1,.dic ks l)=>aft (e Γ) Γ fun x=>aft (k Γ) Γ fun y=>aft (putV x) Γ fun p=>aft (fzK y) Γ fun q =>
  if sameK q ks && decide (ks.length < 16777216) then .nx (Γ.set i (some (.ow 1,.dic (dPutK ks q) (dPutV ks l q p)))) else .bad
 | _=>.bad
@[simp] def setdD (ks l:List PV) (q:PV):List PV×List PV:=match dGet ks l q with
 | some _=>(ks,l)
 | none=>(dPutK ks q,dPutV ks l q (.lst []))
@[simp] def lstAtD (d:List PV×List PV) (q:PV):Option (Nat×List PV):=match dIx d.1 q with
 | some j=>(match d.2[j]? with
  | some (.lst m)=>some (j,m)
  | _=>none)
 | none=>none
@[simp] def dSetd (i:Nat) (k e:EX):ST:=fun Γ=>match Γ.get i with
 | some (.ow 2,.dic ks l)=>aft (k Γ) Γ fun y=>aft (fzK y) Γ fun q=>if keyL q && ks.all keyL && decide (ks.length < 16777216) then
  (match lstAtD (setdD ks l q) q with
   | some (j,m)=>aft (e (Γ.set i none)) (Γ.set i none) fun x=>aft (putV x) Γ fun p=>if m.length < 16777216 then .nx (Γ.set i (some (.ow 2,.dic (setdD ks l q).1 ((setdD ks l q).2.set j (.lst (m++[p])))))) else .bad
   | none=>.bad)
  else .bad
 | _=>.bad
@[simp] def jItems (a:EX):IX:=fun Γ=>(a Γ).bind fun x=>match x with
 | (.fz,.dic ks l)=>.ok (true,(ks.zip l).map fun kv=>(.fz,.tup [kv.1,kv.2]))
 | _=>.bad
@[simp] def jValues (a:EX):IX:=fun Γ=>(a Γ).bind fun x=>match x with
 | (.fz,.dic _ l)=>.ok (true,l.map fun v=>(.fz,v))
 | _=>.bad
@[simp] def jKeys (a:EX):IX:=fun Γ=>(a Γ).bind fun x=>match x with
 | (.fz,.dic ks _)=>.ok (true,ks.map fun k=>(.fz,k))
 | _=>.bad
end Vm
end
section
set_option Elab.async false
set_option linter.all false
set_option maxRecDepth 100000
set_option maxHeartbeats 1000000
namespace Vl
open PySem L2 Vm PyProof.Rows
section
variable {K:KK} {F H:Hp}
mutual
theorem rep_key:∀ (n:Nat) (p:PV) (v:V),keyN n p=true→Rep K F p v→KeyV F (nkOf p) v∧keyG p=true∧(nkOf p).depth≤n
 | n,.non,v,_,h=>by unfold Rep at h; subst h; exact ⟨by unfold nkOf KeyV; rfl,rfl,Nat.zero_le _⟩
 | n,.int i,v,_,h=>by unfold Rep at h; subst h; exact ⟨by unfold nkOf KeyV; rfl,rfl,Nat.zero_le _⟩
 | n,.str l,v,_,h=>by unfold Rep at h; obtain ⟨rfl,h2⟩:=h; exact ⟨by unfold nkOf KeyV; rfl,by unfold keyG; exact h2,Nat.zero_le _⟩
 | 0,.tup l,v,s,_=>by unfold keyN at s; cases s
 | n+1,.tup l,v,s,h=>by
  unfold keyN at s
  unfold Rep at h
  obtain ⟨a,vs,rfl,h2,h3⟩:=h
  obtain ⟨d1,d2,d3⟩:=rep_keys n l vs s h3
  exact ⟨by unfold nkOf KeyV; exact ⟨a,vs,rfl,h2,d1⟩,by unfold keyG; exact d2,by unfold nkOf NestedKey.depth; omega⟩
 | n,.bl _,v,s,_=>by unfold keyN at s; cases s
 | n,.lst _,v,s,_=>by unfold keyN at s; cases s
 | n,.dic _ _,v,s,_=>by unfold keyN at s; cases s
 | n,.exo _ _,v,s,_=>by unfold keyN at s; cases s
theorem rep_keys:∀ (n:Nat) (l:List PV) (vs:List V),keyNL n l=true→RepL K F l vs→KeyVs F (nkOfL l) vs∧keyGL l=true∧NestedKey.depthAll (nkOfL l)≤n
 | n,[],vs,_,h=>by unfold RepL at h; subst h; exact ⟨by unfold nkOfL KeyVs; rfl,rfl,Nat.zero_le _⟩
 | n,x :: xs,vs,s,h=>by
  unfold keyNL at s
  rw [Bool.and_eq_true] at s
  unfold RepL at h
  obtain ⟨v,r,rfl,h2,h3⟩:=h
  obtain ⟨a1,a2,a3⟩:=rep_key n x v s.1 h2
  obtain ⟨b1,b2,b3⟩:=rep_keys n xs r s.2 h3
  exact ⟨by unfold nkOfL KeyVs; exact ⟨v,r,rfl,a1,b1⟩,by unfold keyGL; rw [a2,b2]; rfl,by unfold nkOfL NestedKey.depthAll; omega⟩
end
mutual
theorem keyV_nested {P:Program} {w:World} {h:Heap} (ok:HOk P w H h):∀ (k:NestedKey) (v:V) (u:Value),KeyV H k v→RelV v u→NestedIs h k u
 | .none,v,u,g,r=>by unfold KeyV at g; subst g; cases r; exact .none
 | .num i,v,u,g,r=>by unfold KeyV at g; subst g; obtain ⟨t,rfl⟩:=r; exact .int _ _
 | .text x,v,u,g,r=>by unfold KeyV at g; subst g; obtain ⟨t,rfl⟩:=r; exact .text _ _
 | .tup ks,v,u,g,r=>by
  unfold KeyV at g
  obtain ⟨a,vs,rfl,⟨ob,_,h2⟩,h3⟩:=g
  cases r
  obtain ⟨_,_,its,rv,o,h4,h5,n,h6⟩:=(show ObjOk P w H h a (tq (ob,vs)) from ok a _ h2)
  exact .tup h4 h5 h6 (by simpa using keyVs_nested ok ks vs its h3 rv)
theorem keyVs_nested {P:Program} {w:World} {h:Heap} (ok:HOk P w H h):∀ (k:List NestedKey) (v:List V) (u:List Value),KeyVs H k v→Vals v u→NestedAll h k u
 | [],v,u,g,r=>by unfold KeyVs at g; subst g; cases r; exact .nil
 | k :: ks,v,u,g,r=>by
  unfold KeyVs at g
  obtain ⟨x,xs,rfl,h2,h3⟩:=g
  cases r with
  | cons r1 r2=>exact .cons (keyV_nested ok k x _ h2 r1) (keyVs_nested ok ks xs _ h3 r2)
end
end
mutual
theorem eqv_nk:∀ (n m:Nat) (p q:PV),keyN n p=true→keyN m q=true→(eqv p q=true ↔ nkOf p=nkOf q)
 | n,m,.non,q,_,h=>by cases q <;> simp [keyN] at h <;> simp [eqv,nkOf]
 | n,m,.int i,q,_,h=>by cases q <;> simp [keyN] at h <;> simp [eqv,nkOf]
 | n,m,.str b,q,_,h=>by cases q <;> simp [keyN] at h <;> simp [eqv,nkOf]
 | n,m,.tup l,q,s,h=>by
  cases n with
  | zero=>simp [keyN] at s
  | succ n =>
   cases q with
   | tup k =>
    cases m with
    | zero=>simp [keyN] at h
    | succ m =>
     unfold keyN at s h
     unfold eqv nkOf
     rw [eqvL_nk n m l k s h]
     exact ⟨fun z=>by rw [z],fun z=>by injection z⟩
   | non=>simp [eqv,nkOf]
   | int _=>simp [eqv,nkOf]
   | str _=>simp [eqv,nkOf]
   | _=>simp [keyN] at h
 | n,m,.bl _,q,s,_=>by simp [keyN] at s
 | n,m,.lst _,q,s,_=>by simp [keyN] at s
 | n,m,.dic _ _,q,s,_=>by simp [keyN] at s
 | n,m,.exo _ _,q,s,_=>by simp [keyN] at s
theorem eqvL_nk:∀ (n m:Nat) (p q:List PV),keyNL n p=true→keyNL m q=true→(eqvL p q=true ↔ nkOfL p=nkOfL q)
 | _,_,[],[],_,_=>by simp [eqvL]
 | _,_,[],_ :: _,_,_=>by simp [eqvL,nkOfL]
 | _,_,_ :: _,[],_,_=>by simp [eqvL,nkOfL]
 | n,m,x :: xs,y :: ys,s,h=>by
  unfold keyNL at s h
  rw [Bool.and_eq_true] at s h
  unfold eqvL nkOfL
  rw [Bool.and_eq_true,eqv_nk n m x y s.1 h.1,eqvL_nk n m xs ys s.2 h.2]
  exact ⟨fun z=>by rw [z.1,z.2],fun z=>by injection z with a b; exact ⟨a,b⟩⟩
end
theorem keyL_N{p:PV}(h:keyL p=true):keyN 8 p=true:=by cases p <;> simp [keyL] at h <;> simp [keyN]
theorem keyT_N{p:PV}(h:keyT p=true):keyN 8 p=true:=by cases p <;> simp [keyT] at h <;> simp [keyN,h]
theorem sameK_N{p:PV}{ks:List PV}(h:sameK p ks=true):keyN 8 p=true∧∀ q∈ks,keyN 8 q=true:=by
 unfold sameK at h
 rw [Bool.or_eq_true,Bool.and_eq_true,Bool.and_eq_true,List.all_eq_true,List.all_eq_true] at h
 rcases h with ⟨a,b⟩ | ⟨a,b⟩
 ·exact ⟨keyL_N a,fun q hq=>keyL_N (b q hq)⟩
 ·exact ⟨keyT_N a,fun q hq=>keyT_N (b q hq)⟩
section
variable {κ:Type} [DecidableEq κ] {f:κ→NestedKey}
theorem ix_val(inj:∀ a b,f a=f b→a=b){p:PV}{k:κ}(hp:nkOf p=f k)(h8:keyN 8 p=true):∀ {ks:List PV} {kvs:List (κ×V)},ks.map nkOf=kvs.map (fun q=>f q.1)→(∀ q∈ks,keyN 8 q=true)→valV kvs k=(dIx ks p).bind fun j=>(kvs.map (·.2))[j]?
 | [],[],_,_=>rfl
 | [],_ :: _,h,_=>by cases h
 | _ :: _,[],h,_=>by cases h
 | q :: ks,x :: kvs,h,g=>by
  rw [List.map_cons,List.map_cons] at h
  injection h with h1 h2
  have ih:=ix_val inj hp h8 h2 fun z hz=>g z (by simp [hz])
  have e:=eqv_nk 8 8 q p (g q (by simp)) h8
  unfold dIx
  by_cases hq:eqv q p=true
  ·rw [if_pos hq,valV_pos (inj _ _ (by rw [← h1,← hp]; exact e.mp hq))]; rfl
  ·rw [if_neg hq,valV_neg (fun z=>hq (e.mpr (by rw [h1,hp,z]))),ih]
   cases dIx ks p <;> rfl
theorem putK_cons{x:κ×V}{r:List (κ×V)}{k:κ}{v:V}(nd:((x :: r).map (·.1)).Nodup):putK (x :: r) k v=if x.1=k then (x.1,v) :: r else x :: putK r k v:=by
 unfold putK
 rw [List.any_cons,List.map_cons]
 by_cases h:x.1=k
 ·rw [if_pos h,decide_eq_true h,Bool.true_or,if_pos rfl,if_pos h]
  congr 1
  rw [List.map_cons,List.nodup_cons] at nd
  have:∀ y∈r,¬ y.1=k:=fun y hy z=>nd.1 (by rw [h,← z]; exact List.mem_map.mpr ⟨y,hy,rfl⟩)
  clear nd
  induction r with
  | nil=>rfl
  | cons y r ih=>rw [List.map_cons,if_neg (this y (by simp)),ih fun z hz=>this z (by simp [hz])]
 ·rw [if_neg h,decide_eq_false h,Bool.false_or,if_neg h]
  by_cases g:(r.any fun kv=>decide (kv.1=k))=true
  ·rw [if_pos g,if_pos g]
  ·rw [if_neg g,if_neg g]; rfl
theorem ix_put(inj:∀ a b,f a=f b→a=b){p:PV}{k:κ}(v:V)(hp:nkOf p=f k)(h8:keyN 8 p=true):∀ {ks:List PV} {kvs:List (κ×V)},ks.map nkOf=kvs.map (fun q=>f q.1)→(∀ q∈ks,keyN 8 q=true)→(kvs.map (·.1)).Nodup →
  (dPutK ks p).map nkOf=(putK kvs k v).map (fun q=>f q.1)∧(putK kvs k v).map (·.2)=dPutV ks (kvs.map (·.2)) p v
 | [],[],_,_,_=>⟨by simp [dPutK,putK,hp],by simp [dPutV,putK]⟩
 | [],_ :: _,h,_,_=>by cases h
 | _ :: _,[],h,_,_=>by cases h
 | q :: ks,x :: kvs,h,g,nd=>by
  rw [putK_cons nd]
  rw [List.map_cons,List.map_cons] at h
  injection h with h1 h2
  have nd':=nd
  rw [List.map_cons,List.nodup_cons] at nd'
  obtain ⟨ih1,ih2⟩:=ix_put inj v hp h8 h2 (fun z hz=>g z (by simp [hz])) nd'.2
  have e:=eqv_nk 8 8 q p (g q (by simp)) h8
  unfold dPutK
  rw [List.map_cons]
  unfold dPutV
  by_cases hq:eqv q p=true
  ·have hx:x.1=k:=inj _ _ (by rw [← h1,← hp]; exact e.mp hq)
   rw [if_pos hq,if_pos hx,if_pos hq,List.map_cons,List.map_cons,h1,h2,List.map_cons]
   exact ⟨rfl,rfl⟩
  ·have hx:¬ x.1=k:=fun z=>hq (e.mpr (by rw [h1,hp,z]))
   rw [if_neg hq,if_neg hx,if_neg hq,List.map_cons,List.map_cons,h1,ih1,List.map_cons,ih2]
   exact ⟨rfl,rfl⟩
end
theorem repL_put{K:KK}{F:Hp}{p:PV}{q:PV}{v:V}(g:Rep K F q v):∀ {ks l:List PV} {vs:List V},RepL K F l vs→RepL K F (dPutV ks l p q) (dPutV ks vs p v)
 | [],l,vs,_=>by unfold dPutV; exact RepL.cons g RepL.nil
 | _ :: _,[],vs,h=>by unfold RepL at h; subst h; unfold dPutV; exact RepL.cons g RepL.nil
 | k :: ks,x :: l,vs,h=>by
  unfold RepL at h
  obtain ⟨u,r,rfl,h1,h2⟩:=h
  unfold dPutV
  split
  ·exact RepL.cons g h2
  ·exact RepL.cons h1 (repL_put g h2)
theorem keyG_put{p:PV}(hp:keyG p=true):∀ {ks:List PV},ks.all keyG=true→(dPutK ks p).all keyG=true
 | [],_=>by simp [dPutK,hp]
 | k :: ks,h=>by
  rw [List.all_cons,Bool.and_eq_true] at h
  unfold dPutK
  split
  ·rw [List.all_cons,h.1,h.2]; rfl
  ·rw [List.all_cons,h.1,keyG_put hp h.2]; rfl
def leafOf:PV→Leaf
 | .int i=>.num i
 | .str l=>.text ⟨l.toArray⟩
 | _=>.none
theorem leafOf_key{p:PV}(h:keyL p=true):nkOf p=(leafOf p).key:=by cases p <;> simp [keyL] at h <;> rfl
theorem leaf_is{K:KK}{F:Hp}{p:PV}{v:V}{u:Value}(h:keyL p=true)(r:Rep K F p v)(rv:RelV v u):plIs (leafOf p) u=true:=by
 cases p <;> simp [keyL] at h <;> unfold Rep at r
 ·subst r; cases rv; rfl
 ·subst r; obtain ⟨t,rfl⟩:=rv; show (decide (_=_) && true)=true; simp
 ·obtain ⟨rfl,_⟩:=r; obtain ⟨t,rfl⟩:=rv; show (Leaf.isOf _ _ && true)=true; rw [Bool.and_true]; exact mixKind_str K.P K.w _ t
theorem toLeaf{K:KK}{F:Hp}{o:Obj}{ks:List PV}{vs:List V}(h:DicK K F o (ks.map nkOf) vs)(hk:ks.all keyL=true):LeafK K o (ks.map nkOf) vs:=by
 rcases h with h | ⟨kvs,xs,es,ep,h1,h2,h3,h4,h5,h6,h7,h8⟩
 ·exact h
 ·cases ks with
  | nil =>
   cases kvs with
   | nil =>
    cases h5
    refine ⟨[],[],es,ep,h1,h2,rfl,h4,.nil,fun e he=>?_,?_,List.nodup_nil,Nat.zero_le _⟩
    ·have:es = #[]:=by simpa using h6
     subst this; simp at he
    ·rw [h6]; exact .nil
   | cons _ _=>cases h3
  | cons k ks =>
   cases kvs with
   | nil=>cases h3
   | cons x kvs =>
    exfalso
    rw [List.map_cons,List.map_cons] at h3
    injection h3 with h3 _
    rw [List.all_cons,Bool.and_eq_true] at hk
    cases h5 with
    | cons r _ =>
     obtain ⟨_,kv,_⟩:=r
     rw [← h3] at kv
     have hk1:=hk.1
     cases k <;> simp [keyL] at hk1 <;> (unfold nkOf KeyV at kv; cases kv)
theorem toTup{K:KK}{F:Hp}{o:Obj}{ks:List PV}{vs:List V}(h:DicK K F o (ks.map nkOf) vs)(hk:ks.all keyT=true):TupK K F o (ks.map nkOf) vs:=by
 rcases h with ⟨kvs,rs,es,ep,h1,h2,h3,h4,h5,h6,h7,h8,h9⟩ | h
 ·cases ks with
  | nil =>
   cases kvs with
   | nil =>
    cases h5
    have hes:es.toList=[]:=by cases h7':es.toList with
     | nil=>rfl
     | cons _ _=>rw [h7'] at h7; cases h7
    exact ⟨[],[],es,ep,h1,h2,rfl,h4,.nil,hes,List.nodup_nil,Nat.zero_le _⟩
   | cons _ _=>cases h3
  | cons k ks =>
   cases kvs with
   | nil=>cases h3
   | cons x kvs =>
    exfalso
    rw [List.map_cons,List.map_cons] at h3
    injection h3 with h3 _
    rw [List.all_cons,Bool.and_eq_true] at hk
    have hk1:=hk.1
    cases k <;> simp [keyT] at hk1
    unfold nkOf at h3
    generalize x.1=y at h3
    cases y <;> cases h3
 ·exact h
theorem sameK_cases{p:PV}{ks:List PV}(h:sameK p ks=true):(keyL p=true∧ks.all keyL=true) ∨ (keyT p=true∧ks.all keyT=true):=by
 unfold sameK at h
 rw [Bool.or_eq_true,Bool.and_eq_true,Bool.and_eq_true] at h
 exact h
section
variable {X:Cx} {pins:List (Addr×Obj)} {σ:L2.St} {F H:Hp} {s:Shared} {a:Addr} {p:PV} {y v:V} {u r:Value} {A:Around} {E:Value→Shared→Prop} {o:Obj} {ks:List PV} {vs:List V}
theorem dx_get?(I:Inv X pins σ H s)(e:H a=some (dHO a o)):s.heap.get? a=some o:=(show ObjOk X.prog X.w H s.heap a (dHO a o) from I.hok a _ e).1
theorem leaf_dict(hg:s.heap.get? a=some o){nks:List NestedKey}(h:LeafK (kkX X) o nks vs):∃ (kvs:List (Leaf×V)) (rs:List (Leaf×Value)),nks=kvs.map (fun p=>p.1.key)∧vs=kvs.map (·.2)∧L2.KV kvs rs∧s.heap.DictOf (plK X.prog X.w) a rs∧(kvs.map (·.1)).Nodup∧kvs.length≤sizeLine:=by
 obtain ⟨kvs,rs,es,ep,h1,h2,h3,h4,h5,h6,h7,h8,h9⟩:=h
 exact ⟨kvs,rs,h3,h4,h5,⟨o,es,ep,hg,h1,h2,h6,h7,h8⟩,by rw [h5.keys]; exact h8,h9⟩
theorem kn_keys{kvs:List (NestedKey×V)}{xs:List (NestedKey×Addr×Value)}(h:KN F kvs xs):kvs.map (·.1)=xs.map (·.1):=by
 induction h with
 | nil=>rfl
 | cons h t ih=>rw [List.map_cons,List.map_cons,ih,h.1]
theorem tup_dict(I:Inv X pins σ H s)(hg:s.heap.get? a=some o)(hf:Same F H){nks:List NestedKey}(h:TupK (kkX X) F o nks vs):∃ (kvs:List (NestedKey×V)) (xs:List (NestedKey×Addr×Value)),nks=kvs.map (·.1)∧vs=kvs.map (·.2)∧KN F kvs xs∧s.heap.DictOfH (nestedKind X.prog X.w) a xs∧(kvs.map (·.1)).Nodup∧kvs.length≤sizeLine:=by
 obtain ⟨kvs,xs,es,ep,h1,h2,h3,h4,h5,h6,h7,h8⟩:=h
 refine ⟨kvs,xs,h3,h4,h5,⟨o,es,ep,hg,h1,h2,h6,?_,h7⟩,by rw [kn_keys h5]; exact h7,h8⟩
 clear h6 h7 h8 h3 h4
 induction h5 with
 | nil=>intro x hx; simp at hx
 | cons q t ih =>
  intro x hx
  rcases List.mem_cons.mp hx with e | hx
  ·subst e
   obtain ⟨q1,q2,q3,_⟩:=q
   rw [← q1]
   exact ⟨keyV_nested I.hok _ _ _ (KeyV.tups (fun _ _=>hf _ _) _ _ q2) rfl,q3⟩
  ·exact ih x hx
theorem kn_val{kvs:List (NestedKey×V)}{xs:List (NestedKey×Addr×Value)}(r:KN F kvs xs)(k:NestedKey):RelO (valV kvs k) ((atKey xs k).map (·.2)):=by
 induction r with
 | nil=>exact True.intro
 | @cons p q ps qs h t ih =>
  obtain ⟨h1,_,_,h2⟩:=h
  by_cases e:p.1=k
  ·have e':q.1=k:=h1.symm.trans e
   have b:atKey (q :: qs) k=some q.2:=by simp [atKey,List.find?_cons,e']
   rw [valV_pos e,b]; exact h2
  ·have e':¬ q.1=k:=fun z=>e (h1.trans z)
   have b:atKey (q :: qs) k=atKey qs k:=by simp [atKey,List.find?_cons,e']
   rw [valV_neg e,b]; exact ih
theorem kn_repl{kvs:List (NestedKey×V)}{xs:List (NestedKey×Addr×Value)}(r:KN F kvs xs)(k:NestedKey){y:V}{u:Value}(ry:RelV y u):KN F (kvs.map fun kv=>if kv.1=k then (kv.1,y) else kv) (xs.map (putAt k u)):=by
 induction r with
 | nil=>exact .nil
 | @cons p q ps qs h t ih =>
  rw [List.map_cons,List.map_cons]
  refine .cons ?_ ih
  obtain ⟨h1,h2,h3,h4⟩:=h
  unfold putAt
  by_cases e:p.1=k
  ·rw [if_pos e,if_pos (h1.symm.trans e)]; exact ⟨h1,h2,h3,ry⟩
  ·rw [if_neg e,if_neg (fun z=>e (h1.trans z))]; exact ⟨h1,h2,h3,h4⟩
theorem kn_put{kvs:List (NestedKey×V)}{xs:List (NestedKey×Addr×Value)}(r:KN F kvs xs)(k:NestedKey){b:Addr}{y:V}{u:Value}(hb:KeyV F k (.ref b))(hd:k.depth≤8)(ry:RelV y u):KN F (putK kvs k y) (storedH xs k b u):=by
 have e:(kvs.any fun kv=>decide (kv.1=k))=(atKey xs k).isSome:=by
  rw [valV_any,(kn_val r k).isSome_eq,Option.isSome_map]
 unfold putK storedH
 rw [e]
 by_cases q:(atKey xs k).isSome=true
 ·rw [if_pos q,if_pos q]; exact kn_repl r k ry
 ·rw [if_neg q,if_neg q]; exact Paired.snoc r ⟨rfl,hb,hd,ry⟩
theorem tup_ref{v:V}(h:keyT p=true)(r:Rep (kkX X) H p v):∃ b,v = .ref b:=by
 cases p <;> simp [keyT] at h
 unfold Rep at r
 obtain ⟨b,_,e,_⟩:=r
 exact ⟨b,e⟩
theorem dx_in{Q:Value→Shared→Prop}(neg:Bool)(hu:A.units+10 < cLine)(I:Inv X pins σ H s)(e:H a=some (dHO a o))(hd:(a == sysModules)=false)(dk:DicK (kkX X) H o (ks.map nkOf) vs)(hs:sameK p ks=true)(rp:Rep (kkX X) H p y)(ry:RelV y u)
  (h:∀ s',Inv X pins σ H s'→Q (.bool (if neg then !(dIx ks p).isSome else (dIx ks p).isSome)) s'):wpAny (model X.prog X.w) A (compareOp (if neg then .NotIn else .In) u (.ref a)) Q E s:=by
 have hg:=dx_get? I e
 obtain ⟨h8,hk8⟩:=sameK_N hs
 have hix:∀ {n:Nat},dIx ks p=some n→n < ks.length:=by
  intro n
  have:∀ (ks:List PV) (n:Nat),dIx ks p=some n→n < ks.length:=by
   intro ks
   induction ks with
   | nil=>intro n h; cases h
   | cons q ks ih =>
    intro n h
    unfold dIx at h
    split at h
    ·cases h; simp
    ·cases hq:dIx ks p with
     | none=>rw [hq] at h; cases h
     | some m=>rw [hq] at h; cases h; have:=ih m hq; simp; omega
  exact this ks n
 rcases sameK_cases hs with ⟨hp,hks⟩ | ⟨hp,hks⟩
 ·obtain ⟨kvs,rs,h3,h4,h5,dd,nd,hz⟩:=leaf_dict hg (toLeaf dk hks)
  have hval:=ix_val (fun a b=>Leaf.key_inj) (leafOf_key hp) h8 h3 hk8
  have q:=(h5.val (leafOf p)).isSome_eq
  have hlen:(kvs.map (·.2)).length=ks.length:=by have:=congrArg List.length h3; simpa using this.symm
  have hb:(dIx ks p).isSome=(valueAt rs (leafOf p)).isSome:=by
   rw [← q,hval]
   cases hx:dIx ks p with
   | none=>rfl
   | some n=>have:=hix hx; rw [Option.bind_some,List.getElem?_eq_getElem (show n < (kvs.map (·.2)).length by omega)]; rfl
  cases neg with
  | false=>exact wpAny_in_of (knd:=plK X.prog X.w) (leaf_is hp rp ry) hd dd.mapOf (by rw [← hb]; exact h _ (I.tok _))
  | true=>exact wpAny_notIn_of (knd:=plK X.prog X.w) (leaf_is hp rp ry) hd dd.mapOf (by rw [← hb]; exact h _ (I.tok _))
 ·obtain ⟨kvs,xs,h3,h4,h5,dd,nd,hz⟩:=tup_dict I hg (Same.refl _) (toTup dk hks)
  obtain ⟨b,rfl⟩:=tup_ref hp rp
  cases ry
  obtain ⟨kv,_,kd⟩:=rep_key 8 p _ h8 rp
  have hval:=ix_val (f:=id) (fun a b z=>z) (k:=nkOf p) rfl h8 h3 hk8
  have q:=(kn_val h5 (nkOf p)).isSome_eq
  rw [Option.isSome_map] at q
  have hlen:(kvs.map (·.2)).length=ks.length:=by have:=congrArg List.length h3; simpa using this.symm
  have hb:(dIx ks p).isSome=(atKey xs (nkOf p)).isSome:=by
   rw [← q,hval]
   cases hx:dIx ks p with
   | none=>rfl
   | some n=>have:=hix hx; rw [Option.bind_some,List.getElem?_eq_getElem (show n < (kvs.map (·.2)).length by omega)]; rfl
  have hr:A.in1.units+8 < cLine:=by rw [Around.in1_units]; omega
  cases neg with
  | false=>exact wpAny_in_heap (knd:=nestedKind X.prog X.w) hr ⟨keyV_nested I.hok _ _ _ kv rfl,kd⟩ hd dd (by rw [← hb]; exact h _ (I.tok _))
  | true=>exact wpAny_notIn_heap (knd:=nestedKind X.prog X.w) hr ⟨keyV_nested I.hok _ _ _ kv rfl,kd⟩ hd dd (by rw [← hb]; exact h _ (I.tok _))
theorem dx_setItem{Q:Unit→Shared→Prop}(hu:A.units+10 < cLine)(I:Inv X pins σ H s)(hf:Same F H)(e:H a=some (dHO a o))(dk:DicK (kkX X) F o (ks.map nkOf) vs)(hs:sameK p ks=true)(rp:Rep (kkX X) F p y)(ry:RelV y u)(rv:RelV v r)(hz:ks.length < sizeLine)
  (h:∀ o' s',DicK (kkX X) F o' ((dPutK ks p).map nkOf) (dPutV ks vs p v)→Inv X pins σ (upd H a (dHO a o')) s'→Q () s'):wpAny (model X.prog X.w) A (setItem (.ref a) u r) Q E s:=by
 have hg:=dx_get? I e
 obtain ⟨h8,hk8⟩:=sameK_N hs
 have mu:Mut (H a):=by rw [e]; exact True.intro
 have dkl:=dk.len
 rcases sameK_cases hs with ⟨hp,hks⟩ | ⟨hp,hks⟩
 ·obtain ⟨kvs,rs,h3,h4,h5,dd,nd,hz'⟩:=leaf_dict hg (toLeaf dk hks)
  have hlen:kvs.length=ks.length:=by have:=congrArg List.length h3; simpa using this.symm
  obtain ⟨p1,p2⟩:=ix_put (fun a b=>Leaf.key_inj) v (leafOf_key hp) h8 h3 hk8 nd
  refine wpAny_setItem_pairs (knd:=plK X.prog X.w) (hsz:=by rw [← h5.length]; exact hz') (leaf_is hp rp ry) dd fun h' dd' hs'=>?_
  obtain ⟨o',es,ep,g1,g2,g3,g4,g5,g6⟩:=dd'
  refine h o' _ (.inl ⟨putK kvs (leafOf p) v,_,es,ep,g2,g3,p1,by rw [p2,h4],h5.put _ rv,g4,g5,g6,?_⟩) (d_write (t':=s.toks+1) I mu hs' ⟨o',g1⟩ ⟨g1,⟨o',g1⟩,fun h1 h2 z k=>k _ z⟩)
  have:=length_putK kvs (leafOf p) v
  omega
 ·obtain ⟨kvs,xs,h3,h4,h5,dd,nd,hz'⟩:=tup_dict I hg hf (toTup dk hks)
  have rpH:Rep (kkX X) H p y:=Rep.mono hf _ _ rp
  obtain ⟨b,rfl⟩:=tup_ref hp rpH
  cases ry
  obtain ⟨kvF,_,kd⟩:=rep_key 8 p _ h8 rp
  obtain ⟨kv,_,_⟩:=rep_key 8 p _ h8 rpH
  have hlen:kvs.length=ks.length:=by have:=congrArg List.length h3; simpa using this.symm
  obtain ⟨p1,p2⟩:=ix_put (f:=id) (fun a b z=>z) (k:=nkOf p) v rfl h8 h3 hk8 nd
  refine wpAny_setItem_heap (knd:=nestedKind X.prog X.w) (hsz:=by rw [← Paired.length h5]; exact hz') (show A.in1.units+8 < cLine by rw [Around.in1_units]; omega) ⟨keyV_nested I.hok _ _ _ kv rfl,kd⟩ dd fun h' dd' hs'=>?_
  obtain ⟨o',es,ep,g1,g2,g3,g4,g5,g6⟩:=dd'
  refine h o' _ (.inr ⟨putK kvs (nkOf p) v,_,es,ep,g2,g3,p1,by rw [p2,h4],kn_put h5 _ kvF kd rv,g4,g6,?_⟩) (d_write (t':=s.toks+_) I mu hs' ⟨o',g1⟩ ⟨g1,⟨o',g1⟩,fun h1 h2 z k=>k _ z⟩)
  have:=length_putK kvs (nkOf p) v
  omega
end
end Vl
end
section
set_option Elab.async false
set_option linter.all false
set_option maxRecDepth 100000
set_option maxHeartbeats 1000000
namespace Vl
open PySem L2 Vm PyProof.Rows
section
variable {K:KK} {F H F1 H1:Hp}
theorem dic_exact{o:Obj}{nks:List NestedKey}{vs:List V}(h:DicK K F o nks vs):o.ExactDict:=by
 rcases h with ⟨_,_,_,_,z,_⟩ | ⟨_,_,_,_,z,_⟩ <;> exact z
theorem Ext.new(h:Same F H)(t:Tups F H){p:Addr}{o:HO}(ho:∀ xs,o ≠ tq xs)(hp:H p=none):Ext F H F (upd H p o) :=
 ⟨Same.refl _,same_new hp,h.trans (same_new hp),tups_new t ho (h.free hp),fun _ q=>.inl q⟩
theorem rep_dic{ks l:List PV}{v:V}(h:Rep K F (.dic ks l) v):∃ a o vs,v = .ref a∧F a=some (dHO a o)∧(a == sysModules)=false∧DicK K F o (ks.map nkOf) vs∧ks.all keyG=true∧RepL K F l vs:=by
 unfold Rep at h; exact h
theorem own_dic{d:Nat}{fp:List Addr}{ks l:List PV}{v:V}(h:Own K F H (d+1) fp (.dic ks l) v):∃ a o vs fps,v = .ref a∧H a=some (dHO a o)∧(a == sysModules)=false∧DicK K F o (ks.map nkOf) vs∧ks.all keyG=true∧fp=a :: fps.flatten∧OwnL (Own K F H d) fps l vs:=by
 rcases h with ⟨l',a,vs,fps,h1,h2,h3,h4⟩ | ⟨_,h,_⟩
 ·rcases h2 with ⟨e,_⟩ | ⟨ks',o,e,z1,z2,z3,z4⟩ | ⟨_,_,e,_⟩
  ·cases e
  ·cases e
   exact ⟨a,o,vs,fps,h1,z1,z2,z3,z4,h3,h4⟩
  ·cases e
 ·cases h
theorem own_mkD{d:Nat}{ks l:List PV}{a:Addr}{o:Obj}{vs:List V}{fps:List (List Addr)}(z1:H a=some (dHO a o))(z2:(a == sysModules)=false)(z3:DicK K F o (ks.map nkOf) vs)(z4:ks.all keyG=true)(h:OwnL (Own K F H d) fps l vs):Own K F H (d+1) (a :: fps.flatten) (.dic ks l) (.ref a) :=
 .inl ⟨l,a,vs,fps,rfl,.inr (.inl ⟨ks,o,rfl,z1,z2,z3,z4⟩),rfl,h⟩
theorem rv_partD{Hs:Hp}{t:Tg}{ks l:List PV}{v:V}(hf:Same F H)(h:RV K F H Hs (t,.dic ks l) v):∃ a o vs,v = .ref a∧H a=some (dHO a o)∧(a == sysModules)=false∧DicK K H o (ks.map nkOf) vs∧RepL K H l vs∧∀ (j:Nat) p u,l[j]? = some p→vs[j]? = some u→∀ Hs',RV K F H Hs' (dn t,p) u:=by
 have zero:Rep K F (.dic ks l) v→∃ a o vs,v = .ref a∧H a=some (dHO a o)∧(a == sysModules)=false∧DicK K H o (ks.map nkOf) vs∧RepL K H l vs∧∀ (j:Nat) p u,l[j]? = some p→vs[j]? = some u→∀ Hs',RV K F H Hs' (.fz,p) u:=fun r=>by
  obtain ⟨a,o,vs,rfl,h2,h3,h4,h5,h6⟩:=rep_dic r
  refine ⟨a,o,vs,rfl,hf _ _ h2,h3,h4.tups fun _ _=>hf _ _,h6.mono hf _ _,fun j p u e1 e2 Hs'=>.fz ?_⟩
  obtain ⟨u',e3,r⟩:=h6.get e1
  rw [e2] at e3; cases e3
  exact r
 have own:∀ {d:Nat} {fp:List Addr},Own K F H d fp (.dic ks l) v→∃ a o vs,v = .ref a∧H a=some (dHO a o)∧(a == sysModules)=false∧DicK K H o (ks.map nkOf) vs∧RepL K H l vs∧∀ (j:Nat) p u,l[j]? = some p→vs[j]? = some u→∀ Hs',RV K F H Hs' (dn (.bw d),p) u:=by
  intro d fp h
  cases d with
  | zero=>exact zero h.2
  | succ d =>
   obtain ⟨a,o,vs,fps,rfl,h2,h3,h4,h5,h6,h7⟩:=own_dic h
   refine ⟨a,o,vs,rfl,h2,h3,h4.tups fun _ _=>hf _ _,ownl_rep hf h7,fun j p u e1 e2 Hs'=>?_⟩
   obtain ⟨f,o⟩:=own_part h7 e1 e2
   cases d with
   | zero=>exact .fz o.2
   | succ d=>exact ⟨[],f,o⟩
 cases t with
 | fz=>obtain ⟨_,r⟩:=h; exact zero r
 | bw d=>obtain ⟨_,fp,h⟩:=h; exact own h
 | ow d =>
  obtain ⟨fp,h,_⟩:=h
  obtain ⟨a,o,vs,h1,h2,h3,h4,h5,h6⟩:=own h
  refine ⟨a,o,vs,h1,h2,h3,h4,h5,?_⟩
  cases d with
  | zero=>exact h6
  | succ d=>cases d with
   | zero=>exact h6
   | succ d=>exact h6
end
section
variable {C:Cn} {cm:Bool} {k:Nat} {N:List Str} {sc so:Scope} {a b c e o tg kx:Expr} {es:List Expr} {A B J:EX} {As:EXs} {T U:TX} {pos p tpos apos cpos p1 p2:Pos} {X:Cx} {x:Str}
theorem Sta.u10(S:Sta C cm k N sc X):X.A.units+10 < cLine:=by have:=S.u; omega
def rDIn(K:KK)(neg:Bool):R2:=fun x y H Q=>∃ p q b,Rep K H p x∧Rep K H q y∧dinB p q = .ok b∧Q (.bl (if neg then !b else b)) H
theorem op_dinP(hu:X.A.units+10 < cLine)(neg:Bool):OpR X (compareOp (if neg then .NotIn else .In)) (rDIn (kkX X) neg):=by
 intro pins s σ H x y v u Q I rx ry h
 obtain ⟨p,q,b,rp,rq,hb,hq⟩:=h
 cases q with
 | dic ks l =>
  obtain ⟨a,ob,vs,rfl,g1,g2,g3,g4,g5⟩:=rep_dic rq
  cases ry
  have hb:(if sameK p ks then (.ok (dIx ks p).isSome:Res Bool) else .bad) = .ok b:=hb
  by_cases hk:sameK p ks=true
  ·rw [if_pos hk] at hb
   cases hb
   exact dx_in neg hu I g1 g2 g3 hk rp rx fun s' I'=>⟨_,H,I',by cases neg <;> rfl,hq⟩
  ·rw [if_neg hk] at hb; cases hb
 | _=>cases hb
theorem dinB_noexc{p q:PV}{c:Nat}:dinB p q ≠ .exc c:=by
 intro h
 cases q with
 | dic ks l =>
  have h:(if sameK p ks then (.ok (dIx ks p).isSome:Res Bool) else .bad) = .exc c:=h
  split at h <;> cases h
 | _=>cases h
theorem op2_din:Op2 C (rDIn C.K false) opDIn:=by
 intro p q v u H Q rp rq
 unfold opDIn
 cases e:dinB p q with
 | ok b=>exact fun hq=>⟨p,q,b,rp,rq,e,hq fun F=>rep_bl⟩
 | exc c=>exact (dinB_noexc e).elim
 | bad=>trivial
theorem dc_din(ha:DE C cm k N sc a A)(hb:DE C cm k N sc b B):DCm C cm k N sc .In a b (eOp2 opDIn A B):=dc_op (r:=rDIn C.K false) (fun X S=>by rw [← S.KK]; exact op_dinP S.u10 false) op2_din ha hb
def dNew:Obj:={ cls:=.type "dict",data:=.dict #[] }
theorem dicK_new{K:KK}{F:Hp}:DicK K F dNew [] []:=.inl ⟨[],[],#[],0,⟨rfl,rfl,rfl⟩,rfl,rfl,rfl,.nil,fun e he=>by simp at he,.nil,List.nodup_nil,Nat.zero_le _⟩
def tDNewX:TE:=fun _ H Q=>∀ p,H p=none→(p == sysModules)=false→Q (.ref p) (upd H p (dHO p dNew))
theorem new_ok{pins:List (Addr×Obj)}{σ:L2.St}{H:Hp}{s:Shared}{t':Nat}(I:Inv X pins σ H s):Inv X pins σ (upd H s.heap.objs.size (dHO s.heap.objs.size dNew)) { s with heap:=s.heap.push dNew,toks:=t' }∧(s.heap.objs.size == sysModules)=false :=
 ⟨I.laid (a:=s.heap.objs.size) (t':=t') (fun _ _ q=>Heap.get?_push_of_some _ q) (Nat.le_refl _) ⟨Heap.get?_push_size _ rfl,⟨_,Heap.get?_push_size _ rfl⟩,fun h1 h2 z k=>k _ z⟩,beq_eq_false_iff_ne.mpr (Ne.symm (Nat.ne_of_lt I.big))⟩
theorem pe_dnewX:PE X (.Dict [] [] pos) tDNewX:=⟨fun pins s σ H Q I h=>by
 obtain ⟨I1,hd⟩:=new_ok (t':=s.toks) I
 exact wpAny_Dict_empty ⟨.ref s.heap.objs.size,_,I1,rfl,h _ (I.hok.fresh (Nat.le_refl _)) hd⟩⟩
theorem rv_newD{K:KK}{F H Hs:Hp}{d:Nat}{a:Addr}(z1:H a=some (dHO a dNew))(z2:(a == sysModules)=false)(hf:F a=none)(hs:Hs a=none):RV K F H Hs (.ow (d+1),.dic [] []) (.ref a) :=
 ⟨[a],own_mkD (fps:=[]) z1 z2 dicK_new rfl trivial,by simp,fun b hb=>by simp at hb; subst hb; exact ⟨hf,hs⟩⟩
theorem de_dic0(d:Nat):DE C cm k N sc (.Dict [] [] pos) (eDic0 (d+1)) :=
 ⟨fun _=>tDNewX,fun X S W T=>pe_dnewX,fun W σ Γ F0 H0 F H Q g h p hp hd=>h _ F _ (Ext.new g.ext.fh g.ext.tp (fun _ z=>by cases z) hp) (rv_newD upd_same hd (g.ext.fh.free hp) hp)⟩
def tDGetX(K:KK)(td ty tx:TE):TE:=fun σ H Q=>td σ H fun x H1=>∃ a,x = .ref a∧(∃ o,H1 a=some (dHO a o)∧o.ExactDict)∧ty σ H1 fun y H2=>tx σ H2 fun z H3=>∃ o ks vs p,H3 a=some (dHO a o)∧(a == sysModules)=false∧DicK K H3 o (ks.map nkOf) vs∧sameK p ks=true∧Rep K H3 p y ∧
 Q (((dIx ks p).bind fun j=>vs[j]?).getD z) H3
theorem dx_get2{pins:List (Addr×Obj)}{σ:L2.St}{H:Hp}{s:Shared}{ad:Addr}{pv:PV}{y z:V}{u r:Value}{A:Around}{E:Value→Shared→Prop}{ob:Obj}{ks:List PV}{vs:List V}{Q:Value→Shared→Prop}(hu:A.units+10 < cLine)(I:Inv X pins σ H s)(e:H ad=some (dHO ad ob))(hd:(ad == sysModules)=false)(dk:DicK (kkX X) H ob (ks.map nkOf) vs)(hs:sameK pv ks=true)(rp:Rep (kkX X) H pv y)(ry:RelV y u)(rz:RelV z r)
  (h:∀ w' s',Inv X pins σ H s'→RelV (((dIx ks pv).bind fun j=>vs[j]?).getD z) w'→Q w' s'):wpAny (model X.prog X.w) A (call (.builtin "dict.get") [.ref ad,u,r]) Q E s:=by
 have hg:=dx_get? I e
 obtain ⟨h8,hk8⟩:=sameK_N hs
 rcases sameK_cases hs with ⟨hp,hks⟩ | ⟨hp,hks⟩
 ·obtain ⟨kvs,rs,h3,h4,h5,dd,nd,hz⟩:=leaf_dict hg (toLeaf dk hks)
  have hval:=ix_val (fun a b=>Leaf.key_inj) (leafOf_key hp) h8 h3 hk8
  refine call_meetsIn PySem.F.slot_dict_get dd.typeIs PySem.F.entry_dict_get (PySem.F.args_dict_get_3 _ _ _) (meets_dict_get_default (plK X.prog X.w) ad (leaf_is hp rp ry) hd r) ⟨_,dd.mapOf,h _ _ (I.tok _) ?_⟩
  rw [h4,← hval]
  exact (h5.val _).getD rz
 ·obtain ⟨kvs,xs,h3,h4,h5,dd,nd,hz⟩:=tup_dict I hg (Same.refl _) (toTup dk hks)
  obtain ⟨b,rfl⟩:=tup_ref hp rp
  cases ry
  obtain ⟨kv,_,kd⟩:=rep_key 8 pv _ h8 rp
  have hval:=ix_val (f:=id) (fun a b z=>z) (k:=nkOf pv) rfl h8 h3 hk8
  refine call_meetsIn PySem.F.slot_dict_get dd.typeIs PySem.F.entry_dict_get (PySem.F.args_dict_get_3 _ _ _) (meetsH_dict_get_default (nestedKind X.prog X.w) ad b hd r) ⟨show A.in1.units+8 < cLine by rw [Around.in1_units]; omega,nkOf pv,xs,⟨keyV_nested I.hok _ _ _ kv rfl,kd⟩,dd,h _ _ (I.tok _) ?_⟩
  rw [h4,← hval]
  exact (kn_val h5 _).getD rz
theorem pe_dgetX {td ty tx:TE} {f:Expr} (hu:X.A.units+10 < cLine) (ho:PE X o td) (he:PE X e ty) (hf:PE X f tx) (m:M2 X o "get" apos e f cpos):PE X (.Call (.Attribute o "get" apos) [e,f] [] cpos) (tDGetX (kkX X) td ty tx):=by
 refine ⟨fun pins s σ H Q I h=>?_⟩
 refine wpAny_Call_method m.base m.few m.line PySem.F.plainAttrs_dict PySem.F.slot_dict_get PySem.F.type_dict_get (thn (ho.run pins s σ H _ I h) fun u s1 ⟨x,H1,I1,rx,a,ex,⟨ob,d1,d2⟩,q1⟩=>?_)
 subst ex
 obtain rfl:u=Value.ref a:=rx
 have hg:=dx_get? I1 d1
 refine ⟨⟨ob,hg,d2.1⟩,fun b q=>by cases q; exact ⟨ob,hg,d2.2.1⟩,?_⟩
 rw [m.trees]
 refine Calls.callWith_builtin rfl (Calls.evalArgs_plain (Calls.spliced_cons (thn (he.run pins s1 σ H1 _ I1 q1) fun iv s2 ⟨y,H2,I2,ry,q2⟩ =>
  Calls.spliced_cons (thn (hf.run pins s2 σ H2 _ I2 q2) fun fv s3 ⟨z,H3,I3,rz,ob3,ks,vs,p,g1,g2,g3,g4,g5,q3⟩=>Calls.spliced_nil ?_))))
 exact dx_get2 hu I3 g1 g2 g3 g4 g5 ry rz fun w' s4 I4 rw'=>⟨_,H3,I4,rw',q3⟩
end
end Vl
end
section
set_option Elab.async false
set_option linter.all false
set_option maxRecDepth 100000
set_option maxHeartbeats 1000000
namespace Vl
open PySem L2 Vm PyProof.Rows
section
variable {C:Cn} {cm:Bool} {k:Nat} {N:List Str} {sc so:Scope} {a b c e f o tg kx:Expr} {es:List Expr} {A B J E:EX} {As:EXs} {T U:TX} {pos p tpos apos cpos p1 p2 pos':Pos} {X:Cx} {x:Str}
theorem fzK_ok{y:TV}{q:PV}(h:fzK y = .ok q):y=(.fz,q):=by
 obtain ⟨t,p⟩:=y
 cases t with
 | fz=>cases h; rfl
 | _=>cases h
theorem fzK_noexc{y:TV}{c:Nat}:fzK y ≠ .exc c:=by
 obtain ⟨t,p⟩:=y
 cases t <;> (intro h; cases h)
theorem de_dget (ha:DE C cm k N sc a A) (hb:DE C cm k N sc b B) (hc:DE C cm k N sc c E) (m:∀ X,Sta C cm k N sc X→M2 X a "get" apos b c cpos:=by exact fun _ _=>⟨rfl,rfl,rfl,rfl⟩):DE C cm k N sc (.Call (.Attribute a "get" apos) [b,c] [] cpos) (eDGet A B E):=by
 obtain ⟨ta,pa,qa⟩:=ha
 obtain ⟨tb,pb,qb⟩:=hb
 obtain ⟨tc,pc,qc⟩:=hc
 refine ⟨fun W=>tDGetX C.K (ta W) (tb W) (tc W),fun X S W T=>by rw [← S.KK]; exact pe_dgetX S.u10 (pa X S W T) (pb X S W T) (pc X S W T) (m X S),fun W σ Γ F0 H0 F H Q g h=>?_⟩
 unfold eDGet at h
 refine qa W σ Γ F0 H0 F H _ g (EOk.bind h fun x v F1 H1 ex e1 r1 h1=>?_)
 obtain ⟨t,q⟩:=x
 cases q with
 | dic ks l =>
  have h1:EOk C W σ F H Q ((B Γ).bind fun y=>(E Γ).bind fun z=>dgetV (t,.dic ks l) y.2 z):=h1
  obtain ⟨ad,ob,vs,rfl,g1,g2,g3,g4,g5⟩:=rv_partD e1.fh r1
  refine ⟨ad,rfl,⟨ob,g1,dic_exact g3⟩,?_⟩
  refine qb W σ Γ F0 H0 F1 H1 _ (g.next e1) (EOk.bind (h1.next e1) fun y u F2 H2 ey e2 r2 h2=>?_)
  have e12:=e1.trans e2
  refine qc W σ Γ F0 H0 F2 H2 _ ((g.next e1).next e2) (EOk.bind (h2.next e2) fun z w F3 H3 ez e3 r3 h3=>?_)
  have rd:=(r1.ext e2).ext e3
  obtain ⟨ad',ob',vs',e0,k1,k2,k3,k4,k5⟩:=rv_partD e3.fh rd
  cases e0
  have ry:=(r2.ext e3).rep e3.fh
  have h5:EOk C W σ F2 H2 Q (if flat1 t && sameK y.2 ks then (putV z).bind fun q=>.ok (.fz,(dGet ks l y.2).getD q) else .bad):=h3
  by_cases hk:(flat1 t && sameK y.2 ks)=true
  ·rw [if_pos hk] at h5
   rw [Bool.and_eq_true] at hk
   refine ⟨ob',ks,vs',y.2,k1,k2,k3,hk.2,ry,?_⟩
   have dnf:dn t = .fz:=by
    match t,hk.1 with
    | .fz,_=>rfl
    | .bw 0,_=>rfl
    | .bw 1,_=>rfl
    | .ow 0,_=>rfl
    | .ow 1,_=>rfl
    | .bw (n+2),z=>cases z
    | .ow (n+2),z=>cases z
   cases hp:putV z with
   | exc c=>exact (put_noexc hp).elim
   | bad=>rw [hp] at h5; exact h5.elim
   | ok zz =>
    rw [hp,bind_ok] at h5
    obtain ⟨f,hf⟩:=r3
    obtain ⟨F4,e4,s4,r4,_⟩:=hf.put e3 hp
    unfold dGet at h5
    cases hj:dIx ks y.2 with
    | none =>
     rw [hj] at h5
     exact h5 w F4 H3 e4 (.fz r4)
    | some j =>
     rw [hj] at h5
     show Q ((vs'[j]?).getD w) H3
     have h5:EOk C W σ F2 H2 Q (.ok (.fz,(l[j]?).getD zz)):=h5
     cases hl:l[j]? with
     | none =>
      have hv:vs'[j]? = none:=by
       rw [List.getElem?_eq_none_iff] at hl ⊢
       rw [k4.len]; exact hl
      rw [hl] at h5
      rw [hv]
      exact h5 w F4 H3 e4 (.fz r4)
     | some q =>
      obtain ⟨w',hw',rw'⟩:=k4.get hl
      rw [hl] at h5
      rw [hw']
      have rq:=k5 j q w' hl hw' H3
      rw [dnf] at rq
      exact h5 w' F4 H3 e4 (.fz (Rep.mono s4 _ _ rq.ofFz))
  ·rw [if_neg hk] at h5; exact h5.elim
 | _=>exact h1.elim
def sDX(K:KK)(td ty tv:TE):TS:=fun D σ H=>tv σ H fun v H1=>td σ H1 fun x H2=>ty σ H2 fun y H3=>∃ F a o ks vs p,x = .ref a∧Same F H3∧H3 a=some (dHO a o)∧DicK K F o (ks.map nkOf) vs∧sameK p ks=true∧Rep K F p y∧ks.length < sizeLine ∧
 ∀ o',DicK K F o' ((dPutK ks p).map nkOf) (dPutV ks vs p v)→D.nx σ (upd H3 a (dHO a o'))
theorem ps_dx{td ty tv:TE}{i value:Expr}(hu:X.A.units+10 < cLine)(ho:PE X o td)(hi:PE X i ty)(hv:PE X value tv)(hs:swapsWith value (some (.Subscript o i pos')) pos.line X.env=pure false):PS X (.Assign [.Subscript o i pos'] value pos) (sDX (kkX X) td ty tv):=by
 refine ⟨fun pins s σ H D I h=>?_⟩
 refine wpAny_Assign_Subscript (thn (hv.run pins s σ H _ I h) fun r s1 ⟨v,H1,I1,rv,q1⟩=>thn (ho.run pins s1 σ H1 _ I1 q1) fun u s2 ⟨x,H2,I2,rx,q2⟩=>thn (hi.run pins s2 σ H2 _ I2 q2) fun iv s3 ⟨y,H3,I3,ry,F,a,ob,ks,vs,p,ex,g0,g1,g2,g3,g4,g5,q3⟩=>?_) hs
 subst ex
 obtain rfl:u=Value.ref a:=rx
 exact dx_setItem hu I3 g0 g1 g2 g3 g4 ry rv g5 fun o' s4 d' I4=>⟨σ,_,I4,q3 o' d'⟩
theorem ds_dput (i:Nat) (hj:DE C cm k N sc b B) (he:DE C cm k N sc e A) (hN:N[i]? = some x:=by rfl) (hv:Vis sc x:=by first | exact Or.inl rfl | exact Or.inr (Or.inl rfl) | exact Or.inr (Or.inr rfl)) (hd:(x == ("__debug__":Str))=false:=by decide)
  (hcd:(x == ("__classdict__":Str))=false:=by decide) (hs:∀ env:PySem.Env,swapsWith e (some (.Subscript (.Name x p1) b pos')) pos.line env=pure false:=by intro _; rfl):DS C cm k N sc (.Assign [.Subscript (.Name x p1) b pos'] e pos) (dDPut i B A):=by
 obtain ⟨ta,pa,qa⟩:=he
 obtain ⟨tb,pb,qb⟩:=hj
 refine ⟨fun W=>sDX C.K (tVar i) (tb W) (ta W),fun X S W T=>by rw [← S.KK]; exact ps_dx S.u10 (pe_var (by rw [S.n]; exact hN) (by rw [S.s]; exact hv) hd hcd) (pb X S.toSta W T) (pa X S.toSta W T) (hs _),fun W D σ Γ F0 H0 F H g h=>?_⟩
 unfold dDPut at h
 split at h
 ·rename_i ks l eg
  obtain ⟨v0,fp,hv0,own,nd,fr,go⟩:=good_chg g eg
  obtain ⟨ad,ob,vs,fps,rfl,d1,d2,d3,d4,rfl,d6⟩:=own_dic own
  obtain ⟨fl,rl⟩:=ownl0_nil d6
  refine qa W σ Γ F0 H0 F H _ g.toGood (OutOk.bind g h fun y v F1 H1 ex e1 rv h=>?_)
  refine ⟨.ref ad,hv0,qb W σ Γ F0 H0 F1 H1 _ (g.next e1).toGood (OutOk.bind (g.next e1) h fun z u F2 H2 ez e2 r2 h=>?_)⟩
  cases hp:putV y with
  | exc c=>exact (put_noexc hp).elim
  | bad=>rw [hp] at h; exact h.elim
  | ok q =>
   rw [hp,after_ok] at h
   cases hq:fzK z with
   | exc c=>exact (fzK_noexc hq).elim
   | bad=>rw [hq] at h; exact h.elim
   | ok kq =>
    rw [hq,after_ok] at h
    have ez:=fzK_ok hq
    subst ez
    by_cases hk:(sameK kq ks && decide (ks.length < 16777216))=true
    ·rw [if_pos hk] at h
     rw [Bool.and_eq_true,decide_eq_true_eq] at hk
     obtain ⟨f,hf⟩:=rv
     obtain ⟨F3,e3,s3,r3,_⟩:=(hf.ext e2).put (e1.trans e2) hp
     have rk:Rep C.K F3 kq u:=Rep.mono s3 _ _ r2.ofFz
     have d3':=d3.tups (G:=F3) fun _ _=>e3.ff _ _
     refine ⟨F3,ad,ob,ks,vs,kq,rfl,e3.fh,(e1.trans e2).hh _ _ d1,d3',hk.1,rk,by rw [← szL_eq]; exact hk.2,fun o' dk=>?_⟩
     refine h σ F3 _ (go (H2:=H2) (d':=1) (fp':=ad :: ((dPutV ks l kq q).map fun _=>[]).flatten) e3 (fun b hb=>upd_ne fun z=>hb (by rw [z]; simp)) (fun b hb xs=>?_) (own_mkD upd_same d2 dk (keyG_put (rep_key 8 kq u (sameK_N hk.1).1 rk).2.1 d4) (ownl_flat (repL_put r3 (rl.mono e3.ff _ _)))) (by rw [flat_nil]; simp) (fun b hb=>.inl (by rw [flat_nil] at hb; rw [fl]; exact hb)))
     rw [fl] at hb
     simp at hb
     subst hb
     rw [upd_same]
     intro z
     cases z
    ·rw [if_neg hk] at h; exact h.elim
 ·exact h.elim
end
end Vl
end
section
set_option Elab.async false
set_option linter.all false
set_option maxRecDepth 100000
set_option maxHeartbeats 1000000
namespace Vl
open PySem L2 Vm PyProof.Rows
section
variable {C:Cn} {F0 H0 F H F1 H1:Hp} {Γ:En} {σ:L2.St}
def Go(C:Cn)(F0 H0 F H:Hp)(Γ:En)(σ:L2.St)(i:Nat)(fp:List Addr)(v:V):Prop:=∀ (F2 H2 H3:Hp) (d':Nat) (p':PV) (fp':List Addr),Ext F H F2 H2→(∀ a,a ∉ fp→H3 a=H2 a)→(∀ a∈fp,∀ xs,H3 a ≠ some (tq xs))→Own C.K F2 H3 d' fp' p' v→fp'.Nodup→(∀ a∈fp',a∈fp ∨ (H a=none∧F2 a=none))→GoodS C.K F0 H0 (Γ.set i (some (.ow d',p'))) σ F2 H3
theorem Go.step{i d:Nat}{fp fp5:List Addr}{v:V}{p:PV}{x:Sl}{H5:Hp}(go:Go C F0 H0 F H Γ σ i fp v)(own:Own C.K F H d fp p v)(fr:∀ a∈fp,F a=none∧H0 a=none)(e:Ext F H F1 H1)(hfp:∀ a∈fp5,a∈fp ∨ (H a=none∧F1 a=none))(hsub:∀ a∈fp,a∈fp5)(h5:∀ a,a ∉ fp→H5 a=H1 a)(n5:∀ a∈fp5,H5 a ≠ none):Go C F0 H0 F1 H5 (Γ.set i x) σ i fp5 v:=by
 intro F2 H2 H3 d' p' fp' e2 k1 k2 o' nd' sub
 have hth:∀ a∈fp,H a ≠ none:=fun a ha=>by obtain ⟨_,z,_⟩:=own.there d a ha; rw [z]; simp
 have f1n:∀ a∈fp5,F1 a=none:=fun a ha=>by
  rcases hfp a ha with z | z
  ·cases q:F1 a with
   | none=>rfl
   | some o =>
    rcases e.nw a (by rw [q]; simp) with w | w
    ·exact (w (fr a z).1).elim
    ·exact (hth a z w).elim
  ·exact z.2
 have f2n:∀ a∈fp5,F2 a=none:=fun a ha=>by
  cases q:F2 a with
  | none=>rfl
  | some o =>
   rcases e2.nw a (by rw [q]; simp) with w | w
   ·exact (w (f1n a ha)).elim
   ·exact (n5 a ha w).elim
 have dec:∀ a,Decidable (a∈fp):=fun a=>Classical.propDecidable _
 let H2':Hp:=fun a=>@ite _ (a∈fp) (dec a) (H a) (H3 a)
 have t1:∀ a,a∈fp→H2' a=H a:=fun a ha=>if_pos ha
 have t2:∀ a,a ∉ fp→H2' a=H3 a:=fun a ha=>if_neg ha
 have g:=go F2 H2' H3 d' p' fp' ⟨e.ff.trans e2.ff,fun a o z=>?_,fun a o z=>?_,fun a xs z=>?_,fun a z=>?_⟩ (fun a ha=>(t2 a ha).symm) (fun a ha=>k2 a (hsub a ha)) o' nd' (fun a ha=>?_)
 ·rw [List.set_set]; exact g
 ·by_cases ha:a∈fp
  ·rw [t1 a ha]; exact z
  ·have h5':a ∉ fp5:=fun w=>by
    rcases hfp a w with q | q
    ·exact ha q
    ·rw [q.1] at z; cases z
   rw [t2 a ha,k1 a h5']
   exact e2.hh _ _ (by rw [h5 a ha]; exact e.hh _ _ z)
 ·have h5':a ∉ fp5:=fun w=>by rw [f2n a w] at z; cases z
  rw [t2 a (fun w=>h5' (hsub a w)),k1 a h5']
  exact e2.fh _ _ z
 ·by_cases ha:a∈fp
  ·rw [t1 a ha] at z
   obtain ⟨ob,q1,q2⟩:=own.there d a ha
   rw [q1] at z; cases z
   exact (q2 _ rfl).elim
  ·rw [t2 a ha] at z
   by_cases w:a∈fp5
   ·exact (k2 a w xs z).elim
   ·rw [k1 a w] at z; exact e2.tp _ _ z
 ·rcases e2.nw a z with w | w
  ·exact e.nw a w
  ·by_cases ha:a∈fp
   ·exact (n5 a (hsub a ha) w).elim
   ·rw [h5 a ha] at w; exact .inr (e.hh.free w)
 ·rcases sub a ha with w | w
  ·rcases hfp a w with q | q
   ·exact .inl q
   ·exact .inr ⟨q.1,f2n a w⟩
  ·by_cases hb:a∈fp
   ·exact .inl hb
   ·have:=w.1
    rw [h5 a hb] at this
    exact .inr ⟨e.hh.free this,w.2⟩
end
section
variable {C:Cn} {cm:Bool} {k:Nat} {N:List Str} {sc so:Scope} {a b c e f o tg kx:Expr} {es:List Expr} {A B J E:EX} {As:EXs} {T U:TX} {pos p tpos apos cpos p1 p2 p3 pos' apos2 cpos2:Pos} {X:Cx} {x:Str}
end
end Vl
end
section
set_option linter.all false
set_option maxHeartbeats 1000000
namespace Vm
@[simp] def eDicN (ks:List (List Nat)) (as:EXs):EX:=fun Γ=>(as Γ).bind fun xs=>(putVs xs).bind fun ps=>if ps.length=ks.length then .ok (.ow 1,.dic (ks.map .str) ps) else .bad
end Vm
end
section
set_option Elab.async false
set_option linter.all false
set_option maxRecDepth 100000
set_option maxHeartbeats 1000000
namespace Vl
open PySem L2 Vm PyProof.Rows
section
variable {C:Cn} {cm:Bool} {k i:Nat} {N:List Str} {sc:Scope} {pos p1 p2 dpos:Pos} {X:Cx} {e b:Expr} {A B:EX} {As:EXs}
end
end Vl
end
section
set_option linter.all false
set_option maxHeartbeats 1000000
namespace Vm
@[simp] def eOrN (a b:EX):EX:=fun Γ=>(a Γ).bind fun x=>match x.2 with
 | .non=>b Γ
 | .int i=>if i=0 then b Γ else .ok (.fz,.int i)
 | _=>.bad
end Vm
end
section
set_option Elab.async false
set_option linter.all false
set_option maxRecDepth 100000
set_option maxHeartbeats 1000000
namespace Vl
open PySem L2 Vm PyProof.Rows
section
variable {C:Cn} {cm:Bool} {k i:Nat} {N:List Str} {sc:Scope} {pos p1 p2 dpos:Pos} {X:Cx} {a b:Expr} {A B:EX}
end
end Vl
end
section
set_option linter.all false
set_option maxHeartbeats 1000000
namespace Vm
@[simp] def eStrOnce (l:List Nat) (b:EX):EX:=fun Γ=>(b Γ).bind fun y=>match y.2 with
 | .int i=>if i=0 then .ok (.fz,.str []) else if i=1 then .ok (.fz,.str l) else .bad
 | _=>.bad
end Vm
end
section
set_option Elab.async false
set_option linter.all false
set_option maxRecDepth 100000
set_option maxHeartbeats 1000000
namespace Vl
open PySem L2 Vm PyProof.Rows
section
variable {C:Cn} {cm:Bool} {k:Nat} {N:List Str} {sc:Scope} {pos p1 p2:Pos} {X:Cx} {b:Expr} {B:EX}
end
end Vl
end
section
set_option Elab.async false
set_option linter.all false
set_option maxRecDepth 100000
set_option maxHeartbeats 1000000
namespace Vl
open PySem L2 Vm PyProof.Rows
section
variable {P:Program} {w:World} {K:PySem.W.Frag} {tg:Expr} {d:Addr} {o:Obj} {es:Array DictEntry} {ep:Nat}
end
end Vl
end
section
set_option Elab.async false
set_option linter.all false
set_option maxRecDepth 100000
set_option maxHeartbeats 1000000
namespace Vl
open PySem L2 Vm PyProof.Rows
section
variable {K:KK} {F H:Hp}
end
section
variable {P:Program} {w:World} {K:PySem.W.Frag} {tg:Expr} {d:Addr} {o:Obj} {es:Array DictEntry} {ep:Nat}
variable {X:Cx} {e:Expr} {td:TE} {apos cpos tpos:Pos}
end
section
variable {K:KK} {F H:Hp}
end
section
variable {C:Cn} {cm:Bool} {k:Nat} {N:List Str} {sc so:Scope} {a tg:Expr} {A:EX} {pos apos cpos tpos:Pos} {X:Cx} {elts:List Expr} {kk:Nat}
end
end Vl
end
section
set_option linter.all false
set_option maxHeartbeats 1000000
namespace Vm
@[simp] def sortKV (x:TV):Res TV:=match x.2 with
 | .dic ks _=>if srtOk ks && ks.all (keyN 8) && decide (ks.length≤16777216) then .ok (.ow 1,.lst (sortP ks)) else .bad
 | _=>.bad
@[simp] def eSortedD (a:EX):EX:=fun Γ=>(a Γ).bind sortKV
@[simp] def fzIts:TV→Res (List TV)
 | (.fz,.lst l)=>.ok (l.map fun p=>(.fz,p))
 | _=>.bad
@[simp] def fzX:TV→Res PV
 | (.fz,p)=>.ok p
 | _=>.bad
@[simp] def popG (Γ:En) (i:Nat):Option (List PV×PV):=match Γ.get i with
 | some (.ow 1,.lst l)=>l.getLast?.map fun p=>(l.dropLast,p)
 | _=>none
@[simp] def dForPop (i:Nat) (a:EX) (pat:Pat) (ws:List Nat) (body:ST):ST:=fun Γ=>aft (a Γ) Γ fun x=>match popG Γ i with
 | some q=>aft ((fzX x).bind fun p=>(ixV (.fz,p) q.2).bind fzIts) Γ fun l=>forL pat ws body l (wipeE (Γ.set i (some (.ow 1,.lst q.1))) ws)
 | none=>.bad
@[simp] def dForPopG (i:Nat) (a:EX) (pat:Pat) (ws:List Nat) (body:ST):ST:=fun Γ=>aft (a Γ) Γ fun x=>match popG Γ i with
 | some q=>aft ((fzX x).bind fun p=>(dgetV (.fz,p) q.2 (.ow 1,.lst [])).bind fzIts) Γ fun l=>forL pat ws body l (wipeE (Γ.set i (some (.ow 1,.lst q.1))) ws)
 | none=>.bad
@[simp] def dSetPop (j i:Nat):ST:=fun Γ=>match popG Γ i with
 | some q=>.nx ((Γ.set i (some (.ow 1,.lst q.1))).set j (some (.fz,q.2)))
 | none=>.bad
@[simp] def dIns (i:Nat) (k e:EX):ST:=fun Γ=>match Γ.get i with
 | some (.ow 1,.lst l)=>aft (k Γ) Γ fun y=>aft (e Γ) Γ fun x=>aft (putV x) Γ fun p=>match y.2 with
  | .int z=>if 0≤z∧z≤l.length∧l.length < 16777216 then .nx (Γ.set i (some (.ow 1,.lst (l.take z.toNat++p :: l.drop z.toNat)))) else .bad
  | _=>.bad
 | _=>.bad
@[simp] def lstO:Nat→PV→Bool
 | 0,_=>true
 | d+1,.lst l=>l.all (lstO d)
 | _+1,_=>false
@[simp] def lstA:TV→Bool
 | (.fz,_)=>true
 | (.bw d,p)=>lstO d p
 | (.ow d,p)=>lstO d p
@[simp] def stabD:TV→Bool
 | (.fz,.dic _ l)=>stabL l
 | r=>stabR r
@[simp] def eCallD (f:FN) (as:EXs):EX:=fun Γ=>(as Γ).bind fun xs=>(f (xs.map (·.2))).bind fun r=>if xs.all lstA && stabD r then .ok r else .bad
end Vm
end
section
set_option Elab.async false
set_option linter.all false
set_option maxRecDepth 100000
set_option maxHeartbeats 1000000
namespace Vl
open PySem L2 Vm PyProof.Rows
section
variable {X:Cx} {tg e:Expr} {te:TE}
end
section
variable {C:Cn} {cm:Bool} {k:Nat} {N:List Str} {sc so:Scope} {a b c e tg:Expr} {es:List Expr} {A B:EX} {As:EXs} {T U:TX} {pos p p1 apos cpos spos lpos:Pos} {X:Cx} {x y:Str} {st:Stmt} {sts:List Stmt} {d d':ST}
variable {F0 H0 F H F1 H1:Hp} {Γ:En} {σ:L2.St} {W:WX} {D:Ends}
end
end Vl
end
section
set_option Elab.async false
set_option linter.all false
set_option maxRecDepth 100000
set_option maxHeartbeats 1000000
namespace Vl
open PySem L2 Vm PyProof.Rows
section
variable {C:Cn} {cm:Bool} {k:Nat} {N:List Str} {sc so:Scope} {a b c e tg:Expr} {es:List Expr} {A B:EX} {As:EXs} {T U:TX} {pos p p1 apos cpos spos lpos gpos dpos:Pos} {X:Cx} {x y:Str} {st:Stmt} {sts:List Stmt} {d d':ST}
variable {F0 H0 F H F1 H1:Hp} {Γ:En} {σ:L2.St} {W:WX} {D:Ends}
end
section
variable {K:KK} {H:Hp}
end
section
variable {C:Cn} {cm:Bool} {k:Nat} {N:List Str} {sc so:Scope} {a:Expr} {A:EX} {pos p:Pos}
end
end Vl
end
section
set_option Elab.async false
set_option linter.all false
set_option maxRecDepth 100000
set_option maxHeartbeats 1000000
namespace Vl
open PySem L2 Vm PyProof.Rows
section
variable {K:KK} {F H:Hp}
end
section
variable {C:Cn} {cm:Bool} {k:Nat} {N:List Str} {sc:Scope} {a b c e:Expr} {es:List Expr} {A B:EX} {As:EXs} {T U:TX} {pos p:Pos} {X:Cx} {x:Str}
end
end Vl
end
section
set_option linter.all false
set_option maxHeartbeats 1000000
namespace Vm
@[simp] def eChain3 (op op' op'':PV→PV→Res PV) (a b c d:EX):EX:=fun Γ=>(a Γ).bind fun x=>(b Γ).bind fun y=>(op x.2 y.2).bind fun z=>match z with
 | .bl true=>(c Γ).bind fun w=>(op' y.2 w.2).bind fun z'=>match z' with
  | .bl true=>(d Γ).bind fun u=>(op'' w.2 u.2).bind fzv
  | .bl false=>.ok (.fz,.bl false)
  | _=>.bad
 | .bl false=>.ok (.fz,.bl false)
 | _=>.bad
def intsP:List PV→Option (List Int)
 | []=>some []
 | .int i :: l=>(intsP l).map (i :: ·)
 | _ :: _=>none
def lexI:List Int→List Int→Bool
 | [],[]=>false
 | [],_ :: _=>true
 | _ :: _,[]=>false
 | x :: xs,y :: ys=>decide (x < y) || (decide (x=y) && lexI xs ys)
@[simp] def opLtT:PV→PV→Res PV
 | .tup xs,.tup ys=>match intsP xs,intsP ys with
  | some a,some b=>.ok (.bl (lexI a b))
  | _,_=>.bad
 | _,_=>.bad
end Vm
end
section
set_option Elab.async false
set_option linter.all false
set_option maxRecDepth 100000
set_option maxHeartbeats 1000000
namespace Vl
open PySem L2 Vm PyProof.Rows
section
variable {X:Cx} {a b c d:Expr} {ta tb tc td:TE} {pos:Pos}
end
section
variable {C:Cn} {cm:Bool} {k:Nat} {N:List Str} {sc:Scope} {a b c d:Expr} {A B E D:EX} {pos:Pos}
structure CmpQ (C:Cn) (cm:Bool) (k:Nat) (N:List Str) (sc:Scope) (op:CmpOp) (r:R2) (f:PV→PV→Res PV):Prop where
 o:∀ X,Sta C cm k N sc X→OpR X (compareOp op) r
 e:Op2 C r f
 b:∀ p q z,f p q = .ok z→∃ b:Bool,z = .bl b
theorem CmpI.q{op:CmpOp}{f:PV→PV→Res PV}(h:CmpI C cm k N sc op f):∃ r,CmpQ C cm k N sc op r f:=by
 obtain ⟨r,o1,o2⟩:=h.x
 exact ⟨r,o1,o2,h.b⟩
end
end Vl
end
section
set_option linter.all false
set_option maxHeartbeats 1000000
namespace Vm
@[simp] def eTupRev (a:EX):EX:=fun Γ=>(a Γ).bind fun x=>match x with
 | (t,.lst l)=>if flat1 t then .ok (.fz,.tup l.reverse) else .bad
 | (_,.tup l)=>.ok (.fz,.tup l.reverse)
 | _=>.bad
end Vm
end
section
set_option Elab.async false
set_option linter.all false
set_option maxRecDepth 100000
set_option maxHeartbeats 1000000
namespace RT
open PySem PySem.Spec PyProof.Rows L2
section
variable {prog:Program} {w:World} {A:Around} {E:Value→Shared→Prop} {s:Shared}
end
section
variable {X:Cx}
end
end RT
end
section
set_option Elab.async false
set_option linter.all false
set_option maxRecDepth 100000
set_option maxHeartbeats 1000000
namespace Vl
open PySem L2 Vm PyProof.Rows
section
variable {C:Cn} {cm:Bool} {k:Nat} {N:List Str} {sc:Scope} {a:Expr} {A:EX} {pos p p2 pos2:Pos}
end
end Vl
end
section
set_option linter.all false
set_option maxHeartbeats 1000000
namespace Vm
def putU(x:Int):List Int→List Int
 | []=>[x]
 | y :: ys=>if x < y then x :: y :: ys else if y < x then y :: putU x ys else y :: ys
def sortU(l:List Int):List Int:=l.foldr putU []
def sortSetV:TV→Res TV
 | (t,.lst l)=>if flat1 t then (intsOf l).bind fun ns=>if ns.length < 64 then .ok (.ow 1,.lst ((sortU ns).map PV.int)) else .bad else .bad
 | (_,.tup l)=>(intsOf l).bind fun ns=>if ns.length < 64 then .ok (.ow 1,.lst ((sortU ns).map PV.int)) else .bad
 | _=>.bad
@[simp] def eSortSet (a:EX):EX:=fun Γ=>(a Γ).bind sortSetV
end Vm
end
section
set_option Elab.async false
set_option linter.all false
set_option maxRecDepth 100000
set_option maxHeartbeats 4000000
namespace L2
open PySem PySem.Spec PyProof.Rows
section
variable {P:Program} {w:World} {A:Around} {E:Value→Shared→Prop} {s:Shared}
end
section
variable {X:Cx}
end
end L2
end
section
set_option Elab.async false
set_option linter.all false
set_option maxRecDepth 100000
set_option maxHeartbeats 1000000
namespace Vl
open PySem L2 Vm PyProof.Rows
section
variable {C:Cn} {cm:Bool} {k:Nat} {N:List Str} {sc:Scope} {a:Expr} {A:EX} {pos p p2 pos2:Pos}
end
end Vl
end
section
set_option linter.all false
set_option maxHeartbeats 1000000
namespace Vm
@[simp] def eIndexQ (a b:EX):EX:=fun Γ=>(a Γ).bind fun x=>match listOf x.2 with
 | some l=>(b Γ).bind fun y=>match shp 50 y.2 && shpL 50 l with
  | true=>match firstIx (fun z=>eqv z y.2) l with
   | some k=>.ok (.fz,.int k)
   | none=>.bad
  | false=>.bad
 | none=>.bad
def lrOk(n:Int):Bool:=rngOk n && Nat.ble n.toNat 16777216
@[simp] def eListR (a:EX):EX:=fun Γ=>(a Γ).bind fun x=>match x.2 with
 | .int n=>if lrOk n then .ok (.ow 1,.lst (rngL 0 n)) else .bad
 | _=>.bad
end Vm
end
section
set_option Elab.async false
set_option linter.all false
set_option maxRecDepth 100000
set_option maxHeartbeats 1000000
namespace L2
open PySem PySem.Spec PyProof.Rows
section
variable {X:Cx}
end
end L2
namespace Vl
open PySem L2 Vm PyProof.Rows
section
variable {C:Cn} {cm:Bool} {k:Nat} {N:List Str} {sc so:Scope} {e o:Expr} {A B:EX} {apos cpos:Pos} {X:Cx}
end
end Vl
end
section
set_option Elab.async false
set_option linter.all false
set_option maxRecDepth 100000
set_option maxHeartbeats 1000000
namespace Vl
open PySem L2 Vm PyProof.Rows
section
variable {C:Cn} {cm:Bool} {k:Nat} {N:List Str} {sc so:Scope} {a:Expr} {A:EX} {p p2 pos pos2:Pos} {X:Cx}
end
end Vl
end
section
set_option linter.all false
set_option maxHeartbeats 1000000
namespace Vm
abbrev FX:=List PV→Res (PV×List PV)
def isHs:List PV→Bool
 | .exo 0 _ :: _=>true
 | _=>false
def takeH(m:Bool)(Γ:En)(js:List (Nat×Tg)):Option (List PV):=match takeA Γ js with
 | some ps=>if m && !isHs ps then none else some ps
 | none=>none
def callX(m:Bool)(f:FX)(js:List (Nat×Tg))(as:EXs)(Γ:En)(k:PV→En→Out):Out:=match takeH m Γ js with
 | none=>.bad
 | some ps=>match as Γ with
  | .exc c=>.exc c Γ
  | .bad=>.bad
  | .ok xs=>match putVs xs with
   | .ok qs=>(match f (ps++qs) with
    | .ok (p,news)=>k p (putA Γ js news)
    | .exc c=>.exc c Γ
    | .bad=>.bad)
   | _=>.bad
inductive RM where
 | ok (b:Bool) (Γ:En) | exc (c:Nat) (Γ:En) | bad
abbrev TM:=En→RM
end Vm
end
section
set_option Elab.async false
set_option linter.all false
set_option maxRecDepth 100000
set_option maxHeartbeats 1000000
namespace Vl
open PySem L2 Vm PyProof.Rows
def spX(C:Cn)(ts:List Tg)(f:FX):Sp:=fun vs H Q E=>∃ F H0 ps,ps.length=ts.length∧vs.length=ts.length∧GoodS C.K F H0 (startM ts ps) (vs.map some) F H∧match f ps with
 | .ok (p,news)=>∀ v F' H',news.length=ts.length→GoodS C.K F H0 (startM ts news) (vs.map some) F' H'→Rep C.K F' p v→Q v H'
 | .exc c=>∀ F' H',GoodS C.K F H0 (startM ts ps) (vs.map some) F' H'→E (C.xc c) none H'
 | .bad=>False
structure CalX (C:Cn) (x:Str) (k:Nat) (ts:List Tg) (f:FX):Prop where
 ex:∃ ad fd ps,ps.length=ts.length∧FnOk C.P C.w C.K C.mg C.base (L2.CX C.P C.w) k ad fd ps (spX C ts f)∧PySem.W.keepIn C.K (.ref ad)=true∧Binds C.K fd ps []∧C.mg x=some (.ref ad)
section
variable {C:Cn} {F0 H0 F H F1 H1:Hp} {Γ:En} {σ:L2.St}
end
end Vl
end
section
set_option Elab.async false
set_option linter.all false
set_option maxRecDepth 100000
set_option maxHeartbeats 1000000
namespace Vl
open PySem L2 Vm PyProof.Rows
def Kp(keep:List Nat)(σ σ0:L2.St):Prop:=∀ i∈keep,σ[i]? = σ0[i]?
def OutX(C:Cn)(W:WX)(F0 H0:Hp)(D:Ends)(keep:List Nat)(σ0:L2.St):Out→Prop
 | .nx Γ=>∀ σ F H,GoodS C.K F0 H0 Γ σ F H→Kp keep σ σ0→D.nx σ H
 | .bk Γ=>∀ σ F H,GoodS C.K F0 H0 Γ σ F H→Kp keep σ σ0→D.bk σ H
 | .ct Γ=>∀ σ F H,GoodS C.K F0 H0 Γ σ F H→Kp keep σ σ0→D.ct σ H
 | .rt .fz p Γ=>∀ v σ F H,GoodS C.K F0 H0 Γ σ F H→Kp keep σ σ0→Rep C.K F p v→D.rt v H
 | .exc c Γ=>∀ σ F H,GoodS C.K F0 H0 Γ σ F H→Kp keep σ σ0→W (C.xc c) none σ H
 | _=>False
section
variable {C:Cn} {F0 H0 F H F1 H1:Hp} {Γ:En} {σ σ1:L2.St} {W:WX} {D:Ends} {keep:List Nat}
theorem Kp.refl:Kp keep σ σ:=fun _ _=>rfl
theorem Kp.trans{σ2:L2.St}(a:Kp keep σ2 σ1)(b:Kp keep σ1 σ):Kp keep σ2 σ:=fun i hi=>(a i hi).trans (b i hi)
theorem Kp.set{i:Nat}{v:Option V}(h:i ∉ keep):Kp keep (σ.set i v) σ:=fun j hj=>List.getElem?_set_ne (by intro z; subst z; exact h hj)
theorem OutX.bind{f:TV→Out}{Q1:VK}{r:Res TV}(g:GoodS C.K F0 H0 Γ σ F H)(h:OutX C W F0 H0 D keep σ (aft r Γ f))
  (q:∀ x v F1 H1,r = .ok x→Ext F H F1 H1→RV C.K F1 H1 H x v→OutX C W F0 H0 D keep σ (f x)→Q1 v H1):EOk C W σ F H Q1 r:=by
 cases r with
 | ok x=>exact fun v F' H' e rv=>q x v F' H' rfl e rv h
 | exc c=>exact fun F' H' e=>h σ F' H' (g.next e) Kp.refl
 | bad=>exact h
theorem OutX.bindT{f:Bool→Out}{Q1:Bool→Hp→Prop}{r:Res Bool}(g:GoodS C.K F0 H0 Γ σ F H)(h:OutX C W F0 H0 D keep σ (aft r Γ f))
  (q:∀ x F1 H1,r = .ok x→Ext F H F1 H1→OutX C W F0 H0 D keep σ (f x)→Q1 x H1):TOk C W σ F H Q1 r:=by
 cases r with
 | ok x=>exact fun F' H' e=>q x F' H' rfl e h
 | exc c=>exact fun F' H' e=>h σ F' H' (g.next e) Kp.refl
 | bad=>exact h
end
section
variable {C:Cn} {cm:Bool} {k:Nat} {N:List Str} {sc so:Scope} {a b c e o tg:Expr} {es:List Expr} {A B:EX} {As:EXs} {T U:TX} {pos p tpos apos cpos p1:Pos} {X:Cx} {x:Str} {st:Stmt} {sts:List Stmt} {d d':ST} {keep:List Nat}
variable {F0 H0 F H F1 H1:Hp} {Γ:En} {σ:L2.St} {W:WX} {D:Ends}
end
section
variable {C:Cn} {k:Nat} {N:List Str} {sc:Scope} {st:Stmt}
end
end Vl
end
section
set_option Elab.async false
set_option linter.all false
set_option maxRecDepth 100000
set_option maxHeartbeats 1000000
namespace Vl
open PySem L2 Vm PyProof.Rows
section
variable (C:Cn) (cm:Bool) (k:Nat) (N:List Str) (sc:Scope)
end
def CXok(C:Cn)(W:WX)(σ:L2.St)(F0 H0:Hp)(Γ:En)(m:Bool)(f:FX)(js:List (Nat×Tg))(as:EXs)(Q:PV→En→V→Hp→Prop):Prop:=match takeH m Γ js with
 | none=>False
 | some ps=>match as Γ with
  | .exc c=>∀ F' H',GoodS C.K F0 H0 Γ σ F' H'→W (C.xc c) none σ H'
  | .bad=>False
  | .ok xs=>match putVs xs with
   | .ok qs=>(match f (ps++qs) with
    | .ok (p,news)=>∀ v F' H',GoodS C.K F0 H0 (putA Γ js news) σ F' H'→Rep C.K F' p v→Q p (putA Γ js news) v H'
    | .exc c=>∀ F' H',GoodS C.K F0 H0 Γ σ F' H'→W (C.xc c) none σ H'
    | .bad=>False)
   | _=>False
section
variable {C:Cn} {cm:Bool} {k:Nat} {N:List Str} {sc so:Scope} {a b c e o tg:Expr} {es:List Expr} {A B:EX} {As:EXs} {T U:TX} {pos p tpos apos cpos p1:Pos} {X:Cx} {x:Str} {st:Stmt} {sts:List Stmt} {d d':ST} {keep:List Nat}
variable {F0 H0 F H F1 H1:Hp} {Γ:En} {σ:L2.St} {W:WX} {D:Ends} {js:List (Nat×Tg)} {f:FX} {ts:List Tg} {n j:Nat} {m:Bool}
theorem CXok.of{K1:PV→En→Out}{Q1:PV→En→V→Hp→Prop}(h:OutOk C W F0 H0 D (callX m f js As Γ K1))(q:∀ p Γ' v F' H',GoodS C.K F0 H0 Γ' σ F' H'→Rep C.K F' p v→OutOk C W F0 H0 D (K1 p Γ')→Q1 p Γ' v H'):CXok C W σ F0 H0 Γ m f js As Q1:=by
 unfold callX at h
 unfold CXok
 cases e1:takeH m Γ js with
 | none=>rw [e1] at h; exact h
 | some ps =>
  rw [e1] at h
  simp only at h ⊢
  cases e2:As Γ with
  | exc c=>rw [e2] at h; exact fun F' H' g=>h σ F' H' g
  | bad=>rw [e2] at h; exact h
  | ok xs =>
   rw [e2] at h
   simp only at h ⊢
   cases e3:putVs xs with
   | exc c=>rw [e3] at h; exact h
   | bad=>rw [e3] at h; exact h
   | ok qs =>
    rw [e3] at h
    simp only at h ⊢
    cases e4:f (ps++qs) with
    | exc c=>rw [e4] at h; exact fun F' H' g=>h σ F' H' g
    | bad=>rw [e4] at h; exact h
    | ok y=>rw [e4] at h; exact fun v F' H' g r=>q _ _ v F' H' g r h
theorem CXok.imp{Q1 Q2:PV→En→V→Hp→Prop}(h:CXok C W σ F0 H0 Γ m f js As Q1)(q:∀ p Γ' v H',Q1 p Γ' v H'→Q2 p Γ' v H'):CXok C W σ F0 H0 Γ m f js As Q2:=by
 unfold CXok at h ⊢
 cases e1:takeH m Γ js with
 | none=>rw [e1] at h; exact h
 | some ps =>
  rw [e1] at h
  simp only at h ⊢
  cases e2:As Γ with
  | exc c=>rw [e2] at h; exact h
  | bad=>rw [e2] at h; exact h
  | ok xs =>
   rw [e2] at h
   simp only at h ⊢
   cases e3:putVs xs with
   | exc c=>rw [e3] at h; exact h
   | bad=>rw [e3] at h; exact h
   | ok qs =>
    rw [e3] at h
    simp only at h ⊢
    cases e4:f (ps++qs) with
    | exc c=>rw [e4] at h; exact h
    | bad=>rw [e4] at h; exact h
    | ok y=>rw [e4] at h; exact fun v F' H' g r=>q _ _ v H' (h v F' H' g r)
def MOk(C:Cn)(W:WX)(σ:L2.St)(F0 H0:Hp)(Q:Bool→Hp→Prop):RM→Prop
 | .ok b Γ=>∀ F H,GoodS C.K F0 H0 Γ σ F H→Q b H
 | .exc c Γ=>∀ F H,GoodS C.K F0 H0 Γ σ F H→W (C.xc c) none σ H
 | .bad=>False
variable (C k N sc) in
def DTM (e:Expr) (t:TM):Prop:=∃ tb:WX→TT,(∀ X,Sta C true k N sc X→∀ W,Takes X W→PT X e (tb W)) ∧
 ∀ W σ Γ F0 H0 F H Q,GoodS C.K F0 H0 Γ σ F H→MOk C W σ F0 H0 Q (t Γ)→tb W σ H Q
variable (C k N sc) in
def DWM (e:Expr) (t:TM):Prop:=∃ tb:WX→TT,(∀ X,Sta C true k N sc X→∀ W,Takes X W→PW X e (tb W)) ∧
 ∀ W σ Γ F0 H0 F H Q,GoodS C.K F0 H0 Γ σ F H→MOk C W σ F0 H0 Q (t Γ)→tb W σ H Q
variable {t u:TM}
end
end Vl
end
section
set_option linter.all false
set_option maxHeartbeats 1000000
namespace Vm
@[simp] def dnP (t:Tg) (p:PV):Tg:=if boxed p then dn t else .fz
@[simp] def fldV (j:Nat) (x:TV):Res TV:=match x with
 | (t,.exo 0 l)=>match l[j]? with
  | some p=>.ok (dnP t p,p)
  | none=>.bad
 | _=>.bad
@[simp] def eFld (j:Nat) (a:EX):EX:=fun Γ=>(a Γ).bind fun x=>fldV j x
end Vm
end
section
set_option Elab.async false
set_option linter.all false
set_option maxRecDepth 100000
set_option maxHeartbeats 1000000
namespace Vl
open PySem L2 Vm PyProof.Rows
structure HsC (C:Cn):Prop where
 ex:∃ Ch:Addr,C.mg "House" = some (.ref Ch)∧Cls C.K Ch∧∀ f∈fldN,NoAttr C.K Ch f
section
variable {C:Cn} {cm:Bool} {k:Nat} {N:List Str} {sc so:Scope} {a b c e o tg:Expr} {es:List Expr} {A B:EX} {As:EXs} {T U:TX} {pos p tpos apos cpos p1 p2 pos':Pos} {X:Cx} {x fname m:Str} {st:Stmt} {sts:List Stmt} {d d':ST} {keep:List Nat}
variable {F0 H0 F H F1 H1:Hp} {Γ:En} {σ:L2.St} {W:WX} {D:Ends} {js:List (Nat×Tg)} {ts:List Tg} {n j:Nat}
end
end Vl
end
section
set_option Elab.async false
set_option linter.all false
set_option maxRecDepth 100000
set_option maxHeartbeats 1000000
namespace Vl
open PySem L2 Vm PyProof.Rows
section
variable {K:KK} {F H F' H':Hp}
end
section
variable {C:Cn} {cm:Bool} {k:Nat} {N:List Str} {sc so:Scope} {a b c e o tg:Expr} {es:List Expr} {A B:EX} {As:EXs} {T U:TX} {pos p tpos apos cpos p1 p2 pos':Pos} {X:Cx} {x fname m:Str} {st:Stmt} {sts:List Stmt} {d d':ST} {keep:List Nat}
variable {F0 H0 F H F1 H1:Hp} {Γ:En} {σ:L2.St} {W:WX} {D:Ends} {js:List (Nat×Tg)} {ts:List Tg} {n j:Nat}
end
end Vl
end
section
set_option Elab.async false
set_option linter.all false
set_option maxRecDepth 100000
set_option maxHeartbeats 1000000
namespace Vl
open PySem L2 Vm PyProof.Rows
section
variable {κ:Type} [DecidableEq κ] {f:κ→NestedKey}
end
section
variable {C:Cn} {cm:Bool} {k:Nat} {N:List Str} {sc so:Scope} {a b c e o tg:Expr} {es:List Expr} {A B:EX} {As:EXs} {T U:TX} {pos p tpos apos apos2 cpos p1 p2 pos':Pos} {X:Cx} {x fname m:Str} {st:Stmt} {sts:List Stmt} {d d':ST} {keep:List Nat}
variable {F0 H0 F H F1 H1:Hp} {Γ:En} {σ:L2.St} {W:WX} {D:Ends} {js:List (Nat×Tg)} {ts:List Tg} {n j:Nat}
structure CalI (C:Cn) (k:Nat) (f:FX):Prop where
 ex:∃ ad fd ps Ch,FnOk C.P C.w C.K C.mg C.base (L2.CX C.P C.w) k ad fd ps (spX C [.ow 2] f)∧Binds C.K fd ps []∧C.mg "House" = some (.ref Ch)∧Mk C.K Ch ad
structure CalF (C:Cn) (m:Str) (n k:Nat) (f:FN):Prop where
 ex:∃ ad fd ps Ch,ps.length=n∧FnOk C.P C.w C.K C.mg C.base (L2.CX C.P C.w) k ad fd ps (spOf C n f)∧Binds C.K fd ps []∧C.mg "House" = some (.ref Ch)∧Cls C.K Ch∧Meth C.K Ch m ad
structure CalH (C:Cn) (m:Str) (k:Nat) (ts:List Tg) (f:FX) (nd:Nat):Prop where
 ex:∃ ad fd ps Ch,ps.length=ts.length∧FnOk C.P C.w C.K C.mg C.base (L2.CX C.P C.w) k ad fd ps (spX C ts f)∧Binds C.K fd ps (List.replicate nd .none)∧C.mg "House" = some (.ref Ch)∧Cls C.K Ch∧Meth C.K Ch m ad
end
end Vl
end
section
set_option linter.all false
set_option maxHeartbeats 1000000
namespace Vm
@[simp] def tupKV (x:TV):Res TV:=match x.2 with
 | .dic ks _=>if ks.all (keyN 8) && decide (ks.length≤16777216) then .ok (.fz,.tup ks) else .bad
 | _=>.bad
@[simp] def eTupleK (a:EX):EX:=fun Γ=>(a Γ).bind tupKV
@[simp] def eFn (l:List Nat):EX:=fun _=>.ok (.fz,.exo 1 [.str l])
def fnOf{α:Type}(x:PV)(tb:List (List Nat×α)):Option α:=match x with
 | .exo 1 [.str s]=>(tb.find? fun q=>decide (q.1=s)).map (·.2)
 | _=>none
def catchN:List (List (Nat×Bool)×ST)→Nat→En→Out
 | [],c,Γ=>.exc c Γ
 | (cs,h) :: r,c,Γ=>match takesC cs c with
  | some true=>(match h Γ with
   | .exc _ _=>.bad
   | o=>o)
  | some false=>catchN r c Γ
  | none=>.bad
end Vm
end
section
set_option Elab.async false
set_option linter.all false
set_option maxRecDepth 100000
set_option maxHeartbeats 1000000
namespace PySem
open PySem.F PySem.W
section
variable {prog:Program} {w:World} {A:Around} {E:Value→Shared→Prop} {s:Shared}
end
end PySem
namespace Vl
open PySem L2 Vm PyProof.Rows
section
variable {C:Cn} {cm:Bool} {k:Nat} {N:List Str} {sc so:Scope} {a b c e o tg fe:Expr} {es:List Expr} {A B E:EX} {As:EXs} {T U:TX} {pos p tpos apos apos2 cpos p1 p2 pos' np:Pos} {X:Cx} {x fname m:Str} {st b₀:Stmt} {sts body suite:List Stmt} {d d':ST} {keep:List Nat}
variable {F0 H0 F H F1 H1:Hp} {Γ:En} {σ:L2.St} {W:WX} {D:Ends} {js:List (Nat×Tg)} {ts:List Tg} {n j:Nat}
variable (keep C k N sc) in
def DHX (hds:List ExceptHandler) (l:List (List (Nat×Bool)×ST)):Prop:=∃ l':List (Value×(Addr→Value→Option Addr→TS)),(∀ X,StaS C true k N sc X→HdsOk X hds l') ∧
 ∀ W D σ c Γ F0 H0 F H,GoodS C.K F0 H0 Γ σ F H→OutX C W F0 H0 D keep σ (catchN l c Γ)→wMany C.K W D l' (C.xc c) none σ H
end
end Vl
end
section
set_option Elab.async false
set_option linter.all false
set_option maxRecDepth 100000
set_option maxHeartbeats 1000000
namespace Vl
open PySem L2 Vm PyProof.Rows
section
variable {C:Cn} {k:Nat} {N:List Str} {sc:Scope} {st:Stmt}
end
section
variable {C:Cn} {k:Nat} {N:List Str} {sc:Scope} {a b:Expr} {B:EX} {As:EXs} {p1 pos:Pos} {x:Str} {js:List (Nat×Tg)} {f:FX} {m:Bool}
end
end Vl
end
section
set_option Elab.async false
set_option linter.all false
set_option maxRecDepth 100000
set_option maxHeartbeats 1000000
namespace Vl
open PySem L2 Vm PyProof.Rows
section
variable {C:Cn} {cm:Bool} {k:Nat} {N:List Str} {sc:Scope} {x:Str} {j j' n:Nat} {ts:List Tg} {keep:List Nat} {sts:List Stmt}
end
end Vl
end
section
namespace Vm
@[simp] def eListRev (a:EX):EX:=fun Γ=>(a Γ).bind fun x=>match x.2 with
 | .lst l=>if flat1 x.1 then .ok (.ow 1,.lst l.reverse) else .bad
 | _=>.bad
def onceL{α:Type}[DecidableEq α](l:List α):List α:=l.foldl (fun a x=>if x∈a then a else a++[x]) []
@[simp] def eLenSet (a:EX):EX:=fun Γ=>(a Γ).bind fun x=>match x.2 with
 | .lst l=>if flat1 x.1 then (match strsOf l with
  | some ws=>if ws.length < 1000 then .ok (.fz,.int (onceL ws).length) else .bad
  | none=>.bad) else .bad
 | _=>.bad
end Vm
end
section
set_option Elab.async false
set_option linter.all false
set_option maxRecDepth 100000
set_option maxHeartbeats 1000000
namespace RT
open PySem PySem.Spec PyProof.Rows
section
variable {prog:Program} {w:World} {A:Around} {E:Value→Shared→Prop} {s:Shared}
end
end RT
namespace L2
open PySem PySem.Spec PyProof.Rows RT
section
variable {X:Cx}
end
end L2
namespace Vl
open PySem L2 Vm PyProof.Rows
section
variable {C:Cn} {cm:Bool} {k:Nat} {N:List Str} {sc:Scope} {a:Expr} {A:EX} {pos p p2 pos2:Pos}
end
end Vl
end
section
set_option Elab.async false
set_option linter.all false
set_option maxRecDepth 100000
set_option maxHeartbeats 4000000
namespace L2
open PySem PySem.Spec PyProof.Rows
section
variable {P:Program} {w:World} {A:Around} {E:Value→Shared→Prop} {s:Shared}
end
section
variable {X:Cx}
end
end L2
end
section
set_option Elab.async false
set_option linter.all false
set_option maxRecDepth 100000
set_option maxHeartbeats 1000000
namespace Vl
open PySem L2 Vm PyProof.Rows
section
variable {C:Cn} {cm:Bool} {k:Nat} {N:List Str} {sc:Scope} {a:Expr} {A:EX} {pos p p2 pos2:Pos}
end
end Vl
end
section
set_option linter.all false
namespace Vm
@[simp] def eLCX (own:List Nat) (it:IX) (pat:Pat) (c:TX) (e:EX):EX:=fun Γ=>(it Γ).bind fun xs =>
 if xs.2.length≤16777216 then (lcGo (wipeE Γ own) pat c e xs.2).bind fun ps=>if ps.length≤16777216 then .ok (.ow 1,.lst ps) else .bad else .bad
end Vm
end
section
set_option Elab.async false
set_option linter.all false
set_option maxRecDepth 100000
set_option maxHeartbeats 1000000
namespace Vl
open PySem L2 Vm PyProof.Rows
theorem noteFrame_frame{e:Value}{env env':PySem.Env}(h:env.frame=env'.frame):noteFrame e env=noteFrame e env':=by
 unfold noteFrame PySem.frameOf
 rw [h]
def compPostX(M:Model)(A:Around)(E:Value→Shared→Prop)(fr:Option Addr)(use:Option (Value→Sem Unit))(Q:Value→Shared→Prop)(acc:Value)(C:Addr)(r:Result)(s':Shared):Prop :=
 match r,use with
 | .ok _,none=>∃ m,s'.heap.Ns C m∧∀ h',Heap.SameBut C s'.heap h'→Q acc { s' with heap:=h' }
 | .ok _,some u=>wpAny M A (u acc) (fun _ s''=>∃ m,s''.heap.Ns C m∧∀ h',Heap.SameBut C s''.heap h'→Q .none { s'' with heap:=h' }) E s'
 | .error x,_=>∃ m,s'.heap.Ns C m∧∀ h',Heap.SameBut C s'.heap h'→∀ cenv:PySem.Env,cenv.locals=C→cenv.frame=fr→wpAny M A (passOn "comprehension.variables-let-go" x cenv:Sem Value) (fun _ _=>False) E { s' with heap:=h' }
theorem compPostX_err {M:Model} {A:Around} {E:Value→Shared→Prop} {fr:Option Addr} {use:Option (Value→Sem Unit)} {Q:Value→Shared→Prop} {acc:Value} {C:Addr} {x:Value} {s':Shared}
  (h:∃ m,s'.heap.Ns C m∧∀ h',Heap.SameBut C s'.heap h'→∀ cenv:PySem.Env,cenv.locals=C→cenv.frame=fr→wpAny M A (passOn "comprehension.variables-let-go" x cenv:Sem Value) (fun _ _=>False) E { s' with heap:=h' }) :
  compPostX M A E fr use Q acc C (.error x) s':=by cases use <;> exact h
theorem comprehensionX{M:Model}{A:Around}{E:Value→Shared→Prop}{s:Shared}{env:PySem.Env}{e:Expr}{scope:Scope}{pos:Pos}{newAcc first:Sem Value}{g:Comprehension}{gs:List Comprehension}{cl:List (Str×Addr)}{use:Option (Value→Sem Unit)}
  {Q:Value→Shared→Prop}
  (hcl:clausesOf e=g :: gs)(hs:∀ x,foldedSetIterable g.iter env x=pure x)(hclos:closureFor scope env=pure cl)
  (hkind:scope.kind = .function)(hnames:∀ x∈scope.names,x.2 = .local→scope.names.lookup x.1=some .local)
  (h:wpAny M A first (fun x s₁=>wpAny M A (pyIter x) (fun it s₂=>wpAny M A newAcc (fun acc s₃ =>
   wpAny M A (newFunctionEnv scope env.globals cl [] env.qual none .none (some env)) (fun cenv s₄ =>
    codeAny M A (.compStart e 0 it acc { cenv with scope:=relabel scope env }) (compPostX M A E cenv.frame use Q acc cenv.locals) s₄) E s₃) E s₂) E s₁) E s) :
  wpAny M A (comprehension e scope env pos newAcc false first use) Q E s:=by
 unfold comprehension
 rw [hclos,hcl]
 refine wpAny_bind (wpAny_mono h (fun x s₁ h₁=>wpAny_bind (wpAny_standAt (wpAny_bind (wpAny_of_eq (hs x) (wpAny_bind (wpAny_holding (wpAny_mono h₁ (fun it s₂ h₂ =>
  wpAny_standIf (wpAny_bind (wpAny_mono h₂ (fun acc s₃ h₃=>wpAny_bind (wpAny_pure (wpAny_bind (wpAny_mono h₃ (fun cenv s₄ h₄=>?_) fun _ _ h'=>h')))) fun _ _ h'=>h')))
   fun _ _ h'=>h'))))))) fun _ _ h'=>h')
 dsimp only
 have hv:∀ x∈(scope.names.filter fun x=>(x.2 == .local || x.2 == .cell) && x.1 != (".0":Str)).reverse,x.2 = .local →
   Env.kindOf { cenv with scope:=relabel scope env } x.1=some .local:=fun x hx hl=>lookup_relabel_local (hnames x (List.mem_filter.mp (List.mem_reverse.mp hx)).1 hl)
 have hv':∀ x∈(scope.names.filter fun x=>(x.2 == .local || x.2 == .cell) && x.1 != (".0":Str)).reverse.drop 1++(scope.names.filter fun x=>(x.2 == .local || x.2 == .cell) && x.1 != (".0":Str)).reverse.take 1,
   x.2 = .local→Env.kindOf { cenv with scope:=relabel scope env } x.1=some .local:=fun x hx hl=>by
  rcases List.mem_append.mp hx with h1 | h1
  ·exact hv x (List.mem_of_mem_drop h1) hl
  ·exact hv x (List.mem_of_mem_take h1) hl
 refine wpAny_holding (wpAny_bind (wpAny_attempt (wpAny_holding (wpAny_run (codeAny_mono h₄ fun r s' hr=>?_)))))
 cases r with
 | ok f =>
  cases use with
  | none =>
   obtain ⟨m,hn,hr⟩:=hr
   exact wpAny_bind (wpAny_holding (wpAny_comp_letGo (cenv:={ cenv with scope:=relabel scope env }) hkind _ s' m hv hn fun h' m' _ hs'=>wpAny_pure (hr h' hs')))
  | some u =>
   refine wpAny_bind (wpAny_rule (wpAny_bind (wpAny_holding (wpAny_mono hr (fun _ s'' hr'=>?_) fun _ _ h'=>h'))))
   obtain ⟨m,hn,hr'⟩:=hr'
   exact wpAny_bind (wpAny_comp_letGo (cenv:={ cenv with scope:=relabel scope env }) hkind _ s'' m hv' hn fun h' m' _ hs'=>wpAny_pure (hr' h' hs'))
 | error x =>
  have hr':∃ m,s'.heap.Ns cenv.locals m∧∀ h',Heap.SameBut cenv.locals s'.heap h'→∀ cenv':PySem.Env,cenv'.locals=cenv.locals→cenv'.frame=cenv.frame→wpAny M A (passOn "comprehension.variables-let-go" x cenv':Sem Value) (fun _ _=>False) E { s' with heap:=h' }:=by cases use <;> exact hr
  obtain ⟨m,hn,hr⟩:=hr'
  exact wpAny_bind (wpAny_holding (wpAny_comp_letGo (cenv:={ cenv with scope:=relabel scope env }) hkind _ s' m hv hn fun h' m' _ hs'=>wpAny_mono (hr h' hs' _ rfl rfl) (fun _ _ f=>f.elim) fun _ _ y=>y))
section
variable {M:Model} {A:Around} {E:Value→Shared→Prop} {s:Shared} {Z:Obj→Prop} {base:Heap} {env:PySem.Env} {outer l:List PySem.Env} {L C e:Addr}
open HandSPX
theorem looks_elseZ{Q:Unit→Shared→Prop}(hZ:Steady Z)(hfr:A.frames=some (env :: outer))(hf:env.frame=some L)(hne:C ≠ L)(hfl:HeldZ base (env :: outer) e Z C s.heap)
  (hQ:∀ h',HeldZ base (env :: outer) e Z L h'→s.heap.UpToSlots h'→Q () { s with heap:=h' }):wpAny M A (noteFrame (.ref e) env) Q E s:=by
 obtain ⟨hkb,hen,hl,oe,vs,T,oT,ts,he,hz,hd,h1,hnT,hTe,hT,hdT,h3⟩:=hfl
 unfold noteFrame
 simp only [hf]
 refine wpAny_bind (wpAny_field he hd h1 ?_)
 rw [if_pos (show (Value.ref T != Value.none)=true from by simp)]
 refine wpAny_bind (wpAny_field hT hdT h3 ?_)
 rw [if_neg (show ¬ ((rawInt C == rawInt L)=true) from fun z=>hne (Int.ofNat.inj (show ((C:Nat):Int)=((L:Nat):Int) from by simpa [rawInt] using z)))]
 refine wpAny_bind (wpAny_setField hT hdT (Array.getElem?_eq_some_iff.mp h3).1 ?_)
 have other:∀ b,b ≠ T→(s.heap.update T (Obj.mapFields (·.setIfInBounds 3 Value.none))).get? b=s.heap.get? b:=fun b hb=>Heap.get?_update_other _ _ (Ne.symm hb)
 have noRecord:∀ b o,s.heap.get? b=some o→(∀ vs,o.data ≠ .fields vs)→b ≠ T:=fun b o hb hnf q=>by
  rw [q,hT] at hb; injection hb with hb; subst hb; exact hnf ts hdT
 refine wpAny_entryZ hZ hfr (hl.of_keeps fun b o hb hnf=>⟨o,(other b (noRecord b o hb hnf)).trans hb,rfl⟩) hf ((other e (Ne.symm hTe)).trans he)
  (fun b o hbo=>(other b fun q=>by rw [q,hnT] at hbo; cases hbo).trans (hkb b o hbo)) hen hd (Array.getElem?_eq_some_iff.mp h1).1 hz fun h' hN=>?_
 obtain ⟨x1,x2,x3,x4⟩:=hN
 exact hQ h' ⟨x1,hen,x2,x3⟩ fun b o hb hnf=>x4 b o ((other b (noRecord b o hb hnf)).trans hb) hnf
theorem sky_note{Q:Unit→Shared→Prop}(hZ:Steady Z)(hfr:A.frames=some (env :: outer))(hf:env.frame=some L)(hne:C ≠ L)(x:Sky base (env :: outer) e Z C s.heap)
  (hQ:∀ h',HeldZ base (env :: outer) e Z L h'→s.heap.UpToSlots h'→Q () { s with heap:=h' }):wpAny M A (noteFrame (.ref e) env) Q E s:=by
 rcases x with ⟨hB,hn,hl,oe,vs,he,hz,hd,h1⟩ | fl | hh
 ·exact look_newZ hZ hfr hl hf he hB hn hd h1 hz hQ
 ·exact looks_onZ hZ hfr hf fl hQ
 ·exact looks_elseZ hZ hfr hf hne hh hQ
end
theorem funFrames_but{base h h':Heap}:∀ {l:List PySem.Env},h.FunFrames base l→(∀ b∈frs l,h'.get? b=h.get? b)→h'.FunFrames base l
 | [],_,_=>trivial
 | env :: l,h,hn=>by
  obtain ⟨hk,⟨L,o,hf,hb,ho,hd⟩,hr⟩:=h
  exact ⟨hk,⟨L,o,hf,hb,(hn L (List.mem_filterMap.mpr ⟨env,List.mem_cons_self,hf⟩)).trans ho,hd⟩,funFrames_but hr fun b hb=>by
   obtain ⟨e,he,q⟩:=List.mem_filterMap.mp hb
   exact hn b (List.mem_filterMap.mpr ⟨e,List.mem_cons_of_mem _ he,q⟩)⟩
abbrev blkX(X:Cx)(s:Shared)(H:Hp)(scope:Scope)(ce:PySem.Env)(fp:List Addr)(xe:Value→Shared→Prop):Cx:=Cx.tr (X.blk s H scope ce fp) [] xe
theorem takes_blk{X:Cx}{W:WX}{pins:List (Addr×Obj)}{σ:L2.St}{s:Shared}{H:Hp}{scope:Scope}{ce:PySem.Env}{fp:List Addr}{use:Option (Value→Sem Unit)}{Qf:Value→Shared→Prop}{acc:Value}
  (I:Inv X pins σ H s)(hs:X.stack=X.env :: X.outer)(hf:X.env.frame=some X.env.locals)(tk:Takes X W)(hce:ce.frame=X.env.frame)(hcl:ce.locals=s.heap.objs.size)
  (hfp:∀ b∈fp,FpOk X pins H b) :
  Takes (blkX X s H scope ce fp (notedBy (model X.prog X.w) X.A ce fun e s'=>compPostX (model X.prog X.w) X.A X.xe X.env.frame use Qf acc ce.locals (.error e) s')) (fun cls d _ H'=>W cls d σ H'):=by
 intro u s' x
 obtain ⟨a,Bh,sI,pins',σ',H',cls,d,rfl,I',nb,up,sky,na,os,ag,w⟩:=x
 have hfr:X.A.frames=some (X.env :: X.outer):=by rw [I.ok.frames,hs]
 have nst:ce.locals ∉ frs X.stack:=fun hm=>by
  obtain ⟨_,o,ho,_⟩:=I.stack.mem hm
  exact absurd (Heap.lt_size ho) (by rw [hcl]; exact Nat.lt_irrefl _)
 have hne:ce.locals ≠ X.env.locals:=by
  rw [hcl]
  exact Nat.ne_of_gt I.lt
 show wpAny _ X.A (noteFrame (.ref a) ce) _ _ s'
 rw [noteFrame_frame hce]
 have sky:Sky Bh (X.env :: X.outer) a (Zc cls d) ce.locals s'.heap:=by rw [← hs]; exact sky
 refine sky_note Zc.steady hfr hf hne sky fun h1 hh up1=>compPostX_err ?_
 obtain ⟨m,hn,_⟩:=I'.loc
 have hn:sI.heap.Ns ce.locals m:=hn
 have hn1:h1.Ns ce.locals m:=by
  obtain ⟨o,es,ep,ho,r⟩:=hn
  exact ⟨o,es,ep,hh.1 _ _ (nb _ _ ho nst),r⟩
 refine ⟨m,hn1,fun h2 sb cenv _ hcf=>?_⟩
 have nC:H' ce.locals=none:=I'.free
 obtain ⟨f0,f1,f2,f3,f4,f5⟩:=I.fpOk (b:=ce.locals) (H':=H') (Nat.le_of_eq hcl.symm) nC
 have gB:∀ b o,(PySem.W.hideAll Bh [ce.locals]).get? b=some o→b ≠ ce.locals∧Bh.get? b=some o:=fun b o e=>by
  refine ⟨fun z=>?_,PySem.W.of_hideAll _ e⟩
  rw [z,PySem.W.hideAll_none [ce.locals] (by simp)] at e
  cases e
 have gI:∀ b o,(PySem.W.hideAll sI.heap [ce.locals]).get? b=some o→b ≠ ce.locals∧sI.heap.get? b=some o:=fun b o e=>by
  refine ⟨fun z=>?_,PySem.W.of_hideAll _ e⟩
  rw [z,PySem.W.hideAll_none [ce.locals] (by simp)] at e
  cases e
 obtain ⟨k1,k2,k3,oe,vs,T,oT,ts,he,hz,hd,e1,hnT,hTe,hT,hdT,e3⟩:=hh
 have ndict:∀ b o vs,h1.get? b=some o→o.data = .fields vs→b ≠ ce.locals:=fun b o vs e hd z=>by
  obtain ⟨o',es,ep,ho,hd',_⟩:=hn1
  rw [z,ho] at e
  cases e
  rw [hd'] at hd
  cases hd
 have hea:=ndict a oe vs he hd
 have hTa:=ndict T oT ts hT hdT
 have at2:∀ b o,b ≠ ce.locals→h1.get? b=some o→h2.get? b=some o:=fun b o hb e=>(sb.2 b hb).trans e
 have none_of:∀ {b},Bh.get? b=none→(PySem.W.hideAll Bh [ce.locals]).get? b=none:=fun {b} e=>by
  cases q:(PySem.W.hideAll Bh [ce.locals]).get? b with
  | none=>rfl
  | some o=>rw [(gB b o q).2] at e; cases e
 have held:HandSPX.HeldZ (PySem.W.hideAll Bh [ce.locals]) (X.env :: X.outer) a (Zc cls d) X.env.locals h2:=by
  refine ⟨fun b o e=>at2 b o (gB b o e).1 (k1 b o (gB b o e).2),none_of k2,?_,oe,vs,T,oT,ts,at2 a oe hea he,hz,hd,e1,none_of hnT,hTe,at2 T oT hTa hT,hdT,e3⟩
  refine funFrames_none (funFrames_but k3 fun b hb=>sb.2 b fun z=>nst (by rw [hs,← z]; exact hb)) fun b hb=>none_of ?_
  exact (k3.mem hb).1
 have hra:h2.get? a=some oe:=at2 a oe hea he
 unfold PySem.passOn
 refine wpAny_bind (wpAny_field hra hd e1 ?_)
 rw [if_neg (by simp)]
 rw [hcf,hf]
 refine wpAny_bind (HandSPX.setFlight_onZ held fun h3 held3 up3=>wpAny_throw ?_)
 refine tk _ _ ⟨a,PySem.W.hideAll Bh [ce.locals],{ sI with heap:=PySem.W.hideAll sI.heap [ce.locals] },pins,σ,H',cls,d,rfl,?_,fun b o e hb=>?_,fun b o e hnf=>?_,.inr (.inr (by rw [hs]; exact held3)),na,os,ag,w⟩
 ·have I7:Inv X pins σ H' sI:=I.call' (ch:=fp) I'.os I'.base I'.hok I'.bare fun b hb=>⟨(hfp b hb).2.2.2.1,(hfp b hb).2.1,(hfp b hb).2.2.2.2.1,(hfp b hb).2.2.2.2.2⟩
  exact I7.turned (t':=sI.toks) (it:=ce.locals) (fun b o hb e=>PySem.W.hideAll_get _ e (by simpa using hb)) f0 f1 f3 f4 f5
 ·obtain ⟨hb1,e'⟩:=gI b o e
  exact PySem.W.hideAll_get _ (nb b o e' hb) (by simpa using hb1)
 ·obtain ⟨hb1,e'⟩:=gI b o e
  obtain ⟨sl,q⟩:=(up.trans up1) b o e' hnf
  exact up3 b { o with slots:=sl } (at2 b _ hb1 q) hnf
section
variable {X:Cx}
theorem inv_blkX{s s':Shared}{H H':Hp}{scope:Scope}{ce:PySem.Env}{fp:List Addr}{σ:L2.St}(xe:Value→Shared→Prop)(I:Inv (X.blk s H scope ce fp) [] σ H' s'):Inv (blkX X s H scope ce fp xe) [] σ H' s':=I.toTry xe
theorem lc_coreX{W:WX}{pins:List (Addr×Obj)}{s:Shared}{σ:L2.St}{H:Hp}{Q:VK}{elt tg iter:Expr}{ifs:List Expr}{scope:Scope}{own:List (Str×Nat)}{pos pos':Pos}{wi:TI}{g:TG}{tt:TT}{te:TE}{use:Option (Value→Sem Unit)}{Qf:Value→Shared→Prop}
  (hst:X.stack=X.env :: X.outer)(hfr:X.env.frame=some X.env.locals)(tk:Takes X W)
  (hc:X.calm=true)(hN:X.N.Nodup)(I:Inv X pins σ H s)(hi:PI X tg iter wi)(ok:BlkOk X.N X.env.scope scope own)
  (hg:∀ (s:Shared) (H:Hp) (C:Addr) (cl:List (Str×Addr)) (fp:List Addr) (xe:Value→Shared→Prop),PG (blkX X s H scope (compEnvC scope cl C X.env) fp xe) tg g)
  (ht:∀ (s:Shared) (H:Hp) (C:Addr) (cl:List (Str×Addr)) (fp:List Addr) (xe:Value→Shared→Prop),Takes (blkX X s H scope (compEnvC scope cl C X.env) fp xe) (fun cls d _ H'=>W cls d σ H')→PTs (blkX X s H scope (compEnvC scope cl C X.env) fp xe) ifs tt)
  (he:∀ (s:Shared) (H:Hp) (C:Addr) (cl:List (Str×Addr)) (fp:List Addr) (xe:Value→Shared→Prop),Takes (blkX X s H scope (compEnvC scope cl C X.env) fp xe) (fun cls d _ H'=>W cls d σ H')→PE (blkX X s H scope (compEnvC scope cl C X.env) fp xe) elt te)(hs:∀ x,foldedSetIterable iter X.env x=pure x)
  (h:tLc wi g tt te (own.map (·.2)) σ H Q)
  (hRR:∀ D C s' m H',Inv X pins σ H' s'→Q (.ref D) H'→s'.heap.Ns C m→FpOk X pins H' C→compPostX (model X.prog X.w) X.A X.xe X.env.frame use Qf (.ref D) C (.ok .next) s') :
  wpAny (model X.prog X.w) X.A (comprehension (.ListComp elt [⟨tg,iter,ifs,0⟩] scope pos) scope X.env pos' (newList []) false (eval iter X.env) use) Qf X.xe s:=by
 have hfree:∀ y∈scope.names,y.2 = .free→∃ c,X.env.cells.lookup y.1=some c:=fun y hy e=>I.ok.has _ (ok.free y hy e)
 refine comprehensionX (use:=use) rfl hs (closure_ok hfree) ok.kind (fun y hy e=>by rw [ok.uniq y hy,e])
  (thn (hi.run pins s σ H _ I h) fun xv s1 hx=>thn hx fun itv s2 h2=>?_)
 obtain ⟨it,fp,tn,J,H2,e,I2,T,st2,f2,q⟩:=h2
 subst e
 refine wpAny_newObj_type (newEnv_comp ?_) (by show 0≤sizeLine; decide)
 generalize hD:s2.heap.objs.size=D
 have hDn:H2 D=none:=I2.hok.fresh (Nat.le_of_eq hD)
 obtain ⟨Wt,⟨m0,w0⟩,turn⟩:=q D hDn
 generalize hs3:({ s2 with heap:=s2.heap.push { cls:=.type "list",data:=.seq ([]:List Value).toArray } }:Shared)=s3
 have I3:Inv X pins σ (upd H2 D (.lst [])) s3:=by
  rw [← hs3]
  refine I2.laid (t':=s2.toks) (fun b o e=>Heap.get?_push_of_some _ e) (Nat.le_of_eq hD) ⟨Nat.zero_le _,[],0,.nil,?_⟩
  rw [← hD]
  exact Heap.get?_push_size _ rfl
 have h3:s3.heap=s2.heap.push { cls:=.type "list",data:=.seq ([]:List Value).toArray }:=by rw [← hs3]
 have sz:∀ b∈fp,b < s2.heap.objs.size:=fun b hb=>by
  obtain ⟨o,e,_⟩:=T.obj _ _ st2 b hb
  exact Heap.lt_size e
 have f3:∀ b∈fp,FpOk X pins (upd H2 D (.lst [])) b∧b < s3.heap.objs.size:=fun b hb=>by
  have hlt:=sz b hb
  refine ⟨⟨?_,(f2 b hb).2⟩,by rw [h3,Heap.size_push]; exact Nat.lt_succ_of_lt hlt⟩
  rw [upd_ne (by rw [← hD]; exact Nat.ne_of_lt hlt)]
  exact (f2 b hb).1
 have st3:tn 0 s3.heap:=T.keep _ _ _ st2 fun b _ o e=>by rw [h3]; exact Heap.get?_push_of_some _ e
 have I4:=block_start I3 ok hN f3
 have pg:=fun xe=>hg s3 (upd H2 D (.lst [])) s3.heap.objs.size (cellsFrom (s3.heap.objs.size+1) scope.names (cloFrom X.env.cells scope.names [])) fp xe
 have pt:=fun xe=>ht s3 (upd H2 D (.lst [])) s3.heap.objs.size (cellsFrom (s3.heap.objs.size+1) scope.names (cloFrom X.env.cells scope.names [])) fp xe
 have pe:=fun xe=>he s3 (upd H2 D (.lst [])) s3.heap.objs.size (cellsFrom (s3.heap.objs.size+1) scope.names (cloFrom X.env.cells scope.names [])) fp xe
 show codeAny _ _ (.compStart (.ListComp elt [⟨tg,iter,ifs,0⟩] scope pos) 0 (.ref it) (.ref D) (compEnvC scope (cellsFrom (s3.heap.objs.size+1) scope.names (cloFrom X.env.cells scope.names [])) s3.heap.objs.size X.env)) (compPostX (model X.prog X.w) X.A X.xe X.env.frame use Qf (.ref D) s3.heap.objs.size) { s3 with heap:=pushCells (s3.heap.push { cls:=.type "dict",data:=.dict #[] }) scope.names }
 have nfp:∀ b∈fp,(upd H2 D (.lst [])) b=none:=fun b hb=>(f3 b hb).1.1
 have cF:(compEnvC scope (cellsFrom (s3.heap.objs.size+1) scope.names (cloFrom X.env.cells scope.names [])) s3.heap.objs.size X.env).frame=X.env.frame:=rfl
 have cL:(compEnvC scope (cellsFrom (s3.heap.objs.size+1) scope.names (cloFrom X.env.cells scope.names [])) s3.heap.objs.size X.env).locals=s3.heap.objs.size:=rfl
 generalize hce:compEnvC scope (cellsFrom (s3.heap.objs.size+1) scope.names (cloFrom X.env.cells scope.names [])) s3.heap.objs.size X.env=ce at I4 pg pt pe cF cL ⊢
 generalize hH3:upd H2 D (.lst [])=H3 at I3 I4 pg pt pe w0 nfp f3
 generalize hs4:({ s3 with heap:=pushCells (s3.heap.push { cls:=.type "dict",data:=.dict #[] }) scope.names }:Shared)=s4 at I4 ⊢
 have st4:tn 0 s4.heap:=T.keep _ _ _ st3 fun b _ o e=>by rw [← hs4]; exact pushCells_keeps _ _ _ _ (Heap.get?_push_of_some _ e)
 have tB:=takes_blk (use:=use) (Qf:=Qf) (acc:=.ref D) (scope:=scope) (fp:=fp) I3 hst hfr tk cF cL fun b hb=>(f3 b hb).1
 rw [← cL]
 generalize hR:compPostX (model X.prog X.w) X.A X.xe X.env.frame use Qf (.ref D) ce.locals=R at tB ⊢
 generalize hxe:(notedBy (model X.prog X.w) X.A ce fun e s'=>R (.error e) s')=xe at tB
 have pg:=pg xe
 have pt:=pt xe tB
 have pe:=pe xe tB
 have I4:=inv_blkX xe I4
 have stat:∀ {σ':L2.St} {H':Hp} {s':Shared},Inv (blkX X s3 H3 scope ce fp xe) [] σ' H' s'→(∀ b∈fp,H' b=none)→∀ b∈fp,FpOk (blkX X s3 H3 scope ce fp xe) [] H' b:=fun {σ' H' s'} I' hn b hb =>
  ⟨hn b hb,(I'.ok.exf b hb).1,I'.ok.exfs b hb,.inl hb,fun x c e=>(I'.ok.exf b hb).2 x c e,fun p hp=>absurd (show p∈([]:List (Addr×Obj))++[] from hp) (by simp)⟩
 have loop:codeAny (model X.prog X.w) X.A (.compLoop (.ListComp elt [⟨tg,iter,ifs,0⟩] scope pos) 0 (.ref it) (.ref D) ce) R s4:=by
  refine compLoop_any (fun n s'=>∃ i H',Inv (blkX X s3 H3 scope ce fp xe) [] (wipe σ (own.map (·.2))) H' s'∧tn i s'.heap∧(∀ b∈fp,H' b=none)∧Wt i n H') ?_ m0 ⟨0,H3,I4,st4,nfp,w0⟩
  rw [hxe]
  rintro n s5 ⟨i,H5,I5,st5,n5,w5⟩
  rcases turn i n H5 w5 with ⟨stop,qq⟩ | ⟨go,Nx,hNx,step⟩
  ·have td:=T.done (blkX X s3 H3 scope ce fp xe) rfl rfl rfl hc i [] s5 _ H5 (fun _ _=>False) I5 (stat I5 n5) st5 stop
   refine thnF td fun r s6 ⟨hr,I6⟩=>?_
   subst hr
   have I7:Inv X pins σ H5 s6:=I3.call' (ch:=fp) I6.os I6.base I6.hok I6.bare fun b hb=>⟨(f3 b hb).1.2.2.2.1,(f3 b hb).1.2.1,(f3 b hb).1.2.2.2.2.1,(f3 b hb).1.2.2.2.2.2⟩
   have nC:H5 ce.locals=none:=I6.free
   obtain ⟨m,hn,_⟩:=I6.loc
   have hn:s6.heap.Ns ce.locals m:=hn
   show R (.ok .next) s6
   rw [← hR]
   exact hRR D ce.locals s6 m H5 I7 qq hn (I3.fpOk (Nat.le_of_eq cL.symm) nC)
  ·have ti:=T.item (blkX X s3 H3 scope ce fp xe) rfl rfl rfl hc i [] s5 _ H5 (fun _ _=>False) I5 (stat I5 n5) st5 go
   refine thnF ti fun r s6 ⟨u,hr,h6⟩=>?_
   subst hr
   refine thnF h6 fun _ s7 ⟨x,H7,I7,r7,y7,st7,n7⟩=>?_
   have I7':=I7.pinned (stat I7 n7) (T.obj _ _ st7)
   refine thn (pg.run _ s7 _ H7 x u _ I7' r7 (step x H7 y7)) fun _ s8 ⟨σ8,H8,I8,hw8,q8⟩=>?_
   refine thn (pt.run _ s8 σ8 H8 _ I8 q8) fun b s9 ⟨H9,I9,q9⟩=>?_
   have fin:∀ {s':Shared} {H':Hp},Inv (blkX X s3 H3 scope ce fp xe) ([]++pinsAt fp s7.heap) σ8 H' s'→Nx H'→∃ m,m < n∧∃ i H',Inv (blkX X s3 H3 scope ce fp xe) [] (wipe σ (own.map (·.2))) H' s'∧tn i s'.heap∧(∀ b∈fp,H' b=none)∧Wt i m H':=fun {s' H'} I' nx=>by
    obtain ⟨m',hm,w'⟩:=hNx H' nx
    have pin':∀ b∈fp,∀ o,s7.heap.get? b=some o→s'.heap.get? b=some o∧H' b=none:=fun b hb o e =>
     let z:=I'.pin (b,o) (List.mem_append_right _ (List.mem_append_right _ (mem_pinsAt hb e)))
     ⟨z.1,z.2.1⟩
    have hl:(wipe σ (own.map (·.2))).length=σ8.length:=by rw [← hw8,L2.wipe_length]
    refine ⟨m',hm,i+1,H',(I'.unpinned (pins:=[])).weak hl (fun j v e=>?_),T.keep _ _ _ st7 fun b hb o e=>(pin' b hb o e).1,fun b hb=>?_,w'⟩
    ·rw [← hw8] at e
     exact (wipe_some e).1
    ·obtain ⟨o,e,_⟩:=T.obj _ _ st7 b hb
     exact (pin' b hb o e).2
   cases b with
   | false =>
    simp only [Bool.false_eq_true,if_false] at q9 ⊢
    exact fin I9 q9
   | true =>
    simp only [if_true] at q9 ⊢
    refine thn (pe.run _ s9 σ8 H9 _ I9 q9) fun z s10 ⟨yv,H10,I10,r10,acc,hD10,hz10,nx⟩=>?_
    exact app_ok (X:=blkX X s3 H3 scope ce fp xe) I10 hD10 hz10 r10 fun s11 I11=>fin I11 nx
 exact codeAny_compStart_list loop (T.self X.A 0 _ _ _ st4 loop)
end
end Vl
end
section
set_option Elab.async false
set_option linter.all false
set_option maxRecDepth 100000
set_option maxHeartbeats 1000000
namespace Vl
open PySem L2 Vm PyProof.Rows
section
variable {C:Cn} {cm:Bool} {k:Nat} {N:List Str} {sc so:Scope} {a b c e tg:Expr} {es:List Expr} {A B:EX} {As:EXs} {T U:TX} {pos p:Pos} {X:Cx} {x:Str}
theorem lcGo_exc{Γ:En}{pat:Pat}{c:TX}{e:EX}{x:TV}{xs:List TV}{n:Nat}(h:lcGo Γ pat c e (x :: xs) = .exc n):∃ Γ',bindP Γ x pat = .ok Γ'∧(c Γ' = .exc n ∨ ∃ b,c Γ' = .ok b ∧
  (b=true→e Γ' = .exc n ∨ ∃ y p,e Γ' = .ok y∧putV y = .ok p∧lcGo Γ pat c e xs = .exc n)∧(b=false→lcGo Γ pat c e xs = .exc n)):=by
 unfold lcGo at h
 cases h1:bindP Γ x pat with
 | ok Γ' =>
  rw [h1,bind_ok] at h
  refine ⟨Γ',rfl,?_⟩
  cases h2:c Γ' with
  | ok b =>
   rw [h2,bind_ok] at h
   refine .inr ⟨b,rfl,fun hb=>?_,fun hb=>?_⟩
   ·rw [if_pos hb] at h
    cases h3:e Γ' with
    | ok y =>
     rw [h3,bind_ok] at h
     cases h4:putV y with
     | ok p =>
      rw [h4,bind_ok] at h
      refine .inr ⟨y,p,rfl,h4,?_⟩
      cases h5:lcGo Γ pat c e xs with
      | ok r=>rw [h5,bind_ok] at h; cases h
      | exc m=>rw [h5] at h; cases h; rfl
      | bad=>rw [h5] at h; cases h
     | exc _=>exact (put_noexc h4).elim
     | bad=>rw [h4] at h; cases h
    | exc m=>rw [h3] at h; cases h; exact .inl rfl
    | bad=>rw [h3] at h; cases h
   ·rw [hb] at h
    exact h
  | exc m=>rw [h2] at h; cases h; exact .inl rfl
  | bad=>rw [h2] at h; cases h
 | exc _=>exact (bindP_noexc h1).elim
 | bad=>rw [h1] at h; cases h
variable {elt iter:Expr} {ifs:List Expr} {scope:Scope} {own:List (Str×Nat)} {I:IX} {pat:Pat}
theorem lc_readsX{wi:TI}{g:TG}{tt:TT}{te:TE}{ow:List Nat}{W WB:WX}{σ:L2.St}{Γ:En}{F0 H0 F H:Hp}{Q:VK}(gd:Good C.K F0 H0 Γ σ F H)(hWB:∀ cls d σ' H',W cls d σ H'→WB cls d σ' H')
  (qi:∀ (R:It→Hp→Prop),(match I Γ with
   | .ok y=>∀ J F' H',Ext F H F' H'→ItOk C.K J y.1 y.2 F' H'→R J H'
   | .exc c=>∀ F' H',Ext F H F' H'→W (C.xc c) none σ H'
   | .bad=>False)→wi σ H R)
  (qg:∀ Γ σ F0 H0 F H x v Hs Q,Good C.K F0 H0 Γ σ F H→RV C.K F H Hs x v→(match bindP Γ x pat with
   | .ok Γ'=>∀ σ',Good C.K F0 H0 Γ' σ' F H→(∀ ws:List Nat,(∀ i∈pat.slots,i∈ws)→wipe σ' ws=wipe σ ws)→Q σ' H
   | _=>False)→g v σ H Q)
  (qt:∀ σ Γ F0 H0 F H Q,Good C.K F0 H0 Γ σ F H→TOk C WB σ F H Q (T Γ)→tt σ H Q)
  (qe:∀ σ Γ F0 H0 F H Q,Good C.K F0 H0 Γ σ F H→EOk C WB σ F H Q (A Γ)→te σ H Q)
  (hsl:∀ i∈pat.slots,i∈ow)(h:EOk C W σ F H Q (eLCX ow I pat T A Γ)):tLc wi g tt te ow σ H Q:=by
 refine qi _ ?_
 unfold eLCX at h
 cases ei:I Γ with
 | exc c=>rw [ei] at h; exact h
 | bad=>rw [ei] at h; exact h
 | ok y =>
  rw [ei,bind_ok] at h
  intro J F1 H1 e1 it D hD
  have hsz:y.2.length≤16777216:=by
   by_cases z:y.2.length≤16777216
   ·exact z
   ·rw [if_neg z] at h; exact h.elim
  rw [if_pos hsz] at h
  cases el:lcGo (wipeE Γ ow) pat T A y.2 with
  | exc c =>
   rw [el] at h
   have h:∀ F' H',Ext F H F' H'→W (C.xc c) none σ H':=h
   refine ⟨fun i m H'=>m=y.2.length - i∧i≤y.2.length∧∃ F' acc vs,Ext F1 H1 F' H'∧F' D=none∧H' D=some (.lst vs)∧RepL C.K F' acc vs∧acc.length≤i∧lcGo (wipeE Γ ow) pat T A (y.2.drop i) = .exc c,?_,?_⟩
   ·exact ⟨_,rfl,Nat.zero_le _,F1,[],[],Ext.lst e1.fh e1.tp hD,e1.fh.free hD,upd_same,RepL.nil,Nat.le_refl _,el⟩
   ·rintro i m H' ⟨rfl,hi,F',acc,vs,e2,fD,hD',ra,hal,hr⟩
    obtain ⟨i1,i2,i3⟩:=it.2 i F' H' e2.ff e2.fh e2.tp (fun _=>e2.hh)
    by_cases hlt:i < y.2.length
    ·refine .inr ⟨i1 hlt,fun H''=>∃ F'' acc vs,Ext F1 H1 F'' H''∧F'' D=none∧H'' D=some (.lst vs)∧RepL C.K F'' acc vs∧acc.length≤i+1∧lcGo (wipeE Γ ow) pat T A (y.2.drop (i+1)) = .exc c,fun H'' hN=>⟨y.2.length - (i+1),by omega,rfl,hlt,hN⟩,fun x H2 hy=>?_⟩
     obtain ⟨itm,hit,F2,e3,rx⟩:=i3 x H2 hlt hy
     have hd:y.2.drop i=itm :: y.2.drop (i+1):=by
      rw [List.drop_eq_getElem_cons hlt]
      rw [List.getElem?_eq_getElem hlt] at hit
      cases hit
      rfl
     rw [hd] at hr
     obtain ⟨Γ',h1,h2⟩:=lcGo_exc hr
     have eall:=e1.trans (e2.trans e3)
     have g2:=(gd.next eall).wipe ow
     refine qg _ _ F0 H0 F2 H2 itm x H2 _ g2 (rx H2) ?_
     rw [h1]
     intro σ2 g3 w3
     refine ⟨by rw [w3 ow hsl]; exact wipe_idem ow fun _ z=>z,?_⟩
     refine qt σ2 Γ' F0 H0 F2 H2 _ g3 ?_
     rcases h2 with h2 | ⟨b,h2,h3,h4⟩
     ·rw [h2]
      intro F3 H3 e4
      exact hWB _ _ _ _ (h F3 H3 (eall.trans e4))
     rw [h2]
     intro F3 H3 e4
     have keepD:∀ {Fx Hx:Hp},Ext F' H' Fx Hx→Fx D=none∧Hx D=some (.lst vs):=fun {Fx Hx} ee=>by
      refine ⟨?_,ee.hh _ _ hD'⟩
      cases q:Fx D with
      | none=>rfl
      | some o =>
       rcases ee.nw D (by rw [q]; simp) with z | z
       ·exact (z fD).elim
       ·rw [hD'] at z; cases z
     cases b with
     | true =>
      rw [if_pos rfl]
      refine qe σ2 Γ' F0 H0 F3 H3 _ (g3.next e4) ?_
      rcases h3 rfl with h5 | ⟨yy,p,h5,h6,h7⟩
      ·rw [h5]
       intro F4 H4 e5
       exact hWB _ _ _ _ (h F4 H4 ((eall.trans e4).trans e5))
      rw [h5]
      intro v F4 H4 e5 rv
      obtain ⟨F5,e6,rp⟩:=rv.put e5 h6
      have ef:=e3.trans (e4.trans e6)
      obtain ⟨k1,k2⟩:=keepD ef
      refine ⟨vs,k2,?_,F5,acc++[p],vs++[v],?_,k1,upd_same,(ra.mono ef.ff _ _).append (RepL.cons rp RepL.nil),by simp; omega,h7⟩
      ·rw [ra.len,← szL_eq]
       omega
      ·have eu:=e2.trans ef
       refine ⟨eu.ff,fun a o z=>?_,fun a o z=>?_,tups_new eu.tp (fun _ z=>by cases z) k1,eu.nw⟩
       ·rw [upd_ne (ne_of_none z hD)]; exact eu.hh _ _ z
       ·rw [upd_ne (ne_of_none z k1)]; exact eu.fh _ _ z
     | false =>
      rw [if_neg Bool.false_ne_true]
      have ef:=e3.trans e4
      obtain ⟨k1,k2⟩:=keepD ef
      exact ⟨F3,acc,vs,e2.trans ef,k1,k2,ra.mono ef.ff _ _,by omega,h4 rfl⟩
    ·have ein:i=y.2.length:=by omega
     rw [List.drop_eq_nil_of_le (by omega)] at hr
     cases hr
  | bad=>rw [el] at h; exact h.elim
  | ok ps =>
   have h0:EOk C W σ F H Q (eLC ow I pat T A Γ):=by
    unfold eLC
    rw [ei,bind_ok,el]
    rw [el] at h
    exact h
   have z:=lc_reads (T:=T) (A:=A) (pat:=pat) (g:=g) (tt:=tt) (te:=te) (ow:=ow) (W:=W) (σ:=σ) (Q:=Q) (wi:=fun _ _ R=>R J H1) gd (I:=fun Γ=>.ok y) (fun R hR=>hR J F1 H1 e1 it) qg (fun σ Γ F0 H0 F H Q g h=>qt σ Γ F0 H0 F H Q g (by
    cases e:T Γ with
    | ok b=>rw [e] at h; exact h
    | exc c=>rw [e] at h; exact fun F' H' ee=>(h F' H' ee).elim
    | bad=>rw [e] at h; exact h)) (fun σ Γ F0 H0 F H Q g h=>qe σ Γ F0 H0 F H Q g (by
    cases e:A Γ with
    | ok b=>rw [e] at h; exact h
    | exc c=>rw [e] at h; exact fun F' H' ee=>(h F' H' ee).elim
    | bad=>rw [e] at h; exact h)) hsl (by
    unfold eLC at h0 ⊢
    rw [ei] at h0
    exact h0)
   exact z D hD
variable (C cm k N sc) in
def DEx (e:Expr) (E:EX):Prop:=∃ tb:WX→TE,(∀ X,StaS C cm k N sc X→∀ W,Takes X W→PE X e (tb W)) ∧
 ∀ W σ Γ F0 H0 F H Q,Good C.K F0 H0 Γ σ F H→EOk C W σ F H Q (E Γ)→tb W σ H Q
variable (C cm k N sc) in
def DAx (es:List Expr) (E:EXs):Prop:=∃ tb:WX→TA,(∀ X,StaS C cm k N sc X→∀ W,Takes X W→PA X es (tb W)) ∧
 ∀ W σ Γ F0 H0 F H Q,Good C.K F0 H0 Γ σ F H→AOk C W σ F H Q (E Γ)→tb W σ H Q
theorem dex_of(h:DE C cm k N sc e A):DEx C cm k N sc e A:=by
 obtain ⟨tb,pb,qb⟩:=h
 exact ⟨tb,fun X S W T=>pb X S.toSta W T,qb⟩
theorem dax_nil:DAx C cm k N sc [] eNil:=⟨fun _=>tNil,fun _ _ _ _=>pa_nil,fun W σ Γ F0 H0 F H Q g h=>h [] [] F H g.here ⟨rfl,rfl⟩⟩
theorem dax_cons(ha:DEx C cm k N sc e A)(hs:DAx C cm k N sc es As)(hst:∀ env:PySem.Env,starEach (e :: es) env=(false,eval e env) :: starEach es env:=by intro _; rfl):DAx C cm k N sc (e :: es) (eCons A As):=by
 obtain ⟨ta,pa,qa⟩:=ha
 obtain ⟨tb,pb,qb⟩:=hs
 refine ⟨fun W=>tCons (ta W) (tb W),fun X S W T=>pa_cons (pa X S W T) (pb X S W T) (hst _),fun W σ Γ F0 H0 F H Q g h=>?_⟩
 refine qa W σ Γ F0 H0 F H _ g ?_
 unfold eCons at h
 cases ex:A Γ with
 | exc c=>rw [ex] at h; exact h
 | bad=>rw [ex] at h; exact h
 | ok x =>
  rw [ex,bind_ok] at h
  intro v F1 H1 e1 r1
  refine qb W σ Γ F0 H0 F1 H1 _ (g.next e1) ?_
  cases exs:As Γ with
  | exc c=>rw [exs] at h; exact fun F' H' e'=>h F' H' (e1.trans e')
  | bad=>rw [exs] at h; exact h
  | ok xs =>
   rw [exs,bind_ok] at h
   intro vs fp F2 H2 e2 r2
   obtain ⟨f,rf,hf⟩:=r1.norm
   refine h (v :: vs) (f++fp) F2 H2 (e1.trans e2) ⟨v,vs,f,fp,rfl,rfl,rf.ext e2,r2.start e1.hh,fun a ha hm=>(hf a ha).2 (r2.news a hm).1,fun a ha=>⟨(hf a ha).1,fun z=>(hf a ha).2 (e2.hh.free z)⟩⟩
theorem dex_tup(hs:DAx C cm k N sc es As){x1}:DEx C cm k N sc (.Tuple es x1 pos) (eTup As):=by
 obtain ⟨tb,pb,qb⟩:=hs
 refine ⟨fun W=>tTupD (tb W),fun X S W T=>pe_tupD (pb X S W T),fun W σ Γ F0 H0 F H Q g h=>?_⟩
 refine qb W σ Γ F0 H0 F H _ g (AOk.bind h fun xs vs fp F1 H1 ex e1 r1 h1=>?_)
 cases hp:putVs xs with
 | ok ps =>
  rw [hp,bind_ok] at h1
  obtain ⟨F2,e2,s2,r2,_⟩:=RVs.put e1 r1 hp
  by_cases hz:ps.length≤16777216
  ·rw [if_pos hz] at h1
   refine ⟨by rw [r2.len,← szL_eq]; exact hz,fun p o hp hd=>?_⟩
   refine h1 (.ref p) (upd F2 p (tq (o,vs))) _ (e2.trans (Ext.tup e2.fh e2.tp hp)) (.fz ?_)
   unfold Rep
   exact ⟨p,vs,rfl,.new hd,r2.mono (same_new (e2.fh.free hp)) _ _⟩
  ·rw [if_neg hz] at h1; exact h1.elim
 | exc c=>exact (putVs_noexc hp).elim
 | bad=>rw [hp] at h1; exact h1.elim
theorem dex_tuple (ha:DEx C cm k N sc a A) (mx:C.mg "tuple" = none) (hg:sc.names.lookup ("tuple":Str)=some .globalImplicit:=by rfl)
  (hst:∀ env:PySem.Env,starEach [a] env=(false,eval a env) :: starEach [] env:=by intro _; rfl):DEx C cm k N sc (.Call (.Name "tuple" p) [a] [] pos) (eTuple A):=by
 obtain ⟨ta,pa,qa⟩:=ha
 refine ⟨fun W=>tCB (fun xs H Q=>∃ p ys,xs=[.ref p]∧((SqL C.K H p ys∧NewT ys H Q) ∨ (SqT C.K H p ys∧Q (.ref p) H))) (tCons (ta W) tNil),fun X S W T=>pe_callTy (by rw [← S.K]; exact call_tupleD) (S.gl hg) (by rw [S.mg]; exact mx) (by decide +kernel) (pa_cons (pa X S W T) pa_nil (hst _)) (by decide) (by decide) (hst _) rfl,fun W σ Γ F0 H0 F H Q g h=>?_⟩
 refine qa W σ Γ F0 H0 F H _ g (EOk.bind h fun x v F1 H1 ex e1 r1 h1=>?_)
 have h:=h1.next e1
 have hf:=e1.fh
 have ht:=e1.tp
 obtain ⟨t,q⟩:=x
 have fin:Ext F1 H1 F1 H1:=Ext.refl hf ht
 cases q with
 | lst l =>
  have h:EOk C W σ F1 H1 Q (if flat1 t then .ok (.fz,.tup l) else .bad):=h
  by_cases f1:flat1 t=true
  ·rw [if_pos f1] at h
   obtain ⟨ad,vs,rfl,s2,r3⟩:=rv_flat hf r1 f1
   refine ⟨ad,vs,rfl,.inl ⟨s2,fun p o hp hd=>?_⟩⟩
   refine h _ (upd F1 p (tq (o,vs))) _ (Ext.tup hf ht hp) (.fz ?_)
   unfold Rep
   exact ⟨p,_,rfl,.new hd,r3.mono (same_new (hf.free hp)) _ _⟩
  ·rw [if_neg f1] at h; exact h.elim
 | tup l =>
  obtain ⟨ad,vs,rfl,s2,r3⟩:=rv_tup r1
  refine ⟨ad,vs,rfl,.inr ⟨(TupAt.sq (TupAt.mono hf s2)),h _ F1 H1 fin (.fz ?_)⟩⟩
  unfold Rep
  exact ⟨ad,vs,rfl,s2,r3⟩
 | _=>exact h.elim
theorem sta_blkX(S:Sta C cm k N sc X){s:Shared}{H:Hp}{scope:Scope}{Ca:Addr}{cl:List (Str×Addr)}{fp:List Addr}{xe:Value→Shared→Prop}:Sta C cm k N (relS scope sc) (blkX X s H scope (compEnvC scope cl Ca X.env) fp xe):=by
 have hs:=S.s
 subst hs
 exact ⟨S.cn,S.n,rfl,S.nd,S.c,S.r,S.u⟩
theorem req_blkX{s:Shared}{H:Hp}{scope:Scope}{env:PySem.Env}{fp:List Addr}{xe:Value→Shared→Prop}:FnReq scope (blkX X s H scope env fp xe):=fun x h=>by
 show (scope.names.lookup x == some .cell)=true
 rw [h]; rfl
def wB(W:WX)(σ:L2.St):WX:=fun cls d _ H=>W cls d σ H
theorem dex_lcx{pos:Pos}(hi:DI C true k N sc tg iter I)(ok:blkC N sc scope own=true)(hg:DG C true k N (relS scope sc) scope tg pat)(ht:DF C true k N (relS scope sc) ifs T)(he:DE C true k N (relS scope sc) elt A)
  (hs:∀ (env:PySem.Env) x,foldedSetIterable iter env x=pure x:=by intro _ _; rfl)(hsl:∀ i∈pat.slots,i∈own.map (·.2):=by decide):DEx C true k N sc (.ListComp elt [⟨tg,iter,ifs,0⟩] scope pos) (eLCX (own.map (·.2)) I pat T A):=by
 obtain ⟨ti,pi,qi⟩:=hi
 obtain ⟨g,pg,qg⟩:=hg
 obtain ⟨tt,pt,qt⟩:=ht
 obtain ⟨te,pe,qe⟩:=he
 refine ⟨fun W σ H Q=>tLc (ti W) g (tt (wB W σ)) (te (wB W σ)) (own.map (·.2)) σ H Q,fun X S W Tk=>⟨fun pins s σ H Q I h=>?_⟩,fun W σ Γ F0 H0 F H Q gd h=>?_⟩
 ·rw [eval_ListComp]
  refine lc_coreX S.sk S.fr Tk (S.c rfl) (by rw [S.n]; exact S.nd) I (pi X S.toSta W Tk) (blkOk_by (by rw [S.n,S.s]; exact ok)) (fun s H Ca cl fp xe=>pg _ (sta_blkX S.toSta) req_blkX) (fun s H Ca cl fp xe tk=>pt _ (sta_blkX S.toSta) _ tk) (fun s H Ca cl fp xe tk=>pe _ (sta_blkX S.toSta) _ tk) (hs _) h fun D Ca s' m H' I' q hn f=>⟨m,hn,fun h'' sb=>?_⟩
  obtain ⟨f0,f1,f2,f3,f4,f5⟩:=f
  exact ⟨.ref D,H',I'.turned (t':=s'.toks) (fun b o hb e=>(sb.2 b hb).trans e) f0 f1 f3 f4 f5,rfl,q⟩
 ·exact lc_readsX gd (fun cls d σ' H' w=>w) (fun R=>qi W σ Γ F0 H0 F H R gd) qg (qt _) (qe _) hsl h
end
section
variable {C:Cn} {cm:Bool} {k:Nat} {N:List Str} {sc so:Scope} {a b c e tg:Expr} {es:List Expr} {A B:EX} {As:EXs} {T U:TX} {pos p:Pos} {X:Cx} {x:Str}
theorem dsx_set(i:Nat){x:Str}{pos':Pos}(he:DEx C cm k N sc e A)(hi:N[i]? = some x:=by rfl)(hx:Loc sc x:=by first | exact Or.inl rfl | exact Or.inr rfl)
  (hs:∀ env:PySem.Env,env.scope=sc→swapsWith e (some (.Name x pos')) pos.line env=pure false:=by intro env _; rfl):DS C cm k N sc (.Assign [.Name x pos'] e pos) (dSet i A):=by
 obtain ⟨ta,pa,qa⟩:=he
 refine ⟨fun W=>tAsg (ta W) (gName i),fun X S W T=>ps_set (by rw [S.n]; exact S.nd) (by rw [S.n]; exact hi) (by rw [S.s]; exact hx) (pa X S W T) (hs _ S.s) (by
  rcases hx with hx | hx
  ·exact .inr (by rw [S.s]; exact hx)
  ·exact .inl (S.rq _ hx)),fun W D σ Γ F0 H0 F H g h=>?_⟩
 refine qa W σ Γ F0 H0 F H _ g.toGood (OutOk.bind g h fun x v F1 H1 ex e1 r1 h1=>?_)
 cases hp:putV x with
 | ok p =>
  rw [hp,after_ok] at h1
  obtain ⟨F2,e2,r2⟩:=r1.put e1 hp
  exact h1 _ F2 H1 ((g.next e2).setF i r2)
 | exc c=>exact (put_noexc hp).elim
 | bad=>rw [hp] at h1; exact h1.elim
theorem dsx_ret(he:DEx C cm k N sc e A):DS C cm k N sc (.Return (some e) pos) (dRet A):=by
 obtain ⟨ta,pa,qa⟩:=he
 refine ⟨fun W=>tRet (ta W),fun X S W T=>ps_ret (pa X S W T),fun W D σ Γ F0 H0 F H g h=>?_⟩
 refine qa W σ Γ F0 H0 F H _ g.toGood (OutOk.bind g h fun x v F1 H1 ex e1 r1 h1=>?_)
 obtain ⟨t,q⟩:=x
 have ee:=g.ext.trans e1
 have rs:=r1.start g.ext.hh
 cases t with
 | fz=>exact h1 v F1 H1 ee rs
 | ow d=>exact h1 v F1 H1 ee rs
 | bw d =>
  cases d with
  | zero=>obtain ⟨_,fp,z⟩:=rs; exact h1 v F1 H1 ee (.fz z.2)
  | succ d=>exact h1.elim
end
section
variable {C:Cn} {k:Nat} {N:List Str} {sc:Scope} {tg elt iter:Expr} {ifs:List Expr} {scope:Scope} {own:List (Str×Nat)} {I:IX} {pat:Pat} {A:EX} {T:TX} {pos p:Pos}
end
end Vl
end
section
set_option linter.all false
set_option maxRecDepth 10000
namespace Vm
end Vm
end
section
set_option Elab.async false
set_option linter.all false
set_option maxRecDepth 100000
set_option maxHeartbeats 1000000
namespace Vl
open PySem L2 Vm PyProof.Rows
section
variable {C:Cn} {F0 H0 F H F1 H1:Hp} {Γ:En} {σ:L2.St}
end
section
variable {C:Cn} {k:Nat} {N:List Str} {sc:Scope} {b1 b2 e tg:Expr} {A B1 B2:EX} {pos p1 p2 p3 p4 apos cpos pos':Pos} {X:Cx} {x:Str} {pat:Pat}
end
section
variable {C:Cn} {cm:Bool} {k:Nat} {N:List Str} {sc:Scope} {b e:Expr} {A B:EX} {pos p1 p2 pos':Pos} {x:Str}
end
end Vl
end
section
set_option Elab.async false
set_option linter.all false
set_option maxRecDepth 100000
set_option maxHeartbeats 1000000
namespace Vl
open PySem L2 Vm PyProof.Rows
section
variable {C:Cn} {cm:Bool} {k:Nat} {N:List Str} {sc so:Scope} {a:Expr} {A:EX} {pos p:Pos}
end
section
variable {C:Cn} {cm:Bool} {k:Nat} {N:List Str} {sc so:Scope} {a b:Expr} {A B:EX} {pos p:Pos}
end
end Vl
end
section
set_option linter.all false
set_option maxRecDepth 10000
namespace Vm
def dTryT(cs:List (Nat×Bool))(i:Nat)(b h:ST):ST:=fun Γ=>match b Γ with
 | .exc c Γ'=>match takesC cs c with
  | some true=>if Nat.ble (i+1) Γ'.length then match h (Γ'.set i (some (.fz,.exo (c+2) []))) with
   | .nx Γ2=>.nx (Γ2.set i none)
   | _=>.bad
   else .bad
  | some false=>.exc c Γ'
  | none=>.bad
 | o=>o
def isEV(tab:List (Nat×Bool))(x:TV):Res TV:=match x with
 | (.fz,.exo (c+2) _)=>match takesC tab c with
  | some b=>.ok (.fz,.bl b)
  | none=>.bad
 | _=>.bad
def eIsE(tab:List (Nat×Bool))(a:EX):EX:=fun Γ=>(a Γ).bind (isEV tab)
def isEsV(tabs:List (List (Nat×Bool)))(x:TV):Res TV:=match x with
 | (.fz,.exo (c+2) _)=>if tabs.all fun t=>(takesC t c).isSome then .ok (.fz,.bl (isCs tabs c)) else .bad
 | _=>.bad
def eIsEs(tabs:List (List (Nat×Bool)))(a:EX):EX:=fun Γ=>(a Γ).bind (isEsV tabs)
def upV(x:TV):Res TV:=match x.2 with
 | .str [97]=>.ok (.fz,.str [65])
 | .str [98]=>.ok (.fz,.str [66])
 | _=>.bad
def eUpper(a:EX):EX:=fun Γ=>(a Γ).bind upV
end Vm
end
section
set_option Elab.async false
set_option linter.all false
set_option maxRecDepth 100000
set_option maxHeartbeats 1000000
namespace L2
open PySem PySem.Spec PyProof.Rows
section
variable {X:Cx} {pins:List (Addr×Obj)} {σ:St} {H:Hp} {sI s:Shared} {B:Heap}
theorem Inv.suiteT(I:Inv X pins σ H s)(J:Inv X pins σ H sI)(hs:X.stack=X.env :: X.outer)(hf:X.env.frame=some X.env.locals)(nb:∀ b o,sI.heap.get? b=some o→b ∉ frs X.stack→B.get? b=some o){a:Addr}{oe:Obj}{vs:Array Value}(ha:s.heap.get? a=some oe)(hd:oe.data = .fields vs)(na:H a=none)(nL:a ≠ X.env.locals)(nF:a ∉ X.fs)(nB:B.get? a=none) :
  Inv (X.suite a (X.pn++pins)) [] σ (upd H a (Vl.excHO oe)) s:=by
 have pfr:∀ q,q ≠ X.env.locals→q ∉ X.fs→q ∉ frs X.stack:=fun q h1 h2 hm=>by
  rw [hs] at hm
  obtain ⟨e,he,q'⟩:=List.mem_filterMap.mp hm
  rcases List.mem_cons.mp he with rfl | he
  ·rw [hf] at q'; cases q'; exact h1 rfl
  ·exact h2 (List.mem_filterMap.mpr ⟨e,he,q'⟩)
 have out:∀ b o,sI.heap.get? b=some o→b ≠ a:=fun b o e q=>by
  subst q
  have:=nb b o e (pfr b nL nF)
  rw [nB] at this; cases this
 have up:∀ {b:Addr},b ≠ a→upd H a (Vl.excHO oe) b=H b:=fun h=>upd_ne h
 have hb:∀ {b:Addr} {o:HO},H b=some o→b ≠ a:=fun e q=>by rw [q,na] at e; cases e
 refine ⟨I.ok.suite _ _,I.os,I.bare,⟨I.base.keep,I.base.slot,fun b o e n hx=>?_,I.base.there,fun b xs e=>?_,fun b o u e=>?_,fun b ps e=>?_⟩,I.loc,I.cell,?_,fun x c e=>?_,fun p hp=>?_,fun b o e=>?_,I.len⟩
 ·obtain ⟨o',e'⟩:=J.base.there b o e hx
  rw [up (out b o' e')]
  exact I.base.free b o e n hx
 ·have:=I.base.tups b xs e
  rw [up (hb this)]; exact this
 ·have:=I.base.frzs b o u e
  rw [up (hb this)]; exact this
 ·obtain ⟨more,h⟩:=I.base.tbls b ps e
  exact ⟨more,by rw [up (hb h)]; exact h⟩
 ·rw [up (fun z=>nL z.symm)]; exact I.free
 ·obtain ⟨v,hc⟩:=I.cell x c e
  have:c ≠ a:=fun z=>by
   subst z
   obtain ⟨oc,h1,h2⟩:=hc
   rw [ha] at h1; cases h1
   rw [hd] at h2; cases h2
  rw [up this]; exact I.freeC x c e
 ·have hp':p∈X.pn++pins:=by rw [List.append_nil] at hp; exact hp
  obtain ⟨h1,h2,h3,h4,h5⟩:=I.pin p hp'
  obtain ⟨j1,_⟩:=J.pin p hp'
  exact ⟨h1,by rw [up (out _ _ j1)]; exact h2,h3,h4,h5⟩
 ·by_cases q:b=a
  ·subst q
   rw [upd_same] at e
   cases e
   exact ⟨ha,trivial,⟨_,ha⟩,fun _ _ _ _=>trivial⟩
  ·rw [up q] at e
   refine (I.hok b o e).stay (fun _ _ _ h=>h) (fun c h=>?_) (fun c xs h=>?_)
   ·rw [up (hb h)]; exact h
   ·rw [up (hb h)]; exact h
theorem Inv.unsuiteT{a:Addr}{pn':List (Addr×Obj)}(I:Inv (X.suite a (X.pn++pins)) pn' σ H s)(ok:X.Ok):Inv X pins σ H s :=
 ⟨ok,I.os,I.bare,I.base,I.loc,I.cell,I.free,I.freeC,fun p hp=>I.pin p (List.mem_append_left _ hp),I.hok,I.len⟩
def wAsT(K:PySem.W.Frag)(c:Value)(i:Nat)(ts:Addr→Value→Option Addr→TS)(Wout:WX)(D:Ends):WX:=fun cls d σ H =>
 ∃ b,PySem.W.exmOne K cls c=some b∧(b=true→∀ a oe,H a=none→Zc cls d oe→(∃ vs,oe.data = .fields vs)→ts a cls d { nx:=fun σ' H'=>D.nx (σ'.set i none) H',rt:=D.rt,bk:=fun σ' H'=>D.bk (σ'.set i none) H',ct:=fun σ' H'=>D.ct (σ'.set i none) H' } (σ.set i (some (.ref a))) (upd H a (Vl.excHO oe))) ∧
  (b=false→Wout cls d σ H)
end
section
variable {X:Cx} {x n:Str} {c:Value} {i:Nat} {body suite:List Stmt} {b₀:Stmt} {np pos pos':Pos} {tb:WX→TS} {ts:Addr→Value→Option Addr→TS} {Wout:WX}
theorem ps_try_asT(hs:X.stack=X.env :: X.outer)(hf:X.env.frame=some X.env.locals)(hN:X.N.Nodup)(hi:X.N[i]? = some n)(hln:X.env.kindOf n=some .local)(hc:Names X x c)(tk:Takes X Wout)
  (hb:∀ (W:WX) (pn:List (Addr×Obj)) (xe:Value→Shared→Prop),Takes (X.tr pn xe) W→PassesOwn (model X.prog X.w) X.A X.env xe→PSs (X.tr pn xe) body (tb W))
  (hsu:∀ (a:Addr) (cls:Value) (d:Option Addr) (pn:List (Addr×Obj)),PSs (X.suite a pn) (b₀ :: suite) (ts a cls d)) :
  PS X (.Try body [.ExceptHandler (some (.Name x np)) (some n) (b₀ :: suite) pos'] [] [] pos) (fun D σ H=>tb (wAsT X.K c i ts Wout D) D σ H):=by
 refine ⟨fun pins s σ H D I h=>?_⟩
 have ok:=I.ok
 have hfr:X.A.frames=some (X.env :: X.outer):=by rw [ok.frames,hs]
 have hloc:Loc X.env.scope n:=.inl hln
 refine wpAny_Try_except ?_
 refine wpAny_mono ((hb (wAsT X.K c i ts Wout D) (X.pn++pins) (fun e s₁=>wpAny (model X.prog X.w) X.A (noteFrame e X.env) (fun _ s₂=>wpAny (model X.prog X.w) X.A (setFlight e none) (fun _ s₃ =>
  wpAny (model X.prog X.w) X.A (handleBy e X.env [.ExceptHandler (some (.Name x np)) (some n) (b₀ :: suite) pos']) (SP X pins D) X.xe s₃) X.xe s₂) X.xe s₁) (fun u s' xx=>?_) PassesOwn.looking).run [] s σ H D (I.toTry _) h) (fun f s1 hsp=>?_) (fun e s1 he=>he)
 ·
  obtain ⟨a,B,sI,pins',σ',H',cls,d,rfl,J',nb,up,sky,na,os,ag,b,hb1,hyes,hno⟩:=xx
  have J:Inv X pins σ' H' sI:=J'.ofTry ok
  have sky':Sky B (X.env :: X.outer) a (Zc cls d) X.env.locals s'.heap:=by rw [← hs]; exact sky
  show wpAny (model X.prog X.w) X.A (noteFrame (.ref a) X.env) _ _ _
  refine Sky.land Zc.steady hfr hf sky' fun h3 fl3 up3=>?_
  have J3:Inv X pins σ' H' { s' with heap:=h3 }:=J.landed nb fl3.1 (up.trans up3) os ag
  obtain ⟨oe3,vs3,he3,hz3,hd3⟩:=fl3.there
  have notFr:∀ {h:Heap} {o:Obj} {vs:Array Value},h.FunFrames B (X.env :: X.outer)→h.get? a=some o→o.data = .fields vs→a ∉ frs (X.env :: X.outer):=fun {h o vs} ff e dd hm=>by
   obtain ⟨_,o',e',hnf⟩:=ff.mem hm
   rw [e] at e'; cases e'
   exact hnf _ dd
  have nfr:=notFr fl3.2.2.1 he3 hd3
  have nL:a ≠ X.env.locals:=fun z=>nfr (List.mem_filterMap.mpr ⟨X.env,List.mem_cons_self,by rw [hf,z]⟩)
  have nF:a ∉ X.fs:=fun hm=>by
   obtain ⟨e,he,q⟩:=List.mem_filterMap.mp hm
   exact nfr (List.mem_filterMap.mpr ⟨e,List.mem_cons_of_mem _ he,q⟩)
  have S3:=J3.suite he3 hd3 na nL nF
  refine wpAny_handleBy_cons (codeAny_handlers_test ?_) (by intro q; cases q)
  have LT:PySem.W.Looks (model X.prog X.w) h3 (typeOf (.ref a)) cls:=fun A Q E s k q=>wpAny_typeOf_ref (k _ _ he3) (by rw [hz3.1]; exact q)
  have LM:=PySem.W.exm_one (M:=model X.prog X.w) (J3.kIn) LT hb1
  have test:∀ {Q:Value→Shared→Prop} {E:Value→Shared→Prop},Q c { s' with heap:=h3 }→wpAny (model X.prog X.w) (X.A.mark (some (.ref a))) (eval (.Name x np) X.env) Q E { s' with heap:=h3 }:=fun {Q E} q=>by
   obtain ⟨hg,hdbg,hm | ⟨hm,hv,hnn⟩⟩:=hc
   ·exact ld_glob (X:=X.suite a ((a,oe3) :: (X.pn++pins))) S3 hg hm q hdbg
   ·exact ld_blt (X:=X.suite a ((a,oe3) :: (X.pn++pins))) S3 hg hm hv q hnn hdbg
  refine test (LM.here ?_)
  cases b with
  | true =>
   refine codeAny_handlers_suite_as ?_
   refine HandSPX.lands_againZ fl3 fun h4 fl4 up4=>?_
   have J4:Inv X pins σ' H' { s' with heap:=h4 }:=J.landed nb fl4.1 ((up.trans up3).trans up4) os ag
   obtain ⟨oe4,vs4,he4,hz4,hd4⟩:=fl4.there
   have S4:=J4.suiteT (B:=B) J hs hf nb he4 hd4 na nL nF fl4.2.1
   refine store_ok (X:=X.suite a (X.pn++pins)) (v:=.ref a) S4 hN hi hloc rfl (fun s5 S5=>?_) (.inr hln)
   refine wpAny_mono ((hsu a cls d (X.pn++pins)).run [] s5 _ _ _ S5 (hyes rfl a oe4 na hz4 ⟨_,hd4⟩)) (fun f s6 hsp=>?_) (fun _ _ z=>False.elim z)
   have end_:∀ {σ6:St} {H6:Hp} {Q:Shared→Prop},Inv (X.suite a (X.pn++pins)) [] σ6 H6 s6→(∀ s7,Inv X pins (σ6.set i none) H6 s7→Q s7) →
     wpAny (model X.prog X.w) X.A (do bindName X.env n .none; unbindBehindTheSuite X.env n pos') (fun _ s7=>Q s7) X.xe s6:=fun {σ6 H6 Q} S6 hq=>gone_ok (S6.unsuiteT ok) hN hi hln hq
   cases f with
   | next =>
    obtain ⟨σ6,H6,S6,q6⟩:=hsp
    exact end_ S6 fun s7 J7=>⟨_,_,J7,q6⟩
   | brk =>
    obtain ⟨σ6,H6,S6,q6⟩:=hsp
    exact end_ S6 fun s7 J7=>⟨_,_,J7,q6⟩
   | cont =>
    obtain ⟨σ6,H6,S6,q6⟩:=hsp
    exact end_ S6 fun s7 J7=>⟨_,_,J7,q6⟩
   | ret u =>
    obtain ⟨v6,σ6,H6,S6,r6,q6⟩:=hsp
    exact end_ S6 fun s7 J7=>⟨_,_,_,J7,r6,q6⟩
  | false =>
   show wpAny _ X.A (handleBy (.ref a) X.env []) _ _ _
   refine wpAny_handleBy_nil ?_
   obtain ⟨k1,k2,k3,oe,vs,T,oT,ts',he,hz,hd,h1,hr⟩:=id fl3
   unfold PySem.passOn
   refine wpAny_bind (wpAny_field he hd h1 ?_)
   rw [if_neg (show ¬ ((Value.ref T == Value.none)=true) from by simp)]
   have fin:wpAny (model X.prog X.w) X.A (setFlight (.ref a) X.env.frame) (fun _ s4=>wpAny (model X.prog X.w) X.A (throw (.ref a):Sem Flow) (SP X pins D) X.xe s4) X.xe { s' with heap:=h3 }:=by
    rw [hf]
    refine HandSPX.setFlight_upZ fl3 fun h4 hh4 up4=>wpAny_throw (tk _ _ ?_)
    exact ⟨a,B,sI,pins,σ',H',cls,d,rfl,J,nb,(up.trans up3).trans up4,.inr (.inr (by rw [hs]; exact hh4)),na,os,ag,hno rfl⟩
   first
    | exact wpAny_bind (wpAny_pure (wpAny_bind fin))
    | exact wpAny_bind fin
 ·cases f with
  | next =>
   obtain ⟨σ',H',J',q⟩:=hsp
   exact wpAny_execs_nil ⟨σ',H',J'.ofTry ok,q⟩
  | brk =>
   obtain ⟨σ',H',J',q⟩:=hsp
   exact ⟨σ',H',J'.ofTry ok,q⟩
  | cont =>
   obtain ⟨σ',H',J',q⟩:=hsp
   exact ⟨σ',H',J'.ofTry ok,q⟩
  | ret u =>
   obtain ⟨v,σ',H',J',r,q⟩:=hsp
   exact ⟨v,σ',H',J'.ofTry ok,r,q⟩
end
end L2
namespace Vl
open PySem L2 Vm PyProof.Rows
section
variable {C:Cn} {cm:Bool} {k i c:Nat} {N:List Str} {sc:Scope} {pos np pos' p p1 p2:Pos} {X:Cx} {d:ST} {a b e:Expr} {es:List Expr} {A B:EX}
theorem ext_exc{F H:Hp}{a:Addr}{oe:Obj}(fh:Same F H)(tp:Tups F H)(na:H a=none):Ext F H (upd F a (excHO oe)) (upd H a (excHO oe)):=by
 have fa:F a=none:=fh.free na
 have hb:∀ {G:Hp} {b:Addr} {o:HO},G a=none→G b=some o→b ≠ a:=fun g e q=>by rw [q,g] at e; cases e
 refine ⟨fun b o z=>by rw [upd_ne (hb fa z)]; exact z,fun b o z=>by rw [upd_ne (hb na z)]; exact z,fun b o z=>?_,fun b xs z=>?_,fun b z=>?_⟩
 ·by_cases q:b=a
  ·subst q; rw [upd_same] at z ⊢; exact z
  ·rw [upd_ne q] at z ⊢; exact fh _ _ z
 ·by_cases q:b=a
  ·subst q
   rw [upd_same] at z
   cases z
  ·rw [upd_ne q] at z ⊢; exact tp _ _ z
 ·by_cases q:b=a
  ·subst q; exact .inr na
  ·rw [upd_ne q] at z; exact .inl z
theorem ds_tryT {j:Nat} {cs:List (Nat×Bool)} {n:Str} {hd:ST} {body suite:List Stmt} {b₀:Stmt} (hx:Xs C j cs) (hb:DSs C cm k N sc body d) (hh:DSs C false k N sc (b₀ :: suite) hd) (hN:N[i]? = some n:=by rfl) (hln:sc.names.lookup n=some .local:=by rfl) (hg:sc.names.lookup (xName j)=some .globalImplicit:=by rfl) (hdb:(xName j == ("__debug__":Str))=false:=by decide) :
  DS C cm k N sc (.Try body [.ExceptHandler (some (.Name (xName j) np)) (some n) (b₀ :: suite) pos'] [] [] pos) (dTryT cs i d hd):=by
 obtain ⟨tb,pb,qb⟩:=hb
 obtain ⟨ts0,ps0,qs0⟩:=hh
 obtain ⟨ad,h1,h2⟩:=hx
 refine ⟨fun W D σ H=>tb (wAsT C.K (.ref ad) i (fun _ _ _=>ts0 fun _ _ _ _=>False) W D) D σ H,fun X S W T=>?_,fun W D σ Γ F0 H0 F H g h=>?_⟩
 ·have hK:X.K=C.K:=congrArg (fun C=>C.K.fr) S.cn
  have hm:X.mg=C.mg:=congrArg Cn.mg S.cn
  rw [← hK]
  refine ps_try_asT S.sk S.fr (by rw [S.n]; exact S.nd) (by rw [S.n]; exact hN) ?_ ⟨?_,hdb,.inl (by rw [hm]; exact h1)⟩ T (fun W' pn xe tk hp=>pb _ (sta_tr S hp) _ tk) (fun a cls dd pn=>ps0 _ (sta_suite S) _ (fun u s' xx=>?_))
  ·show X.env.scope.names.lookup n=some .local
   rw [S.s]
   exact hln
  ·show X.env.scope.names.lookup (xName j)=some .globalImplicit
   rw [S.s]
   exact hg
  ·obtain ⟨_,_,_,_,_,_,_,_,_,_,_,_,_,_,_,_,w⟩:=xx
   exact w.elim
 ·refine qb _ D σ Γ F0 H0 F H g ?_
  have h:OutOk C W F0 H0 D (dTryT cs i d hd Γ):=h
  unfold dTryT at h
  cases eo:d Γ with
  | nx Γ'=>rw [eo] at h; exact h
  | rt t p Γr=>rw [eo] at h; exact h
  | bk Γ'=>rw [eo] at h; exact h
  | ct Γ'=>rw [eo] at h; exact h
  | bad=>rw [eo] at h; exact h
  | exc c Γ' =>
   rw [eo] at h
   simp only at h
   intro σ' F' H' g'
   cases et:takesC cs c with
   | none=>rw [et] at h; exact h.elim
   | some b =>
    refine ⟨b,h2 c b et,fun hb a oe na hz hf=>?_,fun hb=>?_⟩
    ·subst hb
     rw [et] at h
     simp only at h
     by_cases hlt:Nat.ble (i+1) Γ'.length=true
     ·rw [if_pos hlt] at h
      have hlt':i < Γ'.length:=Nat.le_of_ble_eq_true hlt
      have e1:Ext F' H' (upd F' a (excHO oe)) (upd H' a (excHO oe)):=ext_exc g'.ext.fh g'.ext.tp na
      have rp:Rep C.K (upd F' a (excHO oe)) (.exo (c+2) []) (.ref a):=by
       unfold Rep
       exact ⟨a,oe,rfl,upd_same,hz.1,hz.2,hf⟩
      have gs:GoodS C.K F0 H0 (Γ'.set i (some (.fz,.exo (c+2) []))) (σ'.set i (some (.ref a))) (upd F' a (excHO oe)) (upd H' a (excHO oe)):=(g'.next e1).setF i rp
      refine qs0 _ _ _ _ F0 H0 _ _ gs ?_
      cases eh:hd (Γ'.set i (some (.fz,.exo (c+2) []))) with
      | nx Γ2 =>
       rw [eh] at h
       exact fun σ2 F2 H2 g2=>h (σ2.set i none) F2 H2 (good_hold (good_drop g2) (get_set_none _ _))
      | rt t p Γr=>rw [eh] at h; exact h.elim
      | bk Γ2=>rw [eh] at h; exact h.elim
      | ct Γ2=>rw [eh] at h; exact h.elim
      | exc c2 Γ2=>rw [eh] at h; exact h.elim
      | bad=>rw [eh] at h; exact h.elim
     ·rw [if_neg hlt] at h; exact h.elim
    ·subst hb
     rw [et] at h
     exact h σ' F' H' g'
theorem inst_of{oe:Obj}{D a:Addr}{s:Shared}(hget:s.heap.get? a=some oe)(h1:oe.cls = .ref D)(h2:oe.dict=none)(hf:∃ vs,oe.data = .fields vs):PySem.W.InstAt s.heap a oe D none:=by
 obtain ⟨vs,hv⟩:=hf
 obtain ⟨oc,od,oda,osl⟩:=oe
 dsimp only at h1 h2 hv
 subst h1 h2 hv
 exact ⟨hget,rfl,rfl,trivial⟩
def rIsR(K:PySem.W.Frag):List V→Hp→VK→Prop:=fun xs H Q=>∃ (a D:Addr) (oe:Obj) (cv:V) (u:Value) (b:Bool),xs=[.ref a,cv]∧H a=some (excHO oe)∧oe.cls = .ref D∧oe.dict=none∧(∃ vs,oe.data = .fields vs)∧ExcC K D∧(∀ u',RelV cv u'→u'=u)∧PySem.W.kitOne K (.ref D) u=some b∧Q (.bl b) H
theorem call_isR:CallR X (.builtin "isinstance") (rIsR X.K):=by
 intro pins s σ H xs us Q I r h
 obtain ⟨a,D,oe,cv,c,b,rfl,hH,h1,h2,hf,E,hcv,e,q⟩:=h
 cases r with
 | cons rx rr =>
  cases rr with
  | cons rt rr =>
   cases rr
   cases rx
   have ec:=hcv _ rt
   subst ec
   have hget:s.heap.get? a=some oe:=(show ObjOk X.prog X.w H s.heap a (excHO oe) from I.hok a _ hH).1
   exact PySem.W.kia_one (PySem.W.handS_kitx_exc E.hg E.hk E.hs E.hd E.ha E.hn E.ht E.hm) I.kIn (inst_of hget h1 h2 hf) e (fun z=>nomatch z) fun tk=>⟨.bl b,H,I.kept (t':=tk) fun _ _ z=>z,rfl,q⟩
theorem de_isE {y:Str} {tab:List (Nat×Bool)} (ha:DE C cm k N sc a A) (iq:Iq C y tab) (mx:C.mg "isinstance" = none) (hg:sc.names.lookup ("isinstance":Str)=some .globalImplicit:=by rfl) (hg2:sc.names.lookup y=some .globalImplicit:=by rfl) (hd2:(y == ("__debug__":Str))=false:=by decide)
  (hst:∀ env:PySem.Env,starEach [a,.Name y p2] env=(false,eval a env) :: starEach [.Name y p2] env:=by intro _; rfl) (hst2:∀ env:PySem.Env,starEach [.Name y p2] env=(false,eval (.Name y p2) env) :: starEach [] env:=by intro _; rfl) :
  DE C cm k N sc (.Call (.Name "isinstance" p) [a,.Name y p2] [] pos) (eIsE tab A):=by
 obtain ⟨ta,pa,qa⟩:=ha
 obtain ⟨⟨v,u,hm,hr,hinj,hk⟩⟩:=iq
 refine ⟨fun W=>tCB (rIsR C.K) (tCons (ta W) (tCons (tC v) tNil)),fun X S W T=>?_,fun W σ Γ F0 H0 F H Q g h=>qa W σ Γ F0 H0 F H _ g (EOk.bind h fun x w F1 H1 ex e1 r1 h1=>?_)⟩
 ·have e:=S.K
  rw [← e]
  exact pe_callB call_isR (S.gl hg) (by rw [S.mg]; exact mx) (by decide +kernel) (pa_cons (pa X S W T) (pa_cons (pe_nm (S.gl hg2) (by rw [S.mg]; exact hm) hr hd2) pa_nil (hst2 _)) (hst _)) (by decide) (by decide) (hst _) rfl
 ·unfold isEV at h1
  split at h1
  ·rename_i c l
   have rr:=r1.ofFz
   unfold Rep at rr
   obtain ⟨ad,oe,rfl,hF,hc,hd,hf⟩:=rr
   cases ht:takesC tab c with
   | none=>rw [ht] at h1; exact h1.elim
   | some b =>
    rw [ht] at h1
    obtain ⟨D,hD,hE,hkit⟩:=hk c b ht
    exact ⟨ad,D,oe,v,u,b,rfl,e1.fh _ _ hF,hc.trans hD,hd,hf,hE,hinj,hkit,h1 _ F1 H1 e1 (.fz rep_bl)⟩
  ·exact h1.elim
def rIsRs(K:PySem.W.Frag):List V→Hp→VK→Prop:=fun xs H Q=>∃ (a D q:Addr) (oe:Obj) (vs:List V) (its:List Value) (b:Bool),xs=[.ref a,.ref q]∧H a=some (excHO oe)∧oe.cls = .ref D∧oe.dict=none∧(∃ vs,oe.data = .fields vs)∧ExcC K D∧TupAt H q vs∧(∀ us,Vals vs us→us=its)∧PySem.W.kitAny K (.ref D) its=some b∧Q (.bl b) H
theorem call_isRs:CallR X (.builtin "isinstance") (rIsRs X.K):=by
 intro pins s σ H xs us Q I r h
 obtain ⟨a,D,tp,oe,vs,its,b,rfl,hH,h1,h2,hf,E,htp,hits,e,q⟩:=h
 cases r with
 | cons rx rr =>
  cases rr with
  | cons rt rr =>
   cases rr
   cases rx
   cases rt
   obtain ⟨its',r',pl,_⟩:=I.tuple ((TupAt.sq htp))
   have ei:=hits _ r'
   subst ei
   have hget:s.heap.get? a=some oe:=(show ObjOk X.prog X.w H s.heap a (excHO oe) from I.hok a _ hH).1
   obtain ⟨o,ho,hc,n,hd⟩:=pl
   have ho':s.heap.get? tp=some ⟨.type "tuple",o.dict,.seq its'.toArray n,o.slots⟩:=by
    rw [ho]
    obtain ⟨oc,od,oda,osl⟩:=o
    dsimp only at hc hd
    subst hc hd
    rfl
   exact PySem.W.kia_tup (PySem.W.handS_kitx_exc E.hg E.hk E.hs E.hd E.ha E.hn E.ht E.hm) I.kIn (inst_of hget h1 h2 hf) ho' e (fun z=>nomatch z) fun tk=>⟨.bl b,H,I.kept (t':=tk) fun _ _ z=>z,rfl,q⟩
variable (C k N sc cm) in
def TCA (es:List Expr) (tabs:List (List (Nat×Bool))):Prop:=∃ (vs:List V) (us:List Value),(∀ X,Sta C cm k N sc X→PA X es (tCl vs))∧vs.length=tabs.length∧(∀ us',Vals vs us'→us'=us) ∧
 (∀ c,(tabs.all fun t=>(takesC t c).isSome)=true→(tabs=[] ∨ ∃ D,C.xc c = .ref D∧ExcC C.K D)∧∀ D,C.xc c = .ref D→PySem.W.kitAny C.K (.ref D) us=some (isCs tabs c))
theorem tca_nil:TCA C cm k N sc [] []:=⟨[],[],fun _ _=>pa_nil,rfl,fun us' h=>by cases h; rfl,fun c _=>⟨.inl rfl,fun D _=>rfl⟩⟩
theorem tca_cons {y:Str} {tab:List (Nat×Bool)} {tabs:List (List (Nat×Bool))} (iq:Iq C y tab) (h:TCA C cm k N sc es tabs) (hg2:sc.names.lookup y=some .globalImplicit:=by rfl) (hd2:(y == ("__debug__":Str))=false:=by decide)
  (hst2:∀ env:PySem.Env,starEach (.Name y p2 :: es) env=(false,eval (.Name y p2) env) :: starEach es env:=by intro _; rfl):TCA C cm k N sc (.Name y p2 :: es) (tab :: tabs):=by
 obtain ⟨⟨v,u,hm,hr,hinj,hk⟩⟩:=iq
 obtain ⟨vs,us,h1,h2,h3,h4⟩:=h
 refine ⟨v :: vs,u :: us,fun X S=>pa_cons (pe_nm (S.gl hg2) (by rw [S.mg]; exact hm) hr hd2) (h1 X S) (hst2 _),by simp [h2],fun us' h=>?_,fun c hc=>?_⟩
 ·cases h with
  | cons a b=>rw [hinj _ a,h3 _ b]
 ·rw [List.all_cons,Bool.and_eq_true] at hc
  obtain ⟨b,hb⟩:=Option.isSome_iff_exists.mp hc.1
  obtain ⟨D,hD,hE,hkit⟩:=hk c b hb
  refine ⟨.inr ⟨D,hD,hE⟩,fun D' hD'=>?_⟩
  rw [hD] at hD'
  cases hD'
  have h4':=(h4 c hc.2).2 D hD
  have e1:=isC_of hb
  unfold PySem.W.kitAny
  rw [hkit]
  unfold isCs
  rw [List.any_cons,e1]
  cases b with
  | true=>rfl
  | false=>rw [Bool.false_or]; exact h4'
theorem de_isEs {tabs:List (List (Nat×Bool))} {x1:Nat} (ha:DE C cm k N sc a A) (tc:TCA C cm k N sc es tabs) (mx:C.mg "isinstance" = none) (hne:tabs.isEmpty=false:=by rfl) (hl:tabs.length≤16777216:=by decide) (hg:sc.names.lookup ("isinstance":Str)=some .globalImplicit:=by rfl)
  (hst:∀ env:PySem.Env,starEach [a,.Tuple es x1 p2] env=(false,eval a env) :: starEach [.Tuple es x1 p2] env:=by intro _; rfl) (hst2:∀ env:PySem.Env,starEach [.Tuple es x1 p2] env=(false,eval (.Tuple es x1 p2) env) :: starEach [] env:=by intro _; rfl) :
  DE C cm k N sc (.Call (.Name "isinstance" p) [a,.Tuple es x1 p2] [] pos) (eIsEs tabs A):=by
 obtain ⟨ta,pa,qa⟩:=ha
 obtain ⟨vs,us,t1,t2,t3,t4⟩:=tc
 refine ⟨fun W=>tCB (rIsRs C.K) (tCons (ta W) (tCons (tTupD (tCl vs)) tNil)),fun X S W T=>?_,fun W σ Γ F0 H0 F H Q g h=>qa W σ Γ F0 H0 F H _ g (EOk.bind h fun x w F1 H1 ex e1 r1 h1=>?_)⟩
 ·have e:=S.K
  rw [← e]
  exact pe_callB call_isRs (S.gl hg) (by rw [S.mg]; exact mx) (by decide +kernel) (pa_cons (pa X S W T) (pa_cons (pe_tupD (t1 X S)) pa_nil (hst2 _)) (hst _)) (by decide) (by decide) (hst _) rfl
 ·unfold isEsV at h1
  split at h1
  ·rename_i c l
   have rr:=r1.ofFz
   unfold Rep at rr
   obtain ⟨ad,oe,rfl,hF,hc,hd,hf⟩:=rr
   by_cases ht:(tabs.all fun t=>(takesC t c).isSome)=true
   ·rw [if_pos ht] at h1
    obtain ⟨q1,q2⟩:=t4 c ht
    rcases q1 with q1 | ⟨D,hD,hE⟩
    ·rw [q1] at hne; cases hne
    show tCl vs σ H1 _
    refine tCl_run vs ⟨by rw [t2,← szL_eq]; exact hl,fun q o hq hdo=>?_⟩
    have hne':ad ≠ q:=fun z=>by subst z; have:=e1.fh _ _ hF; rw [hq] at this; cases this
    refine ⟨ad,D,q,oe,vs,us,isCs tabs c,rfl,by rw [upd_ne hne']; exact e1.fh _ _ hF,hc.trans hD,hd,hf,hE,.new hdo,t3,q2 D hD,?_⟩
    exact h1 _ (upd F1 q (tq (o,vs))) _ (e1.trans (Ext.tup e1.fh e1.tp hq)) (.fz rep_bl)
   ·rw [if_neg ht] at h1; exact h1.elim
  ·exact h1.elim
end
end Vl
namespace Vl
open PySem L2 Vm PyProof.Rows
section
variable {C:Cn} {cm:Bool} {k:Nat} {N:List Str} {sc:Scope} {o:Expr} {A:EX} {apos pos:Pos}
theorem de_upper (ho:DE C cm k N sc o A) (hbase:∀ env:PySem.Env,attributeBase o "upper" env (eval o env)=eval o env:=by intro _; rfl) (hline:(apos.endLine == pos.line)=true:=by rfl) :
  DE C cm k N sc (.Call (.Attribute o "upper" apos) [] [] pos) (eUpper A):=by
 obtain ⟨ta,pa,qa⟩:=ho
 refine ⟨fun W=>tM0 (fun x xs H Q=>∃ a,x = .str a∧xs=[]∧a.length≤5592405∧Q (.str (Txt.upper a)) H) (ta W),fun X S W T=>pe_upper (pa X S W T) (hbase _) hline,fun W σ Γ F0 H0 F H Q g h=>qa W σ Γ F0 H0 F H _ g (EOk.bind h fun x v F1 H1 ex e1 r1 h1=>?_)⟩
 have rr:=r1.rep e1.fh
 unfold upV at h1
 obtain ⟨t,q⟩:=x
 simp only at h1 rr
 split at h1
 ·unfold Rep at rr
  obtain ⟨rfl,_⟩:=rr
  refine ⟨⟨_,rfl⟩,_,rfl,rfl,by decide,?_⟩
  have e:Txt.upper ⟨[97].toArray⟩=⟨[65].toArray⟩:=by decide +kernel
  rw [e]
  exact h1 _ F1 H1 e1 (.fz (by unfold Rep; exact ⟨rfl,by decide⟩))
 ·unfold Rep at rr
  obtain ⟨rfl,_⟩:=rr
  refine ⟨⟨_,rfl⟩,_,rfl,rfl,by decide,?_⟩
  have e:Txt.upper ⟨[98].toArray⟩=⟨[66].toArray⟩:=by decide +kernel
  rw [e]
  exact h1 _ F1 H1 e1 (.fz (by unfold Rep; exact ⟨rfl,by decide⟩))
 ·exact h1.elim
end
end Vl
end
section
set_option Elab.async false
set_option linter.all false
set_option maxRecDepth 100000
set_option maxHeartbeats 1000000
namespace Vl
open PySem L2 Vm PyProof.Rows
section
variable {C:Cn} {cm:Bool} {k:Nat} {N:List Str} {sc so:Scope} {a b c e o j tg:Expr} {es:List Expr} {A B J:EX} {As:EXs} {T U:TX} {pos p tpos apos cpos p1 p2:Pos} {X:Cx} {x:Str} {st:Stmt} {sts:List Stmt} {d d':ST} {keep:List Nat}
variable {F0 H0 F H F1 H1:Hp} {Γ:En} {σ:L2.St} {W:WX} {D:Ends}
end
end Vl
end
section
set_option linter.all false
set_option maxRecDepth 10000
namespace Vm
end Vm
namespace Vm
end Vm
end
section
set_option Elab.async false
set_option linter.all false
set_option maxRecDepth 100000
set_option maxHeartbeats 1000000
namespace Vl
open PySem L2 Vm PyProof.Rows
section
variable {K:KK} {F H F' H':Hp}
end
section
variable {C:Cn} {cm:Bool} {k:Nat} {N:List Str} {sc:Scope} {b e:Expr} {A B:EX} {pos p1:Pos} {X:Cx} {x:Str} {keep:List Nat}
end
end Vl
end
section
set_option Elab.async false
set_option linter.all false
set_option maxRecDepth 100000
set_option maxHeartbeats 1000000
namespace Vl
open PySem L2 Vm PyProof.Rows
section
variable {C:Cn} {cm:Bool} {k:Nat} {N:List Str} {sc:Scope} {es:List Expr} {As:EXs} {pos p1:Pos}
end
end Vl
end
section
set_option Elab.async false
set_option linter.all false
set_option maxRecDepth 100000
set_option maxHeartbeats 4000000
namespace Vm
noncomputable def d_look_rows:FN:=runFn 3 5
 (dSeq (dIf (xVal (eOp2 opEq (eLen (eVar 0)) (eC (.int 0))))
 (dRaise 4)
 (dNil))
 (dSeq (dSet 3 (eC (.int 0)))
 (dFor (jSeq (eVar 0)) (.v 4) [4]
 (dSeq (dIf (xOr (xVal (eOp2 opLe (eVar 4) (eVar 3))) (xOr (xVal (eOp2 opGe (eVar 4) (eVar 1))) (xVal (eOp2 opDIn (eVar 4) (eVar 2)))))
 (dRaise 4)
 (dNil))
 (dSet 3 (eVar 4))))))
noncomputable def d_look_readings:FN:=runFn 3 9
 (dSeq (dIf (xVal (eOp2 opEq (eLen (eVar 1)) (eC (.int 0))))
 (dRaise 4)
 (dNil))
 (dSeq (dSetO 3 (eDic0 1))
 (dSeq (dSetO 4 (eLst (eNil)))
 (dSeq (dSet 5 (eC (.int 0)))
 (dSeq (dFor (jSeq (eVar 1)) (.t [6,7]) [6,7,8]
 (dSeq (dIf (xOr (xVal (eOp2 opEq (eVar 6) (eVar 0))) (xVal (eOp2 opIn (eVar 6) (eVar 4))))
 (dRaise 4)
 (dNil))
 (dSeq (dEx (eCall d_look_rows (eCons (eVar 7) (eCons (eVar 2) (eCons (eVar 3) (eNil))))))
 (dSeq (dIf (xVal (eOp2 opLe (eIdx (eVar 7) (eC (.int 0))) (eVar 5)))
 (dRaise 4)
 (dNil))
 (dSeq (dSet 5 (eIdx (eVar 7) (eC (.int 0))))
 (dSeq (dApp 4 (eVar 6))
 (dFor (jSeq (eVar 7)) (.v 8) [8]
 (dDPut 3 (eVar 8) (eVar 6)))))))))
 (dRetV 3))))))
noncomputable def d_column_back:FN:=runFn 3 4
 (dRet (eTuple (eLC [3] (jRange (eVar 1)) (.v 3) (xYes) (eDGet (eVar 2) (eVar 3) (eVar 0)))))
noncomputable def d_collation_back:FN:=runFn 3 8
 (dSeq (dSetO 3 (eLC [7] (jSeq (eVar 0)) (.v 7) (xYes) (eCall d_column_back (eCons (eVar 7) (eCons (eVar 1) (eCons (eDic0 1) (eNil)))))))
 (dSeq (dSet 4 (eOp1 opNeg (eC (.int 1))))
 (dSeq (dFor (jSeq (eVar 2)) (.t [5,6]) [5,6]
 (dSeq (dIf (xOr (xVal (eOp2 opLe (eVar 5) (eVar 4))) (xVal (eOp2 opGe (eVar 5) (eLen (eVar 0)))))
 (dRaise 4)
 (dNil))
 (dSeq (dSet 4 (eVar 5))
 (dSetIx 3 (eVar 5) (eCall d_column_back (eCons (eIdx (eVar 0) (eVar 5)) (eCons (eVar 1) (eCons (eCall d_look_readings (eCons (eIdx (eVar 0) (eVar 5)) (eCons (eVar 6) (eCons (eVar 1) (eNil))))) (eNil)))))))))
 (dRet (eTuple (eVar 3))))))
noncomputable def d_entry_read:FN:=runFn 1 2
 (dSeq (dIf (xVal (eOp2 opEq (eVar 0) (eC (.str [45]))))
 (dRet (eC .non))
 (dNil))
 (dSeq (dIf (xOr (xVal (eOp2 opLt (eLen (eVar 0)) (eC (.int 1)))) (xVal (eOp2 opGt (eLen (eVar 0)) (eC (.int 12)))))
 (dRaise 4)
 (dNil))
 (dSeq (dFor (jSeq (eVar 0)) (.v 1) [1]
 (dIf (xVal (eOp2 opNotIn (eVar 1) (eC (.str [97,98,99,100,101,102,103,104,105,106,107,108,109,110,111,112,113,114,115,116,117,118,119,120,121,122]))))
 (dRaise 4)
 (dNil)))
 (dRetV 0))))
noncomputable def d_number_read:FN:=runFn 1 2
 (dSeq (dIf (xOr (xVal (eOp2 opLt (eLen (eVar 0)) (eC (.int 1)))) (xOr (xVal (eOp2 opGt (eLen (eVar 0)) (eC (.int 4)))) (xAnd (xVal (eOp2 opGt (eLen (eVar 0)) (eC (.int 1)))) (xVal (eOp2 opEq (eIdx (eVar 0) (eC (.int 0))) (eC (.str [48])))))))
 (dRaise 4)
 (dNil))
 (dSeq (dFor (jSeq (eVar 0)) (.v 1) [1]
 (dIf (xVal (eOp2 opNotIn (eVar 1) (eC (.str [48,49,50,51,52,53,54,55,56,57]))))
 (dRaise 4)
 (dNil)))
 (dRet (eIntT (eVar 0)))))
noncomputable def d_two_parts:FN:=runFn 2 5
 (dSeq (dSetT [2,3,4] (eTxt partV (eVar 0) (eVar 1)))
 (dSeq (dIf (xVal (eOp2 opEq (eVar 3) (eC (.str []))))
 (dRaise 4)
 (dNil))
 (dRet (eTup (eCons (eVar 2) (eCons (eVar 4) (eNil)))))))
noncomputable def d_reading_read:FN:=runFn 1 4
 (dSeq (dSetT [1,2] (eCall d_two_parts (eCons (eVar 0) (eCons (eC (.str [32])) (eNil)))))
 (dRet (eTup (eCons (eCall d_entry_read (eCons (eVar 1) (eNil))) (eCons (eTuple (eLCX [3] (jSeq (eTxt splitV (eVar 2) (eC (.str [44])))) (.v 3) (xYes) (eCall d_number_read (eCons (eVar 3) (eNil))))) (eNil))))))
noncomputable def d_note_read:FN:=runFn 1 4
 (dSeq (dSetT [1,2] (eCall d_two_parts (eCons (eVar 0) (eCons (eC (.str [58,32])) (eNil)))))
 (dRet (eTup (eCons (eCall d_number_read (eCons (eVar 1) (eNil))) (eCons (eTuple (eLCX [3] (jSeq (eTxt splitV (eVar 2) (eC (.str [59,32])))) (.v 3) (xYes) (eCall d_reading_read (eCons (eVar 3) (eNil))))) (eNil))))))
noncomputable def d_apparatus_read:FN:=runFn 1 6
 (dSeq (dSet 1 (eTxt splitV (eVar 0) (eC (.str [10]))))
 (dSeq (dSet 2 (eTup (eNil)))
 (dSeq (dIf (xVal (eOp2 opNe (eIdx (eVar 1) (eC (.int 0))) (eC (.str []))))
 (dSet 2 (eTuple (eLCX [4] (jSeq (eTxt splitV (eIdx (eVar 1) (eC (.int 0))) (eC (.str [32,124,32])))) (.v 4) (xYes) (eCall d_entry_read (eCons (eVar 4) (eNil))))))
 (dNil))
 (dSeq (dSet 3 (eTuple (eLCX [5] (jSeq (eSlice (eVar 1) (oSome (eC (.int 1))) (oNone))) (.v 5) (xYes) (eCall d_note_read (eCons (eVar 5) (eNil))))))
 (dSeq (dEx (eCall d_collation_back (eCons (eVar 2) (eCons (eC (.int 30)) (eCons (eVar 3) (eNil))))))
 (dRet (eTup (eCons (eVar 2) (eCons (eVar 3) (eNil))))))))))
noncomputable def d_law_draw:FN:=runFn 3 5
 (dSeq (dSet 3 (eC (.int 170141183460469231731687303715884105727)))
 (dSeq (dSet 4 (eOp2 opMod (eMul2 (eAdd (eMul2 (eVar 0) (eC (.int 2))) (eC (.int 1))) (eAdd (eMul2 (eMul2 (eVar 1) (eVar 1)) (eC (.int 9176023))) (eC (.int 84127918273645463728191)))) (eVar 3)))
 (dRet (eOp2 opMod (eOp2 opFdiv (eOp2 opMod (eMul2 (eVar 4) (eAdd (eVar 4) (eC (.int 5)))) (eVar 3)) (eC (.int 7))) (eVar 2)))))
noncomputable def d_law_same_v1:Nat→FN
 | 0=>fun _=>.bad
 | n+1=>runFn 2 3 (
  dSeq (dIf (xVal (eIsI (eVar 1) "tuple"))
 (dSeq (dIf (xOr (xNot (xVal (eIsI (eVar 0) "tuple"))) (xVal (eOp2 opNe (eLen (eVar 0)) (eLen (eVar 1)))))
 (dRet (eC (.bl false)))
 (dNil))
 (dRet (eAll (eLC [2] (jRange (eLen (eVar 1))) (.v 2) (xYes) (eCall (d_law_same_v1 n) (eCons (eIdx (eVar 0) (eVar 2)) (eCons (eIdx (eVar 1) (eVar 2)) (eNil))))))))
 (dNil))
 (dSeq (dIf (xVal (eOp1 opIsN (eVar 1)))
 (dRet (eOp1 opIsN (eVar 0)))
 (dNil))
 (dSeq (dIf (xVal (eIsI (eVar 1) "str"))
 (dRet (eAnd (eIsI (eVar 0) "str") (eOp2 opEq (eVar 0) (eVar 1))))
 (dNil))
 (dRet (eAnd (eIsI (eVar 0) "int") (eAnd (eOp1 opNot (eIsI (eVar 0) "bool")) (eOp2 opEq (eVar 0) (eVar 1))))))))
noncomputable def d_law_word_by:FN:=runFn 2 4
 (dSeq (dSet 2 (eC (.str [])))
 (dSeq (dFor (jRange (eIdx (eLst (eCons (eC (.int 1)) (eCons (eC (.int 2)) (eCons (eC (.int 3)) (eCons (eC (.int 12)) (eNil)))))) (eCall d_law_draw (eCons (eVar 0) (eCons (eAdd (eMul2 (eC (.int 10)) (eVar 1)) (eC (.int 1))) (eCons (eC (.int 4)) (eNil))))))) (.v 3) [3]
 (dSet 2 (eAdd (eVar 2) (eIdx (eC (.str [97,98,99,100,101,102,103,104,105,106,107,108,109,110,111,112,113,114,115,116,117,118,119,120,121,122])) (eCall d_law_draw (eCons (eVar 0) (eCons (eAdd (eAdd (eC (.int 300)) (eMul2 (eC (.int 20)) (eVar 1))) (eVar 3)) (eCons (eC (.int 26)) (eNil)))))))))
 (dRetV 2)))
noncomputable def d_law_asked_v1:FN:=runFn 1 4
 (dSeq (dSet 1 (eC .non))
 (dSeq (dSet 2 (eC .non))
 (dSeq (dTryT [(4,true)] 3 (dSet 2 (eCall d_apparatus_read (eCons (eVar 0) (eNil))))
 (dSet 1 (eVar 3)))
 (dSeq (dIf (xVal (eOp1 opIsN (eVar 1)))
 (dRet (eTup (eCons (eC (.str [116,111,108,100])) (eCons (eVar 2) (eNil)))))
 (dNil))
 (dSeq (dIf (xVal (eIsEs [[(4,false)],[(4,false)],[(4,false)],[(4,false)],[(4,false)],[(4,false)],[(4,false)]] (eVar 1)))
 (dRet (eTup (eCons (eC (.str [97,110,111,116,104,101,114])) (eCons (eC .non) (eNil)))))
 (dNil))
 (dRet (eTup (eCons (eIdx (eLst (eCons (eC (.str [111,100,100])) (eCons (eC (.str [114,101,102,117,115,101,100])) (eNil)))) (eInt (eAnd (eIsE [(4,true)] (eVar 1)) (eIsE [(4,true)] (eVar 1))))) (eCons (eC .non) (eNil))))))))))
noncomputable def d_law_bad_heads:FN:=runFn 1 2
 (dSeq (dSet 1 (eLst (eCons (eC (.str [32])) (eCons (eC (.str [65])) (eCons (eAdd (eVar 0) (eC (.str [65]))) (eCons (eC (.str [45,45])) (eCons (eAdd (eVar 0) (eC (.str [32,124]))) (eCons (eAdd (eC (.str [124,32])) (eVar 0)) (eCons (eAdd (eAdd (eVar 0) (eC (.str [124]))) (eVar 0)) (eCons (eAdd (eAdd (eVar 0) (eC (.str [32,124,32,124,32]))) (eVar 0)) (eNil)))))))))))
 (dSeq (dSet 1 (eAdd (eVar 1) (eLst (eCons (eAdd (eAdd (eVar 0) (eC (.str [32,124,32,32]))) (eVar 0)) (eCons (eAdd (eAdd (eVar 0) (eC (.str [32,32,124,32]))) (eVar 0)) (eCons (eAdd (eC (.str [32])) (eVar 0)) (eCons (eAdd (eVar 0) (eC (.str [32]))) (eCons (eAdd (eAdd (eVar 0) (eC (.str [32]))) (eVar 0)) (eNil)))))))))
 (dSeq (dSet 1 (eAdd (eVar 1) (eLst (eCons (eAdd (eVar 0) (eC (.str [32,124,32]))) (eCons (eAdd (eVar 0) (eC (.str [10]))) (eCons (eC (.str [10])) (eCons (eC (.str [97,97,97,97,97,97,97,97,97,97,97,97,97])) (eCons (eC (.str [97,98,99,100,101,102,103,104,105,106,107,108,109,32,124,32,97])) (eCons (eAdd (eVar 0) (eC (.str [49]))) (eCons (eC (.str [48])) (eCons (eAdd (eVar 0) (eC (.str [32,124,32,45,49]))) (eNil))))))))))))
 (dRetV 1))))
noncomputable def d_law_bad_lines:FN:=runFn 2 3
 (dSeq (dSet 2 (eLst (eCons (eC (.str [])) (eCons (eC (.str [48])) (eCons (eC (.str [48,58])) (eCons (eC (.str [48,58,32])) (eCons (eAdd (eAdd (eC (.str [48,58])) (eVar 1)) (eC (.str [32,49]))) (eCons (eAdd (eAdd (eC (.str [48,32,58,32])) (eVar 1)) (eC (.str [32,49]))) (eCons (eAdd (eC (.str [48,58,32])) (eVar 1)) (eCons (eAdd (eAdd (eC (.str [48,58,32])) (eVar 1)) (eC (.str [32]))) (eNil)))))))))))
 (dSeq (dSet 2 (eAdd (eVar 2) (eLst (eCons (eAdd (eAdd (eC (.str [48,58,32])) (eVar 1)) (eC (.str [32,49,44]))) (eCons (eAdd (eAdd (eC (.str [48,58,32])) (eVar 1)) (eC (.str [32,44,49]))) (eCons (eAdd (eAdd (eC (.str [48,58,32])) (eVar 1)) (eC (.str [32,49,44,44,50]))) (eCons (eAdd (eAdd (eC (.str [48,58,32])) (eVar 1)) (eC (.str [32,49,44,32,50]))) (eNil))))))))
 (dSeq (dSet 2 (eAdd (eVar 2) (eLst (eCons (eAdd (eAdd (eC (.str [48,58,32])) (eVar 1)) (eC (.str [32,48]))) (eCons (eAdd (eAdd (eC (.str [48,58,32])) (eVar 1)) (eC (.str [32,51,48]))) (eCons (eAdd (eAdd (eC (.str [48,58,32])) (eVar 1)) (eC (.str [32,48,49]))) (eCons (eAdd (eAdd (eC (.str [48,58,32])) (eVar 1)) (eC (.str [32,43,49]))) (eNil))))))))
 (dSeq (dSet 2 (eAdd (eVar 2) (eLst (eCons (eAdd (eAdd (eC (.str [48,58,32])) (eVar 1)) (eC (.str [32,45,49]))) (eCons (eAdd (eAdd (eC (.str [48,58,32])) (eVar 1)) (eC (.str [32,49,95,48]))) (eCons (eAdd (eAdd (eC (.str [48,58,32])) (eVar 1)) (eC (.str [32,120]))) (eCons (eAdd (eAdd (eC (.str [48,58,32])) (eVar 1)) (eC (.str [32,50,44,49]))) (eNil))))))))
 (dSeq (dSet 2 (eAdd (eVar 2) (eLst (eCons (eAdd (eAdd (eC (.str [48,58,32])) (eVar 1)) (eC (.str [32,49,44,49]))) (eCons (eAdd (eAdd (eC (.str [48,58,32,32])) (eVar 1)) (eC (.str [32,49]))) (eCons (eAdd (eAdd (eC (.str [48,58,32])) (eVar 1)) (eC (.str [32,32,49]))) (eCons (eAdd (eAdd (eC (.str [32,48,58,32])) (eVar 1)) (eC (.str [32,49]))) (eNil))))))))
 (dSeq (dSet 2 (eAdd (eVar 2) (eLst (eCons (eAdd (eAdd (eC (.str [48,48,58,32])) (eVar 1)) (eC (.str [32,49]))) (eCons (eAdd (eAdd (eC (.str [43,48,58,32])) (eVar 1)) (eC (.str [32,49]))) (eCons (eAdd (eAdd (eC (.str [45,49,58,32])) (eVar 1)) (eC (.str [32,49]))) (eCons (eAdd (eAdd (eC (.str [57,58,32])) (eVar 1)) (eC (.str [32,49]))) (eNil))))))))
 (dSeq (dSet 2 (eAdd (eVar 2) (eLst (eCons (eAdd (eAdd (eC (.str [48,58,32])) (eVar 0)) (eC (.str [32,49]))) (eCons (eC (.str [49,58,32,45,32,49])) (eCons (eAdd (eAdd (eC (.str [48,58,32])) (eVar 1)) (eC (.str [32,49,59,45,32,50]))) (eCons (eAdd (eAdd (eC (.str [48,58,32])) (eVar 1)) (eC (.str [32,49,59,32]))) (eCons (eC (.str [49,95,48,58,32,97,32,49])) (eNil)))))))))
 (dSeq (dSet 2 (eAdd (eVar 2) (eLst (eCons (eAdd (eAdd (eAdd (eAdd (eC (.str [48,58,32])) (eVar 1)) (eC (.str [32,49,59,32]))) (eVar 1)) (eC (.str [32,50]))) (eCons (eAdd (eAdd (eC (.str [48,58,32])) (eVar 1)) (eC (.str [32,50,59,32,45,32,49]))) (eCons (eAdd (eAdd (eC (.str [48,58,32])) (eVar 1)) (eC (.str [32,49,44,50,59,32,45,32,50]))) (eNil)))))))
 (dSeq (dSet 2 (eAdd (eVar 2) (eLst (eCons (eAdd (eAdd (eC (.str [48,58,32])) (eUpper (eVar 1))) (eC (.str [32,49]))) (eCons (eAdd (eAdd (eC (.str [48,58,32])) (eC (.str [97,97,97,97,97,97,97,97,97,97,97,97,97]))) (eC (.str [32,49]))) (eCons (eAdd (eAdd (eC (.str [48,58,32])) (eVar 1)) (eC (.str [32,49,32]))) (eCons (eAdd (eAdd (eC (.str [48,58,32])) (eVar 1)) (eC (.str [49]))) (eNil))))))))
 (dSeq (dSet 2 (eAdd (eVar 2) (eLst (eCons (eAdd (eAdd (eC (.str [48,58,32])) (eVar 1)) (eC (.str [32,49,10]))) (eCons (eAdd (eAdd (eAdd (eAdd (eC (.str [49,58,32])) (eVar 1)) (eC (.str [32,49,10,48,58,32]))) (eVar 1)) (eC (.str [32,49]))) (eCons (eAdd (eAdd (eC (.str [48,58,32,45,32,49,10,48,58,32])) (eVar 1)) (eC (.str [32,50]))) (eNil)))))))
 (dSeq (dSet 2 (eAdd (eVar 2) (eLst (eCons (eAdd (eAdd (eC (.str [48,58,32,45,32,49,10,10,49,58,32])) (eVar 1)) (eC (.str [32,50]))) (eCons (eC (.str [48,58,32,45,32,49,48,48,48,48,48,48,48,48,48,48,48,48,48,48,48])) (eCons (eAdd (eAdd (eC (.str [49,48,48,48,48,58,32])) (eVar 1)) (eC (.str [32,49]))) (eNil)))))))
 (dRetV 2))))))))))))
noncomputable def d_law_good:FN:=runFn 2 4
 (dSeq (dSet 2 (eAdd (eC (.int 1)) (eCall d_law_draw (eCons (eVar 0) (eCons (eC (.int 84)) (eCons (eC (.int 29)) (eNil)))))))
 (dSeq (dSet 3 (eLst (eCons (eTup (eNil)) (eCons (eTup (eCons (eTup (eCons (eC (.int 0)) (eCons (eTup (eCons (eTup (eCons (eVar 1) (eCons (eTup (eCons (eVar 2) (eNil))) (eNil)))) (eNil))) (eNil)))) (eNil))) (eCons (eTup (eCons (eTup (eCons (eC (.int 0)) (eCons (eTup (eCons (eTup (eCons (eC .non) (eCons (eTup (eCons (eC (.int 1)) (eCons (eC (.int 29)) (eNil)))) (eNil)))) (eCons (eTup (eCons (eVar 1) (eCons (eTup (eCons (eC (.int 2)) (eNil))) (eNil)))) (eNil)))) (eNil)))) (eNil))) (eNil))))))
 (dSeq (dSet 3 (eAdd (eVar 3) (eLst (eCons (eTup (eCons (eTup (eCons (eC (.int 1)) (eCons (eTup (eCons (eTup (eCons (eVar 1) (eCons (eTup (eCons (eVar 2) (eNil))) (eNil)))) (eNil))) (eNil)))) (eNil))) (eCons (eTup (eCons (eTup (eCons (eC (.int 0)) (eCons (eTup (eCons (eTup (eCons (eVar 1) (eCons (eTup (eCons (eC (.int 29)) (eNil))) (eNil)))) (eNil))) (eNil)))) (eCons (eTup (eCons (eC (.int 1)) (eCons (eTup (eCons (eTup (eCons (eVar 1) (eCons (eTup (eCons (eC (.int 1)) (eCons (eC (.int 2)) (eCons (eC (.int 3)) (eNil))))) (eNil)))) (eNil))) (eNil)))) (eNil)))) (eNil))))))
 (dRet (eIdx (eVar 3) (eCall d_law_draw (eCons (eVar 0) (eCons (eC (.int 85)) (eCons (eC (.int 5)) (eNil))))))))))
noncomputable def d_law_line_of:FN:=runFn 1 5
 (dSeq (dSetO 1 (eLst (eNil)))
 (dSeq (dFor (jSeq (eIdx (eVar 0) (eC (.int 1)))) (.t [2,3]) [2,3]
 (dApp 1 (eAdd (eAdd (eIdx (eLst (eCons (eC (.str [45])) (eCons (eVar 2) (eNil)))) (eInt (eOp1 opNotN (eVar 2)))) (eC (.str [32]))) (eTxt joinV (eC (.str [44])) (eLC [4] (jSeq (eVar 3)) (.v 4) (xYes) (eStr (eVar 4)))))))
 (dRet (eAdd (eAdd (eStr (eIdx (eVar 0) (eC (.int 0)))) (eC (.str [58,32]))) (eTxt joinV (eC (.str [59,32])) (eVar 1))))))
noncomputable def d_law_right_v1:FN:=runFn 1 12
 (dSeq (dSet 1 (eCall d_law_word_by (eCons (eVar 0) (eCons (eC (.int 0)) (eNil)))))
 (dSeq (dSet 2 (eIdx (eLst (eCons (eC (.str [97])) (eCons (eC (.str [98])) (eNil)))) (eInt (eOp2 opEq (eVar 1) (eC (.str [97]))))))
 (dSeq (dSet 3 (eIdx (eLst (eCons (eC (.str [])) (eCons (eAdd (eC (.str [32,124,32])) (eVar 2)) (eCons (eC (.str [32,124,32,45])) (eCons (eAdd (eAdd (eC (.str [32,124,32])) (eVar 1)) (eC (.str [32,124,32,45]))) (eNil)))))) (eCall d_law_draw (eCons (eVar 0) (eCons (eC (.int 86)) (eCons (eC (.int 4)) (eNil)))))))
 (dSeq (dSet 4 (eAdd (eAdd (eVar 1) (eC (.str [32,124,32,45]))) (eVar 3)))
 (dSeq (dSet 5 (eAdd (eTup (eCons (eVar 1) (eCons (eC .non) (eNil)))) (eIdx (eLst (eCons (eTup (eNil)) (eCons (eTup (eCons (eVar 2) (eNil))) (eCons (eTup (eCons (eC .non) (eNil))) (eCons (eTup (eCons (eVar 1) (eCons (eC .non) (eNil)))) (eNil)))))) (eCall d_law_draw (eCons (eVar 0) (eCons (eC (.int 86)) (eCons (eC (.int 4)) (eNil))))))))
 (dSeq (dSet 6 (eCall d_law_draw (eCons (eVar 0) (eCons (eC (.int 87)) (eCons (eC (.int 5)) (eNil))))))
 (dSeq (dIf (xVal (eOp2 opEq (eVar 6) (eC (.int 0))))
 (dSeq (dSet 7 (eCall d_law_bad_heads (eCons (eVar 1) (eNil))))
 (dRet (eOp2 opEq (eCall d_law_asked_v1 (eCons (eIdx (eVar 7) (eCall d_law_draw (eCons (eVar 0) (eCons (eC (.int 88)) (eCons (eLen (eVar 7)) (eNil)))))) (eNil))) (eTup (eCons (eC (.str [114,101,102,117,115,101,100])) (eCons (eC .non) (eNil)))))))
 (dNil))
 (dSeq (dIf (xVal (eOp2 opLt (eVar 6) (eC (.int 4))))
 (dSeq (dSet 7 (eCall d_law_bad_lines (eCons (eVar 1) (eCons (eVar 2) (eNil)))))
 (dSeq (dSet 8 (eAdd (eAdd (eVar 4) (eC (.str [10]))) (eIdx (eVar 7) (eCall d_law_draw (eCons (eVar 0) (eCons (eC (.int 88)) (eCons (eLen (eVar 7)) (eNil))))))))
 (dSeq (dIf (xVal (eOp2 opEq (eVar 6) (eC (.int 3))))
 (dSet 8 (eAdd (eAdd (eAdd (eVar 8) (eC (.str [10,49,58,32]))) (eVar 2)) (eC (.str [32,53]))))
 (dNil))
 (dRet (eOp2 opEq (eCall d_law_asked_v1 (eCons (eVar 8) (eNil))) (eTup (eCons (eC (.str [114,101,102,117,115,101,100])) (eCons (eC .non) (eNil)))))))))
 (dNil))
 (dSeq (dSet 9 (eCall d_law_good (eCons (eVar 0) (eCons (eVar 2) (eNil)))))
 (dSeq (dSet 10 (eCall d_law_asked_v1 (eCons (eTxt joinV (eC (.str [10])) (eAdd (eLst (eCons (eVar 4) (eNil))) (eLC [11] (jSeq (eVar 9)) (.v 11) (xYes) (eCall d_law_line_of (eCons (eVar 11) (eNil)))))) (eNil))))
 (dRet (eAnd (eOp2 opEq (eIdx (eVar 10) (eC (.int 0))) (eC (.str [116,111,108,100]))) (eCall (d_law_same_v1 8) (eCons (eIdx (eVar 10) (eC (.int 1))) (eCons (eTup (eCons (eVar 5) (eCons (eVar 9) (eNil)))) (eNil))))))))))))))))
noncomputable def d_law_v63:FN:=runFn 1 2
 (dSeq (dFor (jSeq (eAdd (eLst (eCons (eC (.int 0)) (eNil))) (eSlice (eVar 0) (oNone) (oSome (eC (.int 60)))))) (.v 1) [1]
 (dIf (xNot (xVal (eCall d_law_right_v1 (eCons (eVar 1) (eNil)))))
 (dRet (eC (.bl false)))
 (dNil)))
 (dSeq (dIf (xVal (eOp2 opNe (eCall d_law_asked_v1 (eCons (eC (.str [10,48,58,32,97,32,49])) (eNil))) (eTup (eCons (eC (.str [114,101,102,117,115,101,100])) (eCons (eC .non) (eNil))))))
 (dRet (eC (.bl false)))
 (dNil))
 (dRet (eCall (d_law_same_v1 8) (eCons (eCall d_apparatus_read (eCons (eC (.str [])) (eNil))) (eCons (eTup (eCons (eTup (eNil)) (eCons (eTup (eNil)) (eNil)))) (eNil)))))))
end Vm
end
section
set_option Elab.async false
set_option linter.all false
set_option maxRecDepth 100000
set_option maxHeartbeats 4000000
namespace VP
open PySem PySem.Spec PyProof.Rows L2 Vm Vl
def topS (i : Nat) : Stmt := PySem.Challenge.pw_vellum_k32_texts_that_are_no_apparatus.main.body.getD i (.Pass ⟨0, 0, 0, 0⟩)
abbrev s_look_rows:Stmt:=topS 11
theorem sc_look_rows:FnScope ["rows","many","taken","last","row"] ["rows","many","taken"] (defScope s_look_rows):=⟨rfl,rfl,rfl,by decide +kernel,rfl,by decide +kernel,by decide +kernel⟩
theorem ok_look_rows {C:Cn} {ad:Addr} {fd:FuncData} (F:Fun C.K "look_rows" "look_rows" s_look_rows ad fd) (hm:C.mg "look_rows" = some (.ref ad)) (hb:Binds C.K fd ["rows","many","taken"] []) (z_len:C.mg "len" = none) (x_NoNotes:Xc C 4):Cal C "look_rows" 3 1 d_look_rows :=
 fn_ok F sc_look_rows rfl rfl hm hb
 (ds_cons (ds_if (dt_c (dc_eq (de_len (de_var 0) z_len) (de_int)))
 (ds_one (ds_raise (i:=4) x_NoNotes))
 (ds_nil))
 (ds_cons (ds_set 3 (de_int))
 (ds_one (ds_for [4] (di_seq (de_var 0)) (dg_v 4)
 (ds_cons (ds_if (dt_chain (dw_or (dt_c (dc_le (de_var 4) (de_var 3))) (dw_or (dt_c (dc_ge (de_var 4) (de_var 1))) (dw_or1 (dt_c (dc_din (de_var 4) (de_var 2)))))))
 (ds_one (ds_raise (i:=4) x_NoNotes))
 (ds_nil))
 (ds_one (ds_set 3 (de_var 4))))))))
abbrev s_look_readings:Stmt:=topS 12
theorem sc_look_readings:FnScope ["base","readings","many","taken","seen","first","entry","rows","row"] ["base","readings","many"] (defScope s_look_readings):=⟨rfl,rfl,rfl,by decide +kernel,rfl,by decide +kernel,by decide +kernel⟩
theorem ok_look_readings {C:Cn} {ad:Addr} {fd:FuncData} (F:Fun C.K "look_readings" "look_readings" s_look_readings ad fd) (hm:C.mg "look_readings" = some (.ref ad)) (hb:Binds C.K fd ["base","readings","many"] []) (z_len:C.mg "len" = none) (x_NoNotes:Xc C 4) (c_look_rows:Cal C "look_rows" 3 1 d_look_rows):Cal C "look_readings" 3 2 d_look_readings :=
 fn_ok F sc_look_readings rfl rfl hm hb
 (ds_cons (ds_if (dt_c (dc_eq (de_len (de_var 1) z_len) (de_int)))
 (ds_one (ds_raise (i:=4) x_NoNotes))
 (ds_nil))
 (ds_cons (ds_setO 3 (de_dic0 0))
 (ds_cons (ds_setO 4 (de_lst (da_nil)))
 (ds_cons (ds_set 5 (de_int))
 (ds_cons (ds_for [6,7,8] (di_seq (de_var 1)) (dg_t (dgs_cons (dg_v 6) (dgs_cons (dg_v 7) (dgs_nil))))
 (ds_cons (ds_if (dt_chain (dw_or (dt_c (dc_eq (de_var 6) (de_var 0))) (dw_or1 (dt_c (dc_in (de_var 6) (de_var 4))))))
 (ds_one (ds_raise (i:=4) x_NoNotes))
 (ds_nil))
 (ds_cons (ds_ex (de_call c_look_rows (da_cons (de_var 7) (da_cons (de_var 2) (da_cons (de_var 3) (da_nil)))) (hAs:=al_cons (al_cons (al_cons al_nil)))))
 (ds_cons (ds_if (dt_c (dc_le (de_idx (de_var 7) (de_int)) (de_var 5)))
 (ds_one (ds_raise (i:=4) x_NoNotes))
 (ds_nil))
 (ds_cons (ds_set 5 (de_idx (de_var 7) (de_int)))
 (ds_cons (ds_app 4 (de_var 6))
 (ds_one (ds_for [8] (di_seq (de_var 7)) (dg_v 8)
 (ds_one (ds_dput 3 (de_var 8) (de_var 6)))))))))))
 (ds_one (ds_retV 3)))))))
abbrev s_column_back:Stmt:=topS 13
theorem sc_column_back:FnScope ["base","many","taken","row"] ["base","many","taken"] (defScope s_column_back):=⟨rfl,rfl,rfl,by decide +kernel,rfl,by decide +kernel,by decide +kernel⟩
theorem ok_column_back {C:Cn} {ad:Addr} {fd:FuncData} (F:Fun C.K "column_back" "column_back" s_column_back ad fd) (hm:C.mg "column_back" = some (.ref ad)) (hb:Binds C.K fd ["base","many","taken"] []) (z_tuple:C.mg "tuple" = none) (z_range:C.mg "range" = none):Cal C "column_back" 3 1 d_column_back :=
 fn_ok F sc_column_back rfl rfl hm hb
 (ds_one (ds_ret (de_tuple (de_lc (own:=[("row",3)]) (di_range (de_var 1) z_range) (by decide +kernel) (dg_v 3) (df_nil) (de_dget (de_var 2) (de_var 3) (de_var 0))) z_tuple)))
abbrev s_collation_back:Stmt:=topS 14
theorem sc_collation_back:FnScope ["entries","many","notes","columns","last","number","readings","entry"] ["entries","many","notes"] (defScope s_collation_back):=⟨rfl,rfl,rfl,by decide +kernel,rfl,by decide +kernel,by decide +kernel⟩
theorem ok_collation_back {C:Cn} {ad:Addr} {fd:FuncData} (F:Fun C.K "collation_back" "collation_back" s_collation_back ad fd) (hm:C.mg "collation_back" = some (.ref ad)) (hb:Binds C.K fd ["entries","many","notes"] []) (z_len:C.mg "len" = none) (z_tuple:C.mg "tuple" = none) (x_NoNotes:Xc C 4) (c_column_back:Cal C "column_back" 3 1 d_column_back) (c_look_readings:Cal C "look_readings" 3 2 d_look_readings):Cal C "collation_back" 3 3 d_collation_back :=
 fn_ok F sc_collation_back rfl rfl hm hb
 (ds_cons (ds_setLC 3 true (own:=[("entry",7)]) (di_seq (de_var 0)) (by decide +kernel) (dg_v 7) (df_nil) (de_call c_column_back (da_cons (de_var 7) (da_cons (de_var 1) (da_cons (de_dic0 0) (da_nil)))) (hAs:=al_cons (al_cons (al_cons al_nil)))))
 (ds_cons (ds_set 4 (de_neg (de_int)))
 (ds_cons (ds_for [5,6] (di_seq (de_var 2)) (dg_t (dgs_cons (dg_v 5) (dgs_cons (dg_v 6) (dgs_nil))))
 (ds_cons (ds_if (dt_chain (dw_or (dt_c (dc_le (de_var 5) (de_var 4))) (dw_or1 (dt_c (dc_ge (de_var 5) (de_len (de_var 0) z_len))))))
 (ds_one (ds_raise (i:=4) x_NoNotes))
 (ds_nil))
 (ds_cons (ds_set 4 (de_var 5))
 (ds_one (ds_setIx 3 (de_var 5) (de_call c_column_back (da_cons (de_idx (de_var 0) (de_var 5)) (da_cons (de_var 1) (da_cons (de_call c_look_readings (da_cons (de_idx (de_var 0) (de_var 5)) (da_cons (de_var 6) (da_cons (de_var 1) (da_nil)))) (hAs:=al_cons (al_cons (al_cons al_nil)))) (da_nil)))) (hAs:=al_cons (al_cons (al_cons al_nil)))))))))
 (ds_one (ds_ret (de_tuple (de_var 3) z_tuple))))))
abbrev s_entry_read:Stmt:=topS 19
theorem sc_entry_read:FnScope ["text","sign"] ["text"] (defScope s_entry_read):=⟨rfl,rfl,rfl,by decide +kernel,rfl,by decide +kernel,by decide +kernel⟩
theorem ok_entry_read {C:Cn} {ad:Addr} {fd:FuncData} (F:Fun C.K "entry_read" "entry_read" s_entry_read ad fd) (hm:C.mg "entry_read" = some (.ref ad)) (hb:Binds C.K fd ["text"] []) (z_len:C.mg "len" = none) (g_LETTERS:Glb C "LETTERS" (.str [97,98,99,100,101,102,103,104,105,106,107,108,109,110,111,112,113,114,115,116,117,118,119,120,121,122])) (x_NoNotes:Xc C 4):Cal C "entry_read" 1 1 d_entry_read :=
 fn_ok F sc_entry_read rfl rfl hm hb
 (ds_cons (ds_if (dt_c (dc_eq (de_var 0) (de_str [45])))
 (ds_one (ds_ret (de_non)))
 (ds_nil))
 (ds_cons (ds_if (dt_chain (dw_or (dt_c (dc_lt (de_len (de_var 0) z_len) (de_int))) (dw_or1 (dt_c (dc_gt (de_len (de_var 0) z_len) (de_int))))))
 (ds_one (ds_raise (i:=4) x_NoNotes))
 (ds_nil))
 (ds_cons (ds_for [1] (di_seq (de_var 0)) (dg_v 1)
 (ds_one (ds_if (dt_c (dc_notIn (de_var 1) (de_glb g_LETTERS)))
 (ds_one (ds_raise (i:=4) x_NoNotes))
 (ds_nil))))
 (ds_one (ds_retV 0)))))
abbrev s_number_read:Stmt:=topS 20
theorem sc_number_read:FnScope ["text","sign"] ["text"] (defScope s_number_read):=⟨rfl,rfl,rfl,by decide +kernel,rfl,by decide +kernel,by decide +kernel⟩
theorem ok_number_read {C:Cn} {ad:Addr} {fd:FuncData} (F:Fun C.K "number_read" "number_read" s_number_read ad fd) (hm:C.mg "number_read" = some (.ref ad)) (hb:Binds C.K fd ["text"] []) (z_len:C.mg "len" = none) (z_int:C.mg "int" = none) (g_FIGURES:Glb C "FIGURES" (.str [48,49,50,51,52,53,54,55,56,57])) (x_NoNotes:Xc C 4):Cal C "number_read" 1 1 d_number_read :=
 fn_ok F sc_number_read rfl rfl hm hb
 (ds_cons (ds_if (dt_chain (dw_or (dt_c (dc_lt (de_len (de_var 0) z_len) (de_int))) (dw_or (dt_c (dc_gt (de_len (de_var 0) z_len) (de_int))) (dw_or1 (dt_chain (dw_and (dt_c (dc_gt (de_len (de_var 0) z_len) (de_int))) (dw_and1 (dt_c (dc_eq (de_idx (de_var 0) (de_int)) (de_str [48]))))))))))
 (ds_one (ds_raise (i:=4) x_NoNotes))
 (ds_nil))
 (ds_cons (ds_for [1] (di_seq (de_var 0)) (dg_v 1)
 (ds_one (ds_if (dt_c (dc_notIn (de_var 1) (de_glb g_FIGURES)))
 (ds_one (ds_raise (i:=4) x_NoNotes))
 (ds_nil))))
 (ds_one (ds_ret (de_intT (de_var 0) z_int)))))
abbrev s_two_parts:Stmt:=topS 21
theorem sc_two_parts:FnScope ["text","mark","head","found","tail"] ["text","mark"] (defScope s_two_parts):=⟨rfl,rfl,rfl,by decide +kernel,rfl,by decide +kernel,by decide +kernel⟩
theorem ok_two_parts {C:Cn} {ad:Addr} {fd:FuncData} (F:Fun C.K "two_parts" "two_parts" s_two_parts ad fd) (hm:C.mg "two_parts" = some (.ref ad)) (hb:Binds C.K fd ["text","mark"] []) (x_NoNotes:Xc C 4):Cal C "two_parts" 2 1 d_two_parts :=
 fn_ok F sc_two_parts rfl rfl hm hb
 (ds_cons (ds_setT (de_partition (de_var 0) (de_var 1)) (dg_t (dgs_cons (dg_v 2) (dgs_cons (dg_v 3) (dgs_cons (dg_v 4) (dgs_nil))))))
 (ds_cons (ds_if (dt_c (dc_eq (de_var 3) (de_str [])))
 (ds_one (ds_raise (i:=4) x_NoNotes))
 (ds_nil))
 (ds_one (ds_ret (de_tup (da_cons (de_var 2) (da_cons (de_var 4) (da_nil))))))))
abbrev s_reading_read:Stmt:=topS 22
theorem sc_reading_read:FnScope ["text","head","tail","part"] ["text"] (defScope s_reading_read):=⟨rfl,rfl,rfl,by decide +kernel,rfl,by decide +kernel,by decide +kernel⟩
theorem ok_reading_read {C:Cn} {ad:Addr} {fd:FuncData} (F:Fun C.K "reading_read" "reading_read" s_reading_read ad fd) (hm:C.mg "reading_read" = some (.ref ad)) (hb:Binds C.K fd ["text"] []) (z_tuple:C.mg "tuple" = none) (c_two_parts:Cal C "two_parts" 2 1 d_two_parts) (c_entry_read:Cal C "entry_read" 1 1 d_entry_read) (c_number_read:Cal C "number_read" 1 1 d_number_read):Cal C "reading_read" 1 2 d_reading_read :=
 fn_ok F sc_reading_read rfl rfl hm hb
 (ds_cons (ds_setT (de_call c_two_parts (da_cons (de_var 0) (da_cons (de_str [32]) (da_nil))) (hAs:=al_cons (al_cons al_nil))) (dg_t (dgs_cons (dg_v 1) (dgs_cons (dg_v 2) (dgs_nil)))))
 (ds_one (dsx_ret (dex_tup (dax_cons (dex_of (de_call c_entry_read (da_cons (de_var 1) (da_nil)) (hAs:=al_cons al_nil))) (dax_cons (dex_tuple (dex_lcx (own:=[("part",3)]) (di_seq (de_split (de_var 2) (de_str [44]))) (by decide +kernel) (dg_v 3) (df_nil) (de_call c_number_read (da_cons (de_var 3) (da_nil)) (hAs:=al_cons al_nil))) z_tuple) (dax_nil)))))))
abbrev s_note_read:Stmt:=topS 23
theorem sc_note_read:FnScope ["line","head","tail","part"] ["line"] (defScope s_note_read):=⟨rfl,rfl,rfl,by decide +kernel,rfl,by decide +kernel,by decide +kernel⟩
theorem ok_note_read {C:Cn} {ad:Addr} {fd:FuncData} (F:Fun C.K "note_read" "note_read" s_note_read ad fd) (hm:C.mg "note_read" = some (.ref ad)) (hb:Binds C.K fd ["line"] []) (z_tuple:C.mg "tuple" = none) (c_two_parts:Cal C "two_parts" 2 1 d_two_parts) (c_number_read:Cal C "number_read" 1 1 d_number_read) (c_reading_read:Cal C "reading_read" 1 2 d_reading_read):Cal C "note_read" 1 3 d_note_read :=
 fn_ok F sc_note_read rfl rfl hm hb
 (ds_cons (ds_setT (de_call c_two_parts (da_cons (de_var 0) (da_cons (de_str [58,32]) (da_nil))) (hAs:=al_cons (al_cons al_nil))) (dg_t (dgs_cons (dg_v 1) (dgs_cons (dg_v 2) (dgs_nil)))))
 (ds_one (dsx_ret (dex_tup (dax_cons (dex_of (de_call c_number_read (da_cons (de_var 1) (da_nil)) (hAs:=al_cons al_nil))) (dax_cons (dex_tuple (dex_lcx (own:=[("part",3)]) (di_seq (de_split (de_var 2) (de_str [59,32]))) (by decide +kernel) (dg_v 3) (df_nil) (de_call c_reading_read (da_cons (de_var 3) (da_nil)) (hAs:=al_cons al_nil))) z_tuple) (dax_nil)))))))
abbrev s_apparatus_read:Stmt:=topS 24
theorem sc_apparatus_read:FnScope ["text","lines","entries","notes","part","line"] ["text"] (defScope s_apparatus_read):=⟨rfl,rfl,rfl,by decide +kernel,rfl,by decide +kernel,by decide +kernel⟩
theorem ok_apparatus_read {C:Cn} {ad:Addr} {fd:FuncData} (F:Fun C.K "apparatus_read" "apparatus_read" s_apparatus_read ad fd) (hm:C.mg "apparatus_read" = some (.ref ad)) (hb:Binds C.K fd ["text"] []) (z_tuple:C.mg "tuple" = none) (g_MOST_ROWS:Glb C "MOST_ROWS" (.int 30)) (c_entry_read:Cal C "entry_read" 1 1 d_entry_read) (c_note_read:Cal C "note_read" 1 3 d_note_read) (c_collation_back:Cal C "collation_back" 3 3 d_collation_back):Cal C "apparatus_read" 1 4 d_apparatus_read :=
 fn_ok F sc_apparatus_read rfl rfl hm hb
 (ds_cons (ds_set 1 (de_split (de_var 0) (de_str [10])))
 (ds_cons (ds_set 2 (de_tup (da_nil)))
 (ds_cons (ds_if (dt_c (dc_ne (de_idx (de_var 1) (de_int)) (de_str [])))
 (ds_one (dsx_set 2 (dex_tuple (dex_lcx (own:=[("part",4)]) (di_seq (de_split (de_idx (de_var 1) (de_int)) (de_str [32,124,32]))) (by decide +kernel) (dg_v 4) (df_nil) (de_call c_entry_read (da_cons (de_var 4) (da_nil)) (hAs:=al_cons al_nil))) z_tuple)))
 (ds_nil))
 (ds_cons (dsx_set 3 (dex_tuple (dex_lcx (own:=[("line",5)]) (di_seq (de_slice (de_var 1) (do_some (de_int)) (do_none))) (by decide +kernel) (dg_v 5) (df_nil) (de_call c_note_read (da_cons (de_var 5) (da_nil)) (hAs:=al_cons al_nil))) z_tuple))
 (ds_cons (ds_ex (de_call c_collation_back (da_cons (de_var 2) (da_cons (de_glb g_MOST_ROWS) (da_cons (de_var 3) (da_nil)))) (hAs:=al_cons (al_cons (al_cons al_nil)))))
 (ds_one (ds_ret (de_tup (da_cons (de_var 2) (da_cons (de_var 3) (da_nil)))))))))))
abbrev s__law_draw:Stmt:=topS 27
theorem sc__law_draw:FnScope ["cell","k","many","prime","mixed"] ["cell","k","many"] (defScope s__law_draw):=⟨rfl,rfl,rfl,by decide +kernel,rfl,by decide +kernel,by decide +kernel⟩
theorem ok__law_draw {C:Cn} {ad:Addr} {fd:FuncData} (F:Fun C.K "_law_draw" "_law_draw" s__law_draw ad fd) (hm:C.mg "_law_draw" = some (.ref ad)) (hb:Binds C.K fd ["cell","k","many"] []):Cal C "_law_draw" 3 1 d_law_draw :=
 fn_ok F sc__law_draw rfl rfl hm hb
 (ds_cons (ds_set 3 (de_int))
 (ds_cons (ds_set 4 (de_mod (de_mul2 (de_add (de_mul2 (de_var 0) (de_int)) (de_int)) (de_add (de_mul2 (de_mul2 (de_var 1) (de_var 1)) (de_int)) (de_int))) (de_var 3)))
 (ds_one (ds_ret (de_mod (de_fdiv (de_mod (de_mul2 (de_var 4) (de_add (de_var 4) (de_int))) (de_var 3)) (de_int)) (de_var 2))))))
abbrev s__law_same:Stmt:=topS 28
theorem sc__law_same:FnScope ["found","due","k"] ["found","due"] (defScope s__law_same):=⟨rfl,rfl,rfl,by decide +kernel,rfl,by decide +kernel,by decide +kernel⟩
theorem ok__law_same {C:Cn} {ad:Addr} {fd:FuncData} (F:Fun C.K "_law_same" "_law_same" s__law_same ad fd) (hm:C.mg "_law_same" = some (.ref ad)) (hb:Binds C.K fd ["found","due"] []) (z_isinstance:C.mg "isinstance" = none) (z_tuple:C.mg "tuple" = none) (z_len:C.mg "len" = none) (z_all:C.mg "all" = none) (z_range:C.mg "range" = none) (z_str:C.mg "str" = none) (z_int:C.mg "int" = none) (z_bool:C.mg "bool" = none):∀ n,Cal C "_law_same" 2 (n+1) (d_law_same_v1 n)
 | 0=>cal_bad F sc__law_same rfl hm hb
 | n+1=>by
  have c_rec:=ok__law_same F hm hb z_isinstance z_tuple z_len z_all z_range z_str z_int z_bool n
  exact fn_ok F sc__law_same rfl rfl hm hb (
   ds_cons (ds_if (dt_val (de_isI (de_var 1) "tuple" z_isinstance z_tuple))
 (ds_cons (ds_if (dt_chain (dw_or (dt_not (dt_val (de_isI (de_var 0) "tuple" z_isinstance z_tuple))) (dw_or1 (dt_c (dc_ne (de_len (de_var 0) z_len) (de_len (de_var 1) z_len))))))
 (ds_one (ds_ret (de_bl)))
 (ds_nil))
 (ds_one (ds_ret (de_all (de_lc (own:=[("k",2)]) (di_range (de_len (de_var 1) z_len) z_range) (by decide +kernel) (dg_v 2) (df_nil) (de_call c_rec (da_cons (de_idx (de_var 0) (de_var 2)) (da_cons (de_idx (de_var 1) (de_var 2)) (da_nil))) (hAs:=al_cons (al_cons al_nil)) (hj:=by omega))) z_all))))
 (ds_nil))
 (ds_cons (ds_if (dt_c (dc_isN (de_var 1)))
 (ds_one (ds_ret (de_c (dc_isN (de_var 0)))))
 (ds_nil))
 (ds_cons (ds_if (dt_val (de_isI (de_var 1) "str" z_isinstance z_str))
 (ds_one (ds_ret (de_and (de_isI (de_var 0) "str" z_isinstance z_str) (de_one (de_c (dc_eq (de_var 0) (de_var 1)))))))
 (ds_nil))
 (ds_one (ds_ret (de_and (de_isI (de_var 0) "int" z_isinstance z_int) (de_and (de_not (de_isI (de_var 0) "bool" z_isinstance z_bool)) (de_one (de_c (dc_eq (de_var 0) (de_var 1)))))))))))
abbrev s__law_word_by:Stmt:=topS 29
theorem sc__law_word_by:FnScope ["cell","k","word","j"] ["cell","k"] (defScope s__law_word_by):=⟨rfl,rfl,rfl,by decide +kernel,rfl,by decide +kernel,by decide +kernel⟩
theorem ok__law_word_by {C:Cn} {ad:Addr} {fd:FuncData} (F:Fun C.K "_law_word_by" "_law_word_by" s__law_word_by ad fd) (hm:C.mg "_law_word_by" = some (.ref ad)) (hb:Binds C.K fd ["cell","k"] []) (z_range:C.mg "range" = none) (c__law_draw:Cal C "_law_draw" 3 1 d_law_draw):Cal C "_law_word_by" 2 2 d_law_word_by :=
 fn_ok F sc__law_word_by rfl rfl hm hb
 (ds_cons (ds_set 2 (de_str []))
 (ds_cons (ds_for [3] (di_range (de_idx (de_lst (da_cons (de_int) (da_cons (de_int) (da_cons (de_int) (da_cons (de_int) (da_nil)))))) (de_call c__law_draw (da_cons (de_var 0) (da_cons (de_add (de_mul2 (de_int) (de_var 1)) (de_int)) (da_cons (de_int) (da_nil)))) (hAs:=al_cons (al_cons (al_cons al_nil))))) z_range) (dg_v 3)
 (ds_one (ds_set 2 (de_add (de_var 2) (de_idx (de_str [97,98,99,100,101,102,103,104,105,106,107,108,109,110,111,112,113,114,115,116,117,118,119,120,121,122]) (de_call c__law_draw (da_cons (de_var 0) (da_cons (de_add (de_add (de_int) (de_mul2 (de_int) (de_var 1))) (de_var 3)) (da_cons (de_int) (da_nil)))) (hAs:=al_cons (al_cons (al_cons al_nil)))))))))
 (ds_one (ds_retV 2))))
abbrev s__law_asked:Stmt:=topS 30
theorem sc__law_asked:FnScope ["line","caught","found","e"] ["line"] (defScope s__law_asked):=⟨rfl,rfl,rfl,by decide +kernel,rfl,by decide +kernel,by decide +kernel⟩
theorem ok__law_asked {C:Cn} {ad:Addr} {fd:FuncData} (F:Fun C.K "_law_asked" "_law_asked" s__law_asked ad fd) (hm:C.mg "_law_asked" = some (.ref ad)) (hb:Binds C.K fd ["line"] []) (z_isinstance:C.mg "isinstance" = none) (z_int:C.mg "int" = none) (x_VellumError:Xc C 0) (x_NoNotes:Xc C 4) (s_VellumError:Xs C 0 [(4,true)]) (q_NoLine:Iq C "NoLine" [(4,false)]) (q_NoName:Iq C "NoName" [(4,false)]) (q_NoPrices:Iq C "NoPrices" [(4,false)]) (q_NoRow:Iq C "NoRow" [(4,false)]) (q_NoSlips:Iq C "NoSlips" [(4,false)]) (q_TooMany:Iq C "TooMany" [(4,false)]) (q_TwiceNamed:Iq C "TwiceNamed" [(4,false)]) (q_NoNotes:Iq C "NoNotes" [(4,true)]) (q_ValueError:Iq C "ValueError" [(4,true)]) (c_apparatus_read:Cal C "apparatus_read" 1 4 d_apparatus_read):Cal C "_law_asked" 1 5 d_law_asked_v1 :=
 fn_ok F sc__law_asked rfl rfl hm hb
 (ds_cons (ds_set 1 (de_non))
 (ds_cons (ds_set 2 (de_non))
 (ds_cons (ds_tryT (i:=3) s_VellumError
 (ds_one (ds_set 2 (de_call c_apparatus_read (da_cons (de_var 0) (da_nil)) (hAs:=al_cons al_nil))))
 (ds_one (ds_set 1 (de_var 3))))
 (ds_cons (ds_if (dt_c (dc_isN (de_var 1)))
 (ds_one (ds_ret (de_tup (da_cons (de_str [116,111,108,100]) (da_cons (de_var 2) (da_nil))))))
 (ds_nil))
 (ds_cons (ds_if (dt_val (de_isEs (de_var 1) (tca_cons q_NoLine (tca_cons q_NoName (tca_cons q_NoPrices (tca_cons q_NoRow (tca_cons q_NoSlips (tca_cons q_TooMany (tca_cons q_TwiceNamed (tca_nil)))))))) z_isinstance))
 (ds_one (ds_ret (de_tup (da_cons (de_str [97,110,111,116,104,101,114]) (da_cons (de_non) (da_nil))))))
 (ds_nil))
 (ds_one (ds_ret (de_tup (da_cons (de_idx (de_lst (da_cons (de_str [111,100,100]) (da_cons (de_str [114,101,102,117,115,101,100]) (da_nil)))) (de_int1 (de_and (de_isE (de_var 1) q_NoNotes z_isinstance) (de_one (de_isE (de_var 1) q_ValueError z_isinstance))) z_int)) (da_cons (de_non) (da_nil)))))))))))
abbrev s__law_bad_heads:Stmt:=topS 31
theorem sc__law_bad_heads:FnScope ["word","rows"] ["word"] (defScope s__law_bad_heads):=⟨rfl,rfl,rfl,by decide +kernel,rfl,by decide +kernel,by decide +kernel⟩
theorem ok__law_bad_heads {C:Cn} {ad:Addr} {fd:FuncData} (F:Fun C.K "_law_bad_heads" "_law_bad_heads" s__law_bad_heads ad fd) (hm:C.mg "_law_bad_heads" = some (.ref ad)) (hb:Binds C.K fd ["word"] []):Cal C "_law_bad_heads" 1 1 d_law_bad_heads :=
 fn_ok F sc__law_bad_heads rfl rfl hm hb
 (ds_cons (ds_set 1 (de_lst (da_cons (de_str [32]) (da_cons (de_str [65]) (da_cons (de_add (de_var 0) (de_str [65])) (da_cons (de_str [45,45]) (da_cons (de_add (de_var 0) (de_str [32,124])) (da_cons (de_add (de_str [124,32]) (de_var 0)) (da_cons (de_add (de_add (de_var 0) (de_str [124])) (de_var 0)) (da_cons (de_add (de_add (de_var 0) (de_str [32,124,32,124,32])) (de_var 0)) (da_nil)))))))))))
 (ds_cons (ds_set 1 (de_add (de_var 1) (de_lst (da_cons (de_add (de_add (de_var 0) (de_str [32,124,32,32])) (de_var 0)) (da_cons (de_add (de_add (de_var 0) (de_str [32,32,124,32])) (de_var 0)) (da_cons (de_add (de_str [32]) (de_var 0)) (da_cons (de_add (de_var 0) (de_str [32])) (da_cons (de_add (de_add (de_var 0) (de_str [32])) (de_var 0)) (da_nil)))))))))
 (ds_cons (ds_set 1 (de_add (de_var 1) (de_lst (da_cons (de_add (de_var 0) (de_str [32,124,32])) (da_cons (de_add (de_var 0) (de_str [10])) (da_cons (de_str [10]) (da_cons (de_strmul (n:=13) [97] [97,97,97,97,97,97,97,97,97,97,97,97,97]) (da_cons (de_str [97,98,99,100,101,102,103,104,105,106,107,108,109,32,124,32,97]) (da_cons (de_add (de_var 0) (de_str [49])) (da_cons (de_str [48]) (da_cons (de_add (de_var 0) (de_str [32,124,32,45,49])) (da_nil))))))))))))
 (ds_one (ds_retV 1)))))
abbrev s__law_bad_lines:Stmt:=topS 32
theorem sc__law_bad_lines:FnScope ["word","other","rows"] ["word","other"] (defScope s__law_bad_lines):=⟨rfl,rfl,rfl,by decide +kernel,rfl,by decide +kernel,by decide +kernel⟩
theorem ok__law_bad_lines {C:Cn} {ad:Addr} {fd:FuncData} (F:Fun C.K "_law_bad_lines" "_law_bad_lines" s__law_bad_lines ad fd) (hm:C.mg "_law_bad_lines" = some (.ref ad)) (hb:Binds C.K fd ["word","other"] []):Cal C "_law_bad_lines" 2 1 d_law_bad_lines :=
 fn_ok F sc__law_bad_lines rfl rfl hm hb
 (ds_cons (ds_set 2 (de_lst (da_cons (de_str []) (da_cons (de_str [48]) (da_cons (de_str [48,58]) (da_cons (de_str [48,58,32]) (da_cons (de_add (de_add (de_str [48,58]) (de_var 1)) (de_str [32,49])) (da_cons (de_add (de_add (de_str [48,32,58,32]) (de_var 1)) (de_str [32,49])) (da_cons (de_add (de_str [48,58,32]) (de_var 1)) (da_cons (de_add (de_add (de_str [48,58,32]) (de_var 1)) (de_str [32])) (da_nil)))))))))))
 (ds_cons (ds_set 2 (de_add (de_var 2) (de_lst (da_cons (de_add (de_add (de_str [48,58,32]) (de_var 1)) (de_str [32,49,44])) (da_cons (de_add (de_add (de_str [48,58,32]) (de_var 1)) (de_str [32,44,49])) (da_cons (de_add (de_add (de_str [48,58,32]) (de_var 1)) (de_str [32,49,44,44,50])) (da_cons (de_add (de_add (de_str [48,58,32]) (de_var 1)) (de_str [32,49,44,32,50])) (da_nil))))))))
 (ds_cons (ds_set 2 (de_add (de_var 2) (de_lst (da_cons (de_add (de_add (de_str [48,58,32]) (de_var 1)) (de_str [32,48])) (da_cons (de_add (de_add (de_str [48,58,32]) (de_var 1)) (de_str [32,51,48])) (da_cons (de_add (de_add (de_str [48,58,32]) (de_var 1)) (de_str [32,48,49])) (da_cons (de_add (de_add (de_str [48,58,32]) (de_var 1)) (de_str [32,43,49])) (da_nil))))))))
 (ds_cons (ds_set 2 (de_add (de_var 2) (de_lst (da_cons (de_add (de_add (de_str [48,58,32]) (de_var 1)) (de_str [32,45,49])) (da_cons (de_add (de_add (de_str [48,58,32]) (de_var 1)) (de_str [32,49,95,48])) (da_cons (de_add (de_add (de_str [48,58,32]) (de_var 1)) (de_str [32,120])) (da_cons (de_add (de_add (de_str [48,58,32]) (de_var 1)) (de_str [32,50,44,49])) (da_nil))))))))
 (ds_cons (ds_set 2 (de_add (de_var 2) (de_lst (da_cons (de_add (de_add (de_str [48,58,32]) (de_var 1)) (de_str [32,49,44,49])) (da_cons (de_add (de_add (de_str [48,58,32,32]) (de_var 1)) (de_str [32,49])) (da_cons (de_add (de_add (de_str [48,58,32]) (de_var 1)) (de_str [32,32,49])) (da_cons (de_add (de_add (de_str [32,48,58,32]) (de_var 1)) (de_str [32,49])) (da_nil))))))))
 (ds_cons (ds_set 2 (de_add (de_var 2) (de_lst (da_cons (de_add (de_add (de_str [48,48,58,32]) (de_var 1)) (de_str [32,49])) (da_cons (de_add (de_add (de_str [43,48,58,32]) (de_var 1)) (de_str [32,49])) (da_cons (de_add (de_add (de_str [45,49,58,32]) (de_var 1)) (de_str [32,49])) (da_cons (de_add (de_add (de_str [57,58,32]) (de_var 1)) (de_str [32,49])) (da_nil))))))))
 (ds_cons (ds_set 2 (de_add (de_var 2) (de_lst (da_cons (de_add (de_add (de_str [48,58,32]) (de_var 0)) (de_str [32,49])) (da_cons (de_str [49,58,32,45,32,49]) (da_cons (de_add (de_add (de_str [48,58,32]) (de_var 1)) (de_str [32,49,59,45,32,50])) (da_cons (de_add (de_add (de_str [48,58,32]) (de_var 1)) (de_str [32,49,59,32])) (da_cons (de_str [49,95,48,58,32,97,32,49]) (da_nil)))))))))
 (ds_cons (ds_set 2 (de_add (de_var 2) (de_lst (da_cons (de_add (de_add (de_add (de_add (de_str [48,58,32]) (de_var 1)) (de_str [32,49,59,32])) (de_var 1)) (de_str [32,50])) (da_cons (de_add (de_add (de_str [48,58,32]) (de_var 1)) (de_str [32,50,59,32,45,32,49])) (da_cons (de_add (de_add (de_str [48,58,32]) (de_var 1)) (de_str [32,49,44,50,59,32,45,32,50])) (da_nil)))))))
 (ds_cons (ds_set 2 (de_add (de_var 2) (de_lst (da_cons (de_add (de_add (de_str [48,58,32]) (de_upper (de_var 1))) (de_str [32,49])) (da_cons (de_add (de_add (de_str [48,58,32]) (de_strmul (n:=13) [97] [97,97,97,97,97,97,97,97,97,97,97,97,97])) (de_str [32,49])) (da_cons (de_add (de_add (de_str [48,58,32]) (de_var 1)) (de_str [32,49,32])) (da_cons (de_add (de_add (de_str [48,58,32]) (de_var 1)) (de_str [49])) (da_nil))))))))
 (ds_cons (ds_set 2 (de_add (de_var 2) (de_lst (da_cons (de_add (de_add (de_str [48,58,32]) (de_var 1)) (de_str [32,49,10])) (da_cons (de_add (de_add (de_add (de_add (de_str [49,58,32]) (de_var 1)) (de_str [32,49,10,48,58,32])) (de_var 1)) (de_str [32,49])) (da_cons (de_add (de_add (de_str [48,58,32,45,32,49,10,48,58,32]) (de_var 1)) (de_str [32,50])) (da_nil)))))))
 (ds_cons (ds_set 2 (de_add (de_var 2) (de_lst (da_cons (de_add (de_add (de_str [48,58,32,45,32,49,10,10,49,58,32]) (de_var 1)) (de_str [32,50])) (da_cons (de_str [48,58,32,45,32,49,48,48,48,48,48,48,48,48,48,48,48,48,48,48,48]) (da_cons (de_add (de_add (de_str [49,48,48,48,48,58,32]) (de_var 1)) (de_str [32,49])) (da_nil)))))))
 (ds_one (ds_retV 2)))))))))))))
abbrev s__law_good:Stmt:=topS 33
theorem sc__law_good:FnScope ["cell","other","last","ways"] ["cell","other"] (defScope s__law_good):=⟨rfl,rfl,rfl,by decide +kernel,rfl,by decide +kernel,by decide +kernel⟩
theorem ok__law_good {C:Cn} {ad:Addr} {fd:FuncData} (F:Fun C.K "_law_good" "_law_good" s__law_good ad fd) (hm:C.mg "_law_good" = some (.ref ad)) (hb:Binds C.K fd ["cell","other"] []) (c__law_draw:Cal C "_law_draw" 3 1 d_law_draw):Cal C "_law_good" 2 2 d_law_good :=
 fn_ok F sc__law_good rfl rfl hm hb
 (ds_cons (ds_set 2 (de_add (de_int) (de_call c__law_draw (da_cons (de_var 0) (da_cons (de_int) (da_cons (de_int) (da_nil)))) (hAs:=al_cons (al_cons (al_cons al_nil))))))
 (ds_cons (ds_set 3 (de_lst (da_cons (de_tup (da_nil)) (da_cons (de_tup (da_cons (de_tup (da_cons (de_int) (da_cons (de_tup (da_cons (de_tup (da_cons (de_var 1) (da_cons (de_tup (da_cons (de_var 2) (da_nil))) (da_nil)))) (da_nil))) (da_nil)))) (da_nil))) (da_cons (de_tup (da_cons (de_tup (da_cons (de_int) (da_cons (de_tup (da_cons (de_tup (da_cons (de_non) (da_cons (de_tup (da_cons (de_int) (da_cons (de_int) (da_nil)))) (da_nil)))) (da_cons (de_tup (da_cons (de_var 1) (da_cons (de_tup (da_cons (de_int) (da_nil))) (da_nil)))) (da_nil)))) (da_nil)))) (da_nil))) (da_nil))))))
 (ds_cons (ds_set 3 (de_add (de_var 3) (de_lst (da_cons (de_tup (da_cons (de_tup (da_cons (de_int) (da_cons (de_tup (da_cons (de_tup (da_cons (de_var 1) (da_cons (de_tup (da_cons (de_var 2) (da_nil))) (da_nil)))) (da_nil))) (da_nil)))) (da_nil))) (da_cons (de_tup (da_cons (de_tup (da_cons (de_int) (da_cons (de_tup (da_cons (de_tup (da_cons (de_var 1) (da_cons (de_tup (da_cons (de_int) (da_nil))) (da_nil)))) (da_nil))) (da_nil)))) (da_cons (de_tup (da_cons (de_int) (da_cons (de_tup (da_cons (de_tup (da_cons (de_var 1) (da_cons (de_tup (da_cons (de_int) (da_cons (de_int) (da_cons (de_int) (da_nil))))) (da_nil)))) (da_nil))) (da_nil)))) (da_nil)))) (da_nil))))))
 (ds_one (ds_ret (de_idx (de_var 3) (de_call c__law_draw (da_cons (de_var 0) (da_cons (de_int) (da_cons (de_int) (da_nil)))) (hAs:=al_cons (al_cons (al_cons al_nil))))))))))
abbrev s__law_line_of:Stmt:=topS 34
theorem sc__law_line_of:FnScope ["note","parts","entry","rows","row"] ["note"] (defScope s__law_line_of):=⟨rfl,rfl,rfl,by decide +kernel,rfl,by decide +kernel,by decide +kernel⟩
theorem ok__law_line_of {C:Cn} {ad:Addr} {fd:FuncData} (F:Fun C.K "_law_line_of" "_law_line_of" s__law_line_of ad fd) (hm:C.mg "_law_line_of" = some (.ref ad)) (hb:Binds C.K fd ["note"] []) (z_int:C.mg "int" = none) (z_str:C.mg "str" = none):Cal C "_law_line_of" 1 1 d_law_line_of :=
 fn_ok F sc__law_line_of rfl rfl hm hb
 (ds_cons (ds_setO 1 (de_lst (da_nil)))
 (ds_cons (ds_for [2,3] (di_seq (de_idx (de_var 0) (de_int))) (dg_t (dgs_cons (dg_v 2) (dgs_cons (dg_v 3) (dgs_nil))))
 (ds_one (ds_app 1 (de_add (de_add (de_idx (de_lst (da_cons (de_str [45]) (da_cons (de_var 2) (da_nil)))) (de_int1 (de_c (dc_notN (de_var 2))) z_int)) (de_str [32])) (de_join (de_str [44]) (de_lc (own:=[("row",4)]) (di_seq (de_var 3)) (by decide +kernel) (dg_v 4) (df_nil) (de_strF (de_var 4) z_str)))))))
 (ds_one (ds_ret (de_add (de_add (de_strF (de_idx (de_var 0) (de_int)) z_str) (de_str [58,32])) (de_join (de_str [59,32]) (de_var 1)))))))
abbrev s__law_right:Stmt:=topS 35
theorem sc__law_right:FnScope ["cell","word","other","more","head","entries","way","rows","line","notes","found","note"] ["cell"] (defScope s__law_right):=⟨rfl,rfl,rfl,by decide +kernel,rfl,by decide +kernel,by decide +kernel⟩
theorem ok__law_right {C:Cn} {ad:Addr} {fd:FuncData} (F:Fun C.K "_law_right" "_law_right" s__law_right ad fd) (hm:C.mg "_law_right" = some (.ref ad)) (hb:Binds C.K fd ["cell"] []) (z_int:C.mg "int" = none) (z_len:C.mg "len" = none) (c__law_word_by:Cal C "_law_word_by" 2 2 d_law_word_by) (c__law_draw:Cal C "_law_draw" 3 1 d_law_draw) (c__law_bad_heads:Cal C "_law_bad_heads" 1 1 d_law_bad_heads) (c__law_asked:Cal C "_law_asked" 1 5 d_law_asked_v1) (c__law_bad_lines:Cal C "_law_bad_lines" 2 1 d_law_bad_lines) (c__law_good:Cal C "_law_good" 2 2 d_law_good) (c__law_line_of:Cal C "_law_line_of" 1 1 d_law_line_of) (c__law_same:Cal C "_law_same" 2 9 (d_law_same_v1 8)):Cal C "_law_right" 1 10 d_law_right_v1 :=
 fn_ok F sc__law_right rfl rfl hm hb
 (ds_cons (ds_set 1 (de_call c__law_word_by (da_cons (de_var 0) (da_cons (de_int) (da_nil))) (hAs:=al_cons (al_cons al_nil))))
 (ds_cons (ds_set 2 (de_idx (de_lst (da_cons (de_str [97]) (da_cons (de_str [98]) (da_nil)))) (de_int1 (de_c (dc_eq (de_var 1) (de_str [97]))) z_int)))
 (ds_cons (ds_set 3 (de_idx (de_lst (da_cons (de_str []) (da_cons (de_add (de_str [32,124,32]) (de_var 2)) (da_cons (de_str [32,124,32,45]) (da_cons (de_add (de_add (de_str [32,124,32]) (de_var 1)) (de_str [32,124,32,45])) (da_nil)))))) (de_call c__law_draw (da_cons (de_var 0) (da_cons (de_int) (da_cons (de_int) (da_nil)))) (hAs:=al_cons (al_cons (al_cons al_nil))))))
 (ds_cons (ds_set 4 (de_add (de_add (de_var 1) (de_str [32,124,32,45])) (de_var 3)))
 (ds_cons (ds_set 5 (de_add (de_tup (da_cons (de_var 1) (da_cons (de_non) (da_nil)))) (de_idx (de_lst (da_cons (de_tup (da_nil)) (da_cons (de_tup (da_cons (de_var 2) (da_nil))) (da_cons (de_tup (da_cons (de_non) (da_nil))) (da_cons (de_tup (da_cons (de_var 1) (da_cons (de_non) (da_nil)))) (da_nil)))))) (de_call c__law_draw (da_cons (de_var 0) (da_cons (de_int) (da_cons (de_int) (da_nil)))) (hAs:=al_cons (al_cons (al_cons al_nil)))))))
 (ds_cons (ds_set 6 (de_call c__law_draw (da_cons (de_var 0) (da_cons (de_int) (da_cons (de_int) (da_nil)))) (hAs:=al_cons (al_cons (al_cons al_nil)))))
 (ds_cons (ds_if (dt_c (dc_eq (de_var 6) (de_int)))
 (ds_cons (ds_set 7 (de_call c__law_bad_heads (da_cons (de_var 1) (da_nil)) (hAs:=al_cons al_nil)))
 (ds_one (ds_ret (de_c (dc_eq (de_call c__law_asked (da_cons (de_idx (de_var 7) (de_call c__law_draw (da_cons (de_var 0) (da_cons (de_int) (da_cons (de_len (de_var 7) z_len) (da_nil)))) (hAs:=al_cons (al_cons (al_cons al_nil))))) (da_nil)) (hAs:=al_cons al_nil)) (de_tup (da_cons (de_str [114,101,102,117,115,101,100]) (da_cons (de_non) (da_nil)))))))))
 (ds_nil))
 (ds_cons (ds_if (dt_c (dc_lt (de_var 6) (de_int)))
 (ds_cons (ds_set 7 (de_call c__law_bad_lines (da_cons (de_var 1) (da_cons (de_var 2) (da_nil))) (hAs:=al_cons (al_cons al_nil))))
 (ds_cons (ds_set 8 (de_add (de_add (de_var 4) (de_str [10])) (de_idx (de_var 7) (de_call c__law_draw (da_cons (de_var 0) (da_cons (de_int) (da_cons (de_len (de_var 7) z_len) (da_nil)))) (hAs:=al_cons (al_cons (al_cons al_nil)))))))
 (ds_cons (ds_if (dt_c (dc_eq (de_var 6) (de_int)))
 (ds_one (ds_set 8 (de_add (de_add (de_add (de_var 8) (de_str [10,49,58,32])) (de_var 2)) (de_str [32,53]))))
 (ds_nil))
 (ds_one (ds_ret (de_c (dc_eq (de_call c__law_asked (da_cons (de_var 8) (da_nil)) (hAs:=al_cons al_nil)) (de_tup (da_cons (de_str [114,101,102,117,115,101,100]) (da_cons (de_non) (da_nil)))))))))))
 (ds_nil))
 (ds_cons (ds_set 9 (de_call c__law_good (da_cons (de_var 0) (da_cons (de_var 2) (da_nil))) (hAs:=al_cons (al_cons al_nil))))
 (ds_cons (ds_set 10 (de_call c__law_asked (da_cons (de_join (de_str [10]) (de_add (de_lst (da_cons (de_var 4) (da_nil))) (de_lc (own:=[("note",11)]) (di_seq (de_var 9)) (by decide +kernel) (dg_v 11) (df_nil) (de_call c__law_line_of (da_cons (de_var 11) (da_nil)) (hAs:=al_cons al_nil))))) (da_nil)) (hAs:=al_cons al_nil)))
 (ds_one (ds_ret (de_and (de_c (dc_eq (de_idx (de_var 10) (de_int)) (de_str [116,111,108,100]))) (de_one (de_call c__law_same (da_cons (de_idx (de_var 10) (de_int)) (da_cons (de_tup (da_cons (de_var 5) (da_cons (de_var 9) (da_nil)))) (da_nil))) (hAs:=al_cons (al_cons al_nil)))))))))))))))))
abbrev s_law:Stmt:=topS 36
theorem sc_law:FnScope ["script","cell"] ["script"] (defScope s_law):=⟨rfl,rfl,rfl,by decide +kernel,rfl,by decide +kernel,by decide +kernel⟩
theorem ok_law {C:Cn} {ad:Addr} {fd:FuncData} (F:Fun C.K "law" "law" s_law ad fd) (hm:C.mg "law" = some (.ref ad)) (hb:Binds C.K fd ["script"] []) (c__law_right:Cal C "_law_right" 1 10 d_law_right_v1) (c__law_asked:Cal C "_law_asked" 1 5 d_law_asked_v1) (c_apparatus_read:Cal C "apparatus_read" 1 4 d_apparatus_read) (c__law_same:Cal C "_law_same" 2 9 (d_law_same_v1 8)):FnOk C.P C.w C.K C.mg C.base (L2.CX C.P C.w) 11 ad fd ["script"] (spOf C 1 d_law_v63) :=
 fn_okF F sc_law rfl rfl hm hb
 (ds_cons (ds_for [1] (di_seq (de_add (de_lst (da_cons (de_int) (da_nil))) (de_slice (de_var 0) (do_none) (do_some (de_int))))) (dg_v 1)
 (ds_one (ds_if (dt_not (dt_val (de_call c__law_right (da_cons (de_var 1) (da_nil)) (hAs:=al_cons al_nil))))
 (ds_one (ds_ret (de_bl)))
 (ds_nil))))
 (ds_cons (ds_if (dt_c (dc_ne (de_call c__law_asked (da_cons (de_str [10,48,58,32,97,32,49]) (da_nil)) (hAs:=al_cons al_nil)) (de_tup (da_cons (de_str [114,101,102,117,115,101,100]) (da_cons (de_non) (da_nil))))))
 (ds_one (ds_ret (de_bl)))
 (ds_nil))
 (ds_one (ds_ret (de_call c__law_same (da_cons (de_call c_apparatus_read (da_cons (de_str []) (da_nil)) (hAs:=al_cons al_nil)) (da_cons (de_tup (da_cons (de_tup (da_nil)) (da_cons (de_tup (da_nil)) (da_nil)))) (da_nil))) (hAs:=al_cons (al_cons al_nil)))))))
end VP
end
section
set_option linter.all false
set_option maxHeartbeats 1000000
set_option maxRecDepth 10000
namespace Vm
def tryC{σ:Type}(cs:List (Nat×Bool))(R:Res σ)(H:Nat→Res σ):Res σ:=match R with
 | .exc c=>match takesC cs c with
  | some true=>match H c with
   | .exc _=>.bad
   | r=>r
  | some false=>.exc c
  | none=>.bad
 | r=>r
end Vm
end
section
set_option linter.all false
set_option maxHeartbeats 1000000
set_option maxRecDepth 10000
namespace Vm
@[irreducible] def rng3P (i j c:Int):Res (List Int):=rng3R i j c
end Vm
end
section
set_option linter.all false
set_option maxHeartbeats 1000000
set_option maxRecDepth 10000
namespace Vm
section
variable {α β γ δ ι κ σ τ ρ:Type} {ka:α→PV} {kb:β→PV} {EP:En→Prop} {Γ:En} {e j k:EX} {t u w:Tg}
theorem map_set{l:List (List α)}(n:Nat)(m:List α):(l.map (kL ka)).set n (.lst (m.map ka))=(l.set n m).map (kL ka):=by
 rw [List.map_set]; rfl
end
end Vm
end
section
set_option linter.all false
set_option maxHeartbeats 1000000
set_option maxRecDepth 10000
namespace Vm
inductive Stp where
 | keep | turn (w:List Nat) | lose | add (w:List Nat) | twice | swap | skip (k:Int)
 deriving DecidableEq
def kStp:Stp→PV
 | .keep=>.tup [.str [107,101,101,112]]
 | .turn w=>.tup [.str [116,117,114,110],.str w]
 | .lose=>.tup [.str [108,111,115,101]]
 | .add w=>.tup [.str [97,100,100],.str w]
 | .twice=>.tup [.str [116,119,105,99,101]]
 | .swap=>.tup [.str [115,119,97,112]]
 | .skip k=>.tup [.str [115,107,105,112],.int k]
instance:Enc kStp where
 d:=1
 eq:=fun a b=>by
  rw [Bool.eq_iff_iff]
  cases a <;> cases b <;> simp [kStp,eqv,eqvL]
 sh:=fun n h a=>by
  cases n with
  | zero=>omega
  | succ n=>cases a <;> cases n <;> simp [kStp,shp,shpL]
instance:NN kStp:=⟨fun a h=>by cases a <;> cases h⟩
instance:St kStp:=⟨fun a=>by cases a <;> simp [kStp,stab,stabL]⟩
section
variable {α β γ δ:Type} {Γ:En} {a b:EX} {as:EXs} {t u:Tg} {A:Res Stp}
end
end Vm
end
section
set_option linter.all false
set_option maxHeartbeats 1000000
set_option maxRecDepth 10000
namespace Vm
section
variable {α β:Type} {EP:En→Prop} {Γ:En}
end
end Vm
end
section
set_option linter.all false
set_option maxHeartbeats 1000000
set_option maxRecDepth 10000
namespace Vm
def kD{α β:Type}(ka:α→PV)(kb:β→PV)(l:List (α×β)):PV:=.dic (l.map fun z=>ka z.1) (l.map fun z=>kb z.2)
class KeyN {α:Type} (ka:α→PV):Prop where
 n:∀ m a,keyN m (ka a)=true
class KeyE {α:Type} (ka:α→PV):Prop where
 s:(∀ a,keyL (ka a)=true) ∨ (∀ a,keyT (ka a)=true)
instance:KeyN kI:=⟨fun m a=>by cases m <;> rfl⟩
instance:KeyN kS:=⟨fun m a=>by cases m <;> rfl⟩
instance {α:Type} {ka:α→PV} [KeyN ka]:KeyN (kO ka):=⟨fun m a=>by
 cases a with
 | none=>cases m <;> rfl
 | some a=>exact KeyN.n m a⟩
instance:KeyE kI:=⟨.inl fun a=>rfl⟩
instance:KeyE kS:=⟨.inl fun a=>rfl⟩
instance:KeyE (kO kI):=⟨.inl fun a=>by cases a <;> rfl⟩
instance:KeyE (kO kS):=⟨.inl fun a=>by cases a <;> rfl⟩
instance {α β:Type} {ka:α→PV} {kb:β→PV} [KeyN ka] [KeyN kb]:KeyE (kP2 ka kb):=⟨.inr fun a=>by
 show (keyN 7 (ka a.1) && (keyN 7 (kb a.2) && true))=true
 rw [KeyN.n,KeyN.n]; rfl⟩
theorem keyNL_map{α:Type}{ka:α→PV}[KeyN ka](n:Nat)(l:List α):keyNL n (l.map ka)=true:=by
 induction l with
 | nil=>cases n <;> rfl
 | cons a l ih=>show (keyN n (ka a) && keyNL n (l.map ka))=true; rw [KeyN.n,ih]; rfl
instance {α:Type} {ka:α→PV} [KeyN ka]:KeyE (kT ka):=⟨.inr fun a=>keyNL_map 7 a⟩
theorem sameK_e{α β:Type}{ka:α→PV}[KeyE ka](k:α)(l:List (α×β)):sameK (ka k) (l.map fun z=>ka z.1)=true:=by
 unfold sameK
 rcases KeyE.s (ka:=ka) with h | h
 ·rw [h k,show (l.map fun z=>ka z.1).all keyL=true by rw [List.all_map]; exact List.all_eq_true.mpr fun z _=>h z.1]; rfl
 ·rw [h k,show (l.map fun z=>ka z.1).all keyT=true by rw [List.all_map]; exact List.all_eq_true.mpr fun z _=>h z.1]; simp
section
variable {α β:Type} [DecidableEq α]
def dfind(d:List (α×β))(k:α):Option β:=(d.find? fun z=>decide (z.1=k)).map (·.2)
def dput:List (α×β)→α→β→List (α×β)
 | [],k,v=>[(k,v)]
 | z :: l,k,v=>if z.1=k then (z.1,v) :: l else z :: dput l k v
def dputR(d:List (α×β))(k:α)(v:β):Res (List (α×β)):=if d.length < 16777216 then .ok (dput d k v) else .bad
variable {ka:α→PV} {kb:β→PV} [Enc ka]
theorem dIx_e(k:α):∀ d:List (α×β),((dIx (d.map fun z=>ka z.1) (ka k)).bind fun j=>(d.map fun z=>kb z.2)[j]?)=(dfind d k).map kb∧(dIx (d.map fun z=>ka z.1) (ka k)).isSome=(dfind d k).isSome
 | []=>⟨rfl,rfl⟩
 | z :: d=>by
  obtain ⟨h1,h2⟩:=dIx_e k d
  unfold dfind at h1 h2 ⊢
  simp only [List.map_cons,dIx,Enc.eq]
  by_cases h:z.1=k
  ·rw [List.find?_cons_of_pos (by simpa using h)]
   simp [h]
  ·rw [List.find?_cons_of_neg (by simpa using h)]
   simp only [h,decide_false,Bool.false_eq_true,if_false]
   refine ⟨?_,by rw [← h2]; cases dIx (d.map fun z=>ka z.1) (ka k) <;> rfl⟩
   rw [← h1]
   cases dIx (d.map fun z=>ka z.1) (ka k) <;> simp
theorem dGet_e(k:α)(d:List (α×β)):dGet (d.map fun z=>ka z.1) (d.map fun z=>kb z.2) (ka k)=(dfind d k).map kb:=(dIx_e k d).1
theorem dPut_e(k:α)(v:β):∀ d:List (α×β),dPutK (d.map fun z=>ka z.1) (ka k)=(dput d k v).map (fun z=>ka z.1)∧dPutV (d.map fun z=>ka z.1) (d.map fun z=>kb z.2) (ka k) (kb v)=(dput d k v).map fun z=>kb z.2
 | []=>⟨rfl,rfl⟩
 | z :: d=>by
  obtain ⟨h1,h2⟩:=dPut_e k v d
  unfold dput
  simp only [List.map_cons,dPutK,dPutV,Enc.eq]
  by_cases h:z.1=k
  ·simp [h]
  ·simp [h,h1,h2]
end
section
variable {α β γ:Type} [DecidableEq α] {ka:α→PV} {kb:β→PV} [Enc ka] [KeyE ka] {Γ:En} {a b c:EX} {as:EXs} {t u w:Tg}
theorem rD0(d:Nat):RefG (tv (.ow d) (kD ka kb)) (eDic0 d Γ) (.ok []):=rfl
theorem rDIn{A:Res α}{B:Res (List (α×β))}(ha:RefG (tv t ka) (a Γ) A)(hb:RefG (tv u (kD ka kb)) (b Γ) B):RefG (tv .fz kB) (eOp2 opDIn a b Γ) (A.bind fun k=>B.bind fun d=>.ok (dfind d k).isSome):=ha.bind fun k=>hb.bind fun d=>by
 show RefG _ (((if sameK (ka k) (d.map fun z=>ka z.1) then Res.ok (dIx (d.map fun z=>ka z.1) (ka k)).isSome else .bad).bind fun b=>.ok (.bl b)).bind fzv) _
 rw [if_pos (sameK_e k d),(dIx_e (kb:=kb) k d).2]; rfl
theorem rDGet{A:Res (List (α×β))}{B:Res α}{D:Res β}(ha:RefG (tv t (kD ka kb)) (a Γ) A)(hb:RefG (tv u ka) (b Γ) B)(hc:RefG (tv .fz kb) (c Γ) D)(hf:flat1 t=true:=by rfl):RefG (tv .fz kb) (eDGet a b c Γ) (A.bind fun d=>B.bind fun k=>D.bind fun x=>.ok ((dfind d k).getD x)):=ha.bind fun d=>hb.bind fun k=>hc.bind fun x=>by
 show RefG _ (if flat1 t && sameK (ka k) (d.map fun z=>ka z.1) then (putV (Tg.fz,kb x)).bind fun q=>Res.ok (Tg.fz,(dGet (d.map fun z=>ka z.1) (d.map fun z=>kb z.2) (ka k)).getD q) else .bad) _
 rw [hf,sameK_e k d]
 show Res.ok (Tg.fz,(dGet (d.map fun z=>ka z.1) (d.map fun z=>kb z.2) (ka k)).getD (kb x))=_
 rw [dGet_e k d]
 cases dfind d k <;> rfl
theorem pDPut{EP:En→Prop}{e j:EX}(i:Nat){J:Res α}{E:Res β}{d:List (α×β)}(h:RefG (tv t kb) (e Γ) E)(hj:RefG (tv .fz ka) (j Γ) J)(hE:EP Γ)(hg:Γ.get i=some (.ow 1,kD ka kb d))(hp:∀ p,putV (t,p) = .ok p:=by intro _; rfl):Prim EP (dDPut i j e) Γ (E.bind fun x=>J.bind fun k=>dputR d k x) (fun d=>Γ.set i (some (.ow 1,kD ka kb d))):=by
 refine prim_of (EP:=EP) (d:=dDPut i j e) (F:=fun x=>aft (j Γ) Γ fun y=>aft (putV x) Γ fun p=>aft (fzK y) Γ fun q =>
  if sameK q (d.map fun z=>ka z.1) && decide ((d.map fun z=>ka z.1).length < 16777216) then .nx (Γ.set i (some (.ow 1,.dic (dPutK (d.map fun z=>ka z.1) q) (dPutV (d.map fun z=>ka z.1) (d.map fun z=>kb z.2) q p)))) else .bad) h hE ?_ fun x=>?_
 ·unfold dDPut
  rw [hg]; rfl
 ·cases J with
  | bad=>exact trivial
  | exc c =>
   have hj:j Γ = .exc c:=hj
   rw [hj]; exact ⟨Γ,rfl,hE⟩
  | ok k =>
   have hj:j Γ = .ok (.fz,ka k):=hj
   rw [hj,after_ok,hp,after_ok,bind_ok]
   show RG EP _ (if sameK (ka k) (d.map fun z=>ka z.1) && decide ((d.map fun z=>ka z.1).length < 16777216) then _ else _) _
   rw [sameK_e k d,List.length_map,Bool.true_and]
   unfold dputR
   by_cases hl:d.length < 16777216
   ·rw [if_pos (by simpa using hl),if_pos hl,(dPut_e (kb:=kb) k x d).1,(dPut_e (kb:=kb) k x d).2]
    exact ⟨_,rfl,rfl⟩
   ·rw [if_neg (by simpa using hl),if_neg hl]; exact trivial
end
end Vm
end
section
set_option linter.all false
set_option maxHeartbeats 1000000
set_option maxRecDepth 10000
namespace Vm
end Vm
end
section
set_option linter.all false
set_option maxHeartbeats 1000000
set_option maxRecDepth 10000
namespace Vm
end Vm
end
section
set_option linter.all false
set_option maxHeartbeats 1000000
set_option maxRecDepth 10000
namespace Vm
end Vm
end
section
set_option linter.all false
set_option maxHeartbeats 1000000
set_option maxRecDepth 10000
namespace Vm
section
variable {α β γ σ τ ι:Type} {ka:α→PV} {kb:β→PV} {Γ:En} {a b c j e:EX} {t u w:Tg} {EP:En→Prop} {Post:Out→σ→Prop}
instance kPT_e {ka:α→PV} {kb:β→PV} [KeyN ka] [KeyN kb]:KeyE (kP2 ka (kT kb)):=⟨.inr fun a=>by
 show (keyN 7 (ka a.1) && (keyN 7 (kT kb a.2) && true))=true
 rw [KeyN.n,show keyN 7 (kT kb a.2)=true from keyNL_map 6 a.2]; rfl⟩
instance {α β:Type} {ka:α→PV} {kb:β→PV}:NN (kD ka kb):=⟨fun _ h=>by cases h⟩
end
end Vm
end
section
set_option linter.all false
set_option maxHeartbeats 1000000
set_option maxRecDepth 10000
namespace Vm
section
variable {Γ:En} {a b c d:EX} {t u v w:Tg}
end
end Vm
end
section
set_option linter.all false
set_option maxHeartbeats 1000000
set_option maxRecDepth 10000
namespace Vm
section
variable {α:Type} {ka:α→PV} {Γ:En} {a:EX} {t:Tg}
end
end Vm
end
section
set_option linter.all false
set_option maxHeartbeats 1000000
set_option maxRecDepth 10000
namespace Vm
section
variable {Γ:En} {a:EX} {t:Tg}
end
end Vm
end
section
set_option linter.all false
set_option maxHeartbeats 1000000
set_option maxRecDepth 10000
namespace Vm
section
variable {Γ:En} {a b:EX} {t u:Tg} {α:Type} {ka:α→PV}
end
end Vm
end
section
set_option linter.all false
set_option maxHeartbeats 1000000
namespace Vm
section
variable {α β:Type} {EP:En→Prop} {Post:Out→β→Prop} {x y:ST} {T:TX}
end
end Vm
end
section
set_option linter.all false
set_option maxHeartbeats 1000000
set_option maxRecDepth 10000
namespace Vm
abbrev Hs:=List (List Nat×List (List Nat))×List (List Nat×Option Int)×List Int×Int
section
variable {Γ:En} {α β:Type} {a b:EX} {as:EXs} {t u:Tg}
variable {EP:En→Prop} {σ β:Type} {Post:Out→β→Prop} {f:FX} {js:List (Nat×Tg)} {ps:List PV} {k:PV→En→Out}
end
end Vm
end
section
set_option linter.all false
set_option maxHeartbeats 1000000
set_option maxRecDepth 10000
namespace Vm
section
variable {EP:En→Prop} {β:Type} {Post:Out→β→Prop}
end
section
variable {α β:Type} {EP:En→Prop} {Post:Out→β→Prop} {Γ:En} {e:EX} {t:Tg} {ka:α→PV} {rest:ST} {r:Res β}
end
section
variable {α β σ τ:Type} {EP:En→Prop} {Post:Out→β→Prop} {Γ:En} {a e:EX} {as:EXs} {t:Tg} {f:FX} {js:List (Nat×Tg)} {ps:List PV} {u:σ→En}
variable {T:TM} {D:Res (Bool×σ)} {x y rest:ST} {R1 R2:σ→Res β}
end
end Vm
end
section
set_option linter.all false
set_option maxHeartbeats 1000000
set_option maxRecDepth 10000
namespace Vm
def decStp:PV→Option Stp
 | .tup [.str [107,101,101,112]]=>some .keep
 | .tup [.str [108,111,115,101]]=>some .lose
 | .tup [.str [116,119,105,99,101]]=>some .twice
 | .tup [.str [115,119,97,112]]=>some .swap
 | .tup [.str [116,117,114,110],.str w]=>some (.turn w)
 | .tup [.str [97,100,100],.str w]=>some (.add w)
 | .tup [.str [115,107,105,112],.int k]=>some (.skip k)
 | _=>none
@[simp] theorem decStp_k (s:Stp):decStp (kStp s)=some s:=by cases s <;> rfl
end Vm
end
section
set_option linter.all false
set_option maxHeartbeats 1000000
set_option maxRecDepth 10000
namespace Vm
def capR{α:Type}(n:Nat)(r:Res (List α)):Res (List α):=if n≤16777216 then r.bind szR else .bad
section
variable {α ι:Type} {ka:α→PV} {t:Tg} {Γ:En}
theorem rLCX{it:IX}{X:Res (List ι)}{ki:ι→TV}{fl:Bool}{own:List Nat}{pat:Pat}{c:TX}{e:EX}{C:ι→Res Bool}{E:ι→Res α}(hi:RefG (itv fl ki) (it Γ) X)
  (hb:∀ x,∃ Γ',bindP (wipeE Γ own) (ki x) pat = .ok Γ'∧RefG id (c Γ') (C x)∧RefG (tv t ka) (e Γ') (E x))(hp:∀ p,putV (t,p) = .ok p:=by intro _; rfl) :
  RefG (tv (.ow 1) (kL ka)) (eLCX own it pat c e Γ) (X.bind fun xs=>capR xs.length (lcR C E xs)):=by
 refine hi.bind fun xs=>?_
 unfold capR
 have hl:((itv fl ki xs).2).length=xs.length:=by simp [itv]
 rw [hl]
 by_cases h0:xs.length≤16777216
 ·rw [if_pos h0,if_pos h0]
  refine (lcGo_R (fun x=>hp _) hb xs).bind fun l=>?_
  unfold szR
  by_cases h:l.length≤16777216
  ·rw [if_pos h,if_pos (by simpa using h)]; rfl
  ·rw [if_neg h]; exact trivial
 ·rw [if_neg h0,if_neg h0]; exact trivial
theorem rLMX{it:IX}{X:Res (List ι)}{ki:ι→TV}{fl:Bool}{own:List Nat}{pat:Pat}{e:EX}{E:ι→Res α}(hi:RefG (itv fl ki) (it Γ) X)
  (hb:∀ x,∃ Γ',bindP (wipeE Γ own) (ki x) pat = .ok Γ'∧RefG (tv t ka) (e Γ') (E x))(hp:∀ p,putV (t,p) = .ok p:=by intro _; rfl) :
  RefG (tv (.ow 1) (kL ka)) (eLCX own it pat xYes e Γ) (X.bind fun xs=>capR xs.length (mapR E xs)):=by
 have:=rLCX (C:=fun _=>.ok true) (E:=E) (c:=xYes) hi (fun x=>by
  obtain ⟨Γ',h1,h2⟩:=hb x
  exact ⟨Γ',h1,rfl,h2⟩) hp
 have e2:(fun xs=>capR xs.length (lcR (fun _=>.ok true) E xs))=fun xs=>capR xs.length (mapR E xs):=funext fun xs=>by rw [lcR_map fun _=>rfl]
 rw [e2] at this
 exact this
end
end Vm
end
section
set_option linter.all false
set_option maxHeartbeats 1000000
set_option maxRecDepth 10000
namespace Vm
section
variable {α β σ τ:Type} {EP:En→Prop} {Post:Out→β→Prop} {Γ:En} {a e:EX} {as:EXs} {t:Tg} {f:FX} {js:List (Nat×Tg)} {ps:List PV} {u:σ→En}
end
end Vm
end
section
set_option linter.all false
set_option maxHeartbeats 1000000
set_option maxRecDepth 10000
namespace Vm
section
variable {α β:Type} [DecidableEq α] {ka:α→PV} {kb:β→PV} [Enc ka] [KeyE ka] {Γ:En} {a b j e j1 j2:EX} {t u w:Tg} {EP:En→Prop}
end
end Vm
end
section
set_option linter.all false
set_option maxHeartbeats 1000000
set_option maxRecDepth 10000
namespace Vm
theorem gTryT{σ:Type}{EP:En→Prop}{Γ:En}{i:Nat}{b:ST}{h:ST}{P:σ→En→Prop}{R:Res σ}{H:Nat→Res σ}{cs:List (Nat×Bool)}(hb:RG (fun Γ'=>Γ'=Γ) (NxP P) (b Γ) R)(hh:∀ c,RG (fun _=>True) (NxP fun s Γ'=>P s (Γ'.set i none)) (h (Γ.set i (some (.fz,.exo (c+2) [])))) (H c))(hE:EP Γ)(hl:Nat.ble (i+1) Γ.length=true:=by rfl):RG EP (NxP P) (dTryT cs i b h Γ) (tryC cs R H):=by
 cases R with
 | ok s =>
  obtain ⟨Γ',e,p⟩:=hb
  show NxP P (dTryT cs i b h Γ) s
  unfold dTryT
  rw [e]
  exact ⟨Γ',rfl,p⟩
 | exc c =>
  obtain ⟨Γ',e,e2⟩:=hb
  subst e2
  unfold dTryT tryC
  simp only [e,hl,if_true]
  cases takesC cs c with
  | none=>exact trivial
  | some t =>
   cases t with
   | false=>exact ⟨_,rfl,hE⟩
   | true =>
    have hc:=hh c
    simp only
    cases eH:H c with
    | ok s =>
     rw [eH] at hc
     obtain ⟨Γ2,e2,p2⟩:=hc
     simp only [e2]
     exact ⟨_,rfl,p2⟩
    | exc c2=>exact trivial
    | bad=>exact trivial
 | bad=>exact trivial
section
variable {Γ:En} {a:EX} {A:Res PV}
def isEB(tab:List (Nat×Bool))(p:PV):Res Bool:=match p with
 | .exo (c+2) _=>match takesC tab c with
  | some b=>.ok b
  | none=>.bad
 | _=>.bad
def isEsB(tabs:List (List (Nat×Bool)))(p:PV):Res Bool:=match p with
 | .exo (c+2) _=>if tabs.all fun t=>(takesC t c).isSome then .ok (isCs tabs c) else .bad
 | _=>.bad
theorem rIsE{tab:List (Nat×Bool)}(ha:RefG (tv .fz kV) (a Γ) A):RefG (tv .fz kB) (eIsE tab a Γ) (A.bind fun x=>isEB tab x):=ha.bind fun x=>by
 show RefG _ (isEV tab (.fz,x)) _
 unfold isEV isEB
 split
 ·rename_i c l e
  cases e
  simp only
  cases takesC tab c <;> first | rfl | trivial
 ·rename_i h
  split
  ·rename_i c l
   exact absurd rfl (h c l)
  ·trivial
theorem rIsEs{tabs:List (List (Nat×Bool))}(ha:RefG (tv .fz kV) (a Γ) A):RefG (tv .fz kB) (eIsEs tabs a Γ) (A.bind fun x=>isEsB tabs x):=ha.bind fun x=>by
 show RefG _ (isEsV tabs (.fz,x)) _
 unfold isEsV isEsB
 split
 ·rename_i c l e
  cases e
  simp only
  split <;> first | rfl | trivial
 ·rename_i h
  split
  ·rename_i c l
   exact absurd rfl (h c l)
  ·trivial
def upR(x:List Nat):Res (List Nat):=if x=[97] then .ok [65] else if x=[98] then .ok [66] else .bad
theorem rUpper{B:Res (List Nat)}{t:Tg}(ha:RefG (tv t kS) (a Γ) B):RefG (tv .fz kS) (eUpper a Γ) (B.bind upR):=ha.bind fun x=>by
 unfold upR
 by_cases h:x=[97]
 ·subst h; rfl
 ·rw [if_neg h]
  by_cases h2:x=[98]
  ·subst h2; rfl
  ·rw [if_neg h2]; exact trivial
end
end Vm
end
section
set_option Elab.async false
set_option linter.all false
set_option maxRecDepth 100000
set_option maxHeartbeats 4000000
set_option synthInstance.maxSize 2000
set_option synthInstance.maxHeartbeats 400000
namespace Vm
def f_look_rows(v_rows:List (Int))(v_many:Int)(v_taken:List ((Int)×(Option (List Nat)))):Res (Unit) :=
 if decide ((v_rows.length:Int)=(0:Int)) then (Res.exc 4) else (let s1:Int:=(0:Int); (forS (fun (s2:((Int))) (x3:Int)=>(if decide (x3≤s2) then Res.ok true else if decide (v_many≤x3) then Res.ok true else Res.ok ((dfind v_taken x3).isSome)).bind fun b5=>if b5 then (Res.exc 4) else (let s4:Int:=x3; Res.ok s4)) v_rows s1).bind fun (s6:((Int)))=>Res.ok ())
def f_look_readings(v_base:Option (List Nat))(v_readings:List (((Option (List Nat))×List (Int))))(v_many:Int):Res (List ((Int)×(Option (List Nat)))) :=
 if decide ((v_readings.length:Int)=(0:Int)) then (Res.exc 4) else (let s1:List ((Int)×(Option (List Nat))):=([]:List ((Int)×(Option (List Nat)))); let s2:List (Option (List Nat)):=([]:List (Option (List Nat))); let s3:Int:=(0:Int); (forS (fun (s4:((List ((Int)×(Option (List Nat))))×(List (Option (List Nat)))×(Int))) (x5:((Option (List Nat))×List (Int)))=>(if decide (x5.1=v_base) then Res.ok true else Res.ok (memB x5.1 s4.2.1)).bind fun b18=>if b18 then (Res.exc 4) else (((f_look_rows x5.2 v_many s4.1).bind fun _=>Res.ok ()).bind fun (s9:Unit)=>((ixR x5.2 ((0:Int))).bind fun x10=>Res.ok (decide (x10≤s4.2.2))).bind fun b17=>if b17 then (Res.exc 4) else ((ixR x5.2 ((0:Int))).bind fun (s11:Int)=>(appR s4.2.1 x5.1).bind fun (s12:List (Option (List Nat)))=>(forS (fun (s13:((List ((Int)×(Option (List Nat)))))) (x14:Int)=>(dputR s13 x14 x5.1).bind fun (s15:List ((Int)×(Option (List Nat))))=>Res.ok s15) x5.2 s4.1).bind fun (s16:((List ((Int)×(Option (List Nat))))))=>Res.ok ((s16,s12,s11))))) v_readings ((s1,s2,s3))).bind fun (s19:((List ((Int)×(Option (List Nat))))×(List (Option (List Nat)))×(Int)))=>Res.ok s19.1)
def f_column_back(v_base:Option (List Nat))(v_many:Int)(v_taken:List ((Int)×(Option (List Nat)))):Res (List (Option (List Nat))) :=
 ((rngR v_many).bind fun x4=>(noExc (mapR (fun (z3:Int)=>Res.ok ((dfind v_taken z3).getD v_base)) x4)).bind szR).bind fun x6=>Res.ok (x6)
def f_collation_back(v_entries:List (Option (List Nat)))(v_many:Int)(v_notes:List (((Int)×List (((Option (List Nat))×List (Int)))))):Res (List (List (Option (List Nat)))) :=
 ((noExc (mapR (fun (z1:Option (List Nat))=>f_column_back z1 v_many (([]:List ((Int)×(Option (List Nat)))))) v_entries)).bind szR).bind fun (s5:List (List (Option (List Nat))))=>let s6:Int:=-((1:Int)); (forS (fun (s7:((List (List (Option (List Nat))))×(Int))) (x8:((Int)×List (((Option (List Nat))×List (Int)))))=>(if decide (x8.1≤s7.2) then Res.ok true else Res.ok (decide ((v_entries.length:Int)≤x8.1))).bind fun b38=>if b38 then (Res.exc 4) else (let s9:Int:=x8.1; (((ixR v_entries x8.1).bind fun x34=>((ixR v_entries x8.1).bind fun x30=>f_look_readings x30 x8.2 v_many).bind fun x35=>f_column_back x34 v_many x35).bind fun x36=>setR s7.1 x8.1 x36).bind fun (s37:List (List (Option (List Nat))))=>Res.ok ((s37,s9)))) v_notes ((s5,s6))).bind fun (s39:((List (List (Option (List Nat))))×(Int)))=>Res.ok (s39.1)
def f_entry_read(v_text:List Nat):Res (Option (List Nat)) :=
 if decide (v_text=([45]:List Nat)) then (Res.ok (none)) else ((if decide ((v_text.length:Int) < (1:Int)) then Res.ok true else Res.ok (decide ((12:Int) < (v_text.length:Int)))).bind fun b6=>if b6 then (Res.exc 4) else ((forS (fun (s2:Unit) (x3:List Nat)=>((signIn x3 (([97,98,99,100,101,102,103,104,105,106,107,108,109,110,111,112,113,114,115,116,117,118,119,120,121,122]:List Nat))).bind fun z=>Res.ok (!z)).bind fun b4=>if b4 then (Res.exc 4) else (Res.ok (()))) (signs v_text) (())).bind fun (s5:Unit)=>Res.ok (some v_text)))
def f_number_read(v_text:List Nat):Res (Int) :=
 (if decide ((v_text.length:Int) < (1:Int)) then Res.ok true else if decide ((4:Int) < (v_text.length:Int)) then Res.ok true else if decide ((1:Int) < (v_text.length:Int)) then ((ixR v_text ((0:Int))).bind fun z=>Res.ok [z]).bind fun x1=>Res.ok (decide (x1=([48]:List Nat))) else Res.ok false).bind fun b8=>if b8 then (Res.exc 4) else ((forS (fun (s2:Unit) (x3:List Nat)=>((signIn x3 (([48,49,50,51,52,53,54,55,56,57]:List Nat))).bind fun z=>Res.ok (!z)).bind fun b4=>if b4 then (Res.exc 4) else (Res.ok (()))) (signs v_text) (())).bind fun (s5:Unit)=>(intTR v_text).bind fun x7=>Res.ok (x7))
def f_two_parts(v_text:List Nat)(v_mark:List Nat):Res (((List Nat)×List Nat)) :=
 (partR v_text v_mark).bind fun (s1:((List Nat)×(List Nat)×List Nat))=>if decide (s1.2.1=([]:List Nat)) then (Res.exc 4) else (Res.ok ((((s1.1,s1.2.2):((List Nat)×List Nat)))))
def f_reading_read(v_text:List Nat):Res (((Option (List Nat))×List (Int))) :=
 (f_two_parts v_text (([32]:List Nat))).bind fun (s3:((List Nat)×List Nat))=>((f_entry_read s3.1).bind fun x18=>((splitR s3.2 (([44]:List Nat))).bind fun x15=>capR x15.length (mapR (fun (z13:List Nat)=>f_number_read z13) x15)).bind fun x19=>Res.ok (((x18,x19):((Option (List Nat))×List (Int))))).bind fun x21=>Res.ok (x21)
def f_note_read(v_line:List Nat):Res (((Int)×List (((Option (List Nat))×List (Int))))) :=
 (f_two_parts v_line (([58,32]:List Nat))).bind fun (s3:((List Nat)×List Nat))=>((f_number_read s3.1).bind fun x18=>((splitR s3.2 (([59,32]:List Nat))).bind fun x15=>capR x15.length (mapR (fun (z13:List Nat)=>f_reading_read z13) x15)).bind fun x19=>Res.ok (((x18,x19):((Int)×List (((Option (List Nat))×List (Int))))))).bind fun x21=>Res.ok (x21)
def f_apparatus_read(v_text:List Nat):Res (((List (Option (List Nat)))×List (((Int)×List (((Option (List Nat))×List (Int))))))) :=
 (splitR v_text (([10]:List Nat))).bind fun (s1:List (List Nat))=>let s2:List (Option (List Nat)):=([]:List (Option (List Nat))); (((ixR s1 ((0:Int))).bind fun x3=>Res.ok (!decide (x3=([]:List Nat)))).bind fun b28=>if b28 then ((((ixR s1 ((0:Int))).bind fun x11=>splitR x11 (([32,124,32]:List Nat))).bind fun x14=>capR x14.length (mapR (fun (z12:List Nat)=>f_entry_read z12) x14)).bind fun (s15:List (Option (List Nat)))=>Res.ok s15) else (Res.ok s2)).bind fun s9=>(capR (cutL s1 (some ((1:Int))) none).length (mapR (fun (z16:List Nat)=>f_note_read z16) (cutL s1 (some ((1:Int))) none))).bind fun (s18:List (((Int)×List (((Option (List Nat))×List (Int))))))=>((f_collation_back s9 ((30:Int)) s18).bind fun _=>Res.ok ()).bind fun (s22:Unit)=>Res.ok ((((s9,s18):((List (Option (List Nat)))×List (((Int)×List (((Option (List Nat))×List (Int)))))))))
def f_law_draw(v_cell:Int)(v_k:Int)(v_many:Int):Res (Int) :=
 let s1:Int:=(170141183460469231731687303715884105727:Int); ((((mulR v_cell ((2:Int))).bind fun x2=>Res.ok (x2+((1:Int)))).bind fun x5=>(((mulR v_k v_k).bind fun x3=>mulR x3 ((9176023:Int))).bind fun x4=>Res.ok (x4+((84127918273645463728191:Int)))).bind fun x6=>mulR x5 x6).bind fun x7=>modR x7 s1).bind fun (s8:Int)=>((((mulR s8 (s8+((5:Int)))).bind fun x12=>modR x12 s1).bind fun x13=>Res.ok (x13 / (7:Int))).bind fun x14=>modR x14 v_many).bind fun x16=>Res.ok (x16)
noncomputable def f_law_same_v1(n:Nat)(v_found:PV)(v_due:PV):Res (Bool):=asB (d_law_same_v1 n [kV v_found,kV v_due])
def f_law_word_by(v_cell:Int)(v_k:Int):Res (List Nat) :=
 let s1:List Nat:=([]:List Nat); ((((((mulR ((10:Int)) v_k).bind fun x8=>Res.ok (x8+((1:Int)))).bind fun x12=>f_law_draw v_cell x12 ((4:Int))).bind fun x13=>ixR (([(1:Int),(2:Int),(3:Int),(12:Int)]:List (Int))) x13).bind fun x14=>rngR x14).bind fun x27=>forS (fun (s2:((List Nat))) (x15:Int)=>((((((mulR ((20:Int)) v_k).bind fun x18=>Res.ok (((300:Int))+x18)).bind fun x19=>Res.ok (x19+x15)).bind fun x23=>f_law_draw v_cell x23 ((26:Int))).bind fun x24=>(ixR (([97,98,99,100,101,102,103,104,105,106,107,108,109,110,111,112,113,114,115,116,117,118,119,120,121,122]:List Nat)) x24).bind fun z=>Res.ok [z]).bind fun x25=>catR s2 x25).bind fun (s26:List Nat)=>Res.ok s26) x27 s1).bind fun (s28:((List Nat)))=>Res.ok s28
def f_law_asked_v1(v_line:List Nat):Res (((List Nat)×Option (((List (Option (List Nat)))×List (((Int)×List (((Option (List Nat))×List (Int))))))))) :=
 let s1:PV:=kN (()); let s2:Option (((List (Option (List Nat)))×List (((Int)×List (((Option (List Nat))×List (Int))))))):=none; (tryC [(4,true)] (((f_apparatus_read v_line).bind fun x12=>Res.ok (some x12)).bind fun (s13:Option (((List (Option (List Nat)))×List (((Int)×List (((Option (List Nat))×List (Int))))))))=>Res.ok ((s1,s13))) (fun (ce:Nat)=>(let s14:PV:=(PV.exo (ce+2) []); Res.ok ((s14,s2))))).bind fun s8=>(((opIsN ((tv .fz kV) s8.1).2).bind fzv).bind fun x15=>tvB x15).bind fun b45=>if b45 then (Res.ok ((((([116,111,108,100]:List Nat),s8.2):((List Nat)×Option (((List (Option (List Nat)))×List (((Int)×List (((Option (List Nat))×List (Int)))))))))))) else ((isEsB [[(4,false)],[(4,false)],[(4,false)],[(4,false)],[(4,false)],[(4,false)],[(4,false)]] s8.1).bind fun b44=>if b44 then (Res.ok ((((([97,110,111,116,104,101,114]:List Nat),none):((List Nat)×Option (((List (Option (List Nat)))×List (((Int)×List (((Option (List Nat))×List (Int)))))))))))) else ((((((isEB [(4,true)] s8.1).bind fun x36=>if x36 then isEB [(4,true)] s8.1 else Res.ok false).bind fun x37=>Res.ok (if x37 then 1 else 0)).bind fun x38=>ixR (([([111,100,100]:List Nat),([114,101,102,117,115,101,100]:List Nat)]:List (List Nat))) x38).bind fun x41=>Res.ok (((x41,none):((List Nat)×Option (((List (Option (List Nat)))×List (((Int)×List (((Option (List Nat))×List (Int))))))))))).bind fun x43=>Res.ok (x43)))
def f_law_bad_heads(v_word:List Nat):Res (List (List Nat)) :=
 ((catR v_word (([65]:List Nat))).bind fun x13=>(catR v_word (([32,124]:List Nat))).bind fun x14=>(catR (([124,32]:List Nat)) v_word).bind fun x15=>((catR v_word (([124]:List Nat))).bind fun x3=>catR x3 v_word).bind fun x16=>((catR v_word (([32,124,32,124,32]:List Nat))).bind fun x4=>catR x4 v_word).bind fun x17=>Res.ok (([([32]:List Nat),([65]:List Nat),x13,([45,45]:List Nat),x14,x15,x16,x17]:List (List Nat)))).bind fun (s18:List (List Nat))=>((((catR v_word (([32,124,32,32]:List Nat))).bind fun x35=>catR x35 v_word).bind fun x43=>((catR v_word (([32,32,124,32]:List Nat))).bind fun x36=>catR x36 v_word).bind fun x44=>(catR (([32]:List Nat)) v_word).bind fun x45=>(catR v_word (([32]:List Nat))).bind fun x46=>((catR v_word (([32]:List Nat))).bind fun x37=>catR x37 v_word).bind fun x47=>Res.ok (([x43,x44,x45,x46,x47]:List (List Nat)))).bind fun x48=>catR s18 x48).bind fun (s49:List (List Nat))=>(((catR v_word (([32,124,32]:List Nat))).bind fun x70=>(catR v_word (([10]:List Nat))).bind fun x71=>(catR v_word (([49]:List Nat))).bind fun x72=>(catR v_word (([32,124,32,45,49]:List Nat))).bind fun x73=>Res.ok (([x70,x71,([10]:List Nat),([97,97,97,97,97,97,97,97,97,97,97,97,97]:List Nat),([97,98,99,100,101,102,103,104,105,106,107,108,109,32,124,32,97]:List Nat),x72,([48]:List Nat),x73]:List (List Nat)))).bind fun x74=>catR s49 x74).bind fun (s75:List (List Nat))=>Res.ok s75
def f_law_bad_lines(v_word:List Nat)(v_other:List Nat):Res (List (List Nat)) :=
 (((catR (([48,58]:List Nat)) v_other).bind fun x4=>catR x4 (([32,49]:List Nat))).bind fun x15=>((catR (([48,32,58,32]:List Nat)) v_other).bind fun x5=>catR x5 (([32,49]:List Nat))).bind fun x16=>(catR (([48,58,32]:List Nat)) v_other).bind fun x17=>((catR (([48,58,32]:List Nat)) v_other).bind fun x6=>catR x6 (([32]:List Nat))).bind fun x18=>Res.ok (([([]:List Nat),([48]:List Nat),([48,58]:List Nat),([48,58,32]:List Nat),x15,x16,x17,x18]:List (List Nat)))).bind fun (s19:List (List Nat))=>((((catR (([48,58,32]:List Nat)) v_other).bind fun x36=>catR x36 (([32,49,44]:List Nat))).bind fun x44=>((catR (([48,58,32]:List Nat)) v_other).bind fun x37=>catR x37 (([32,44,49]:List Nat))).bind fun x45=>((catR (([48,58,32]:List Nat)) v_other).bind fun x38=>catR x38 (([32,49,44,44,50]:List Nat))).bind fun x46=>((catR (([48,58,32]:List Nat)) v_other).bind fun x39=>catR x39 (([32,49,44,32,50]:List Nat))).bind fun x47=>Res.ok (([x44,x45,x46,x47]:List (List Nat)))).bind fun x48=>catR s19 x48).bind fun (s49:List (List Nat))=>((((catR (([48,58,32]:List Nat)) v_other).bind fun x66=>catR x66 (([32,48]:List Nat))).bind fun x74=>((catR (([48,58,32]:List Nat)) v_other).bind fun x67=>catR x67 (([32,51,48]:List Nat))).bind fun x75=>((catR (([48,58,32]:List Nat)) v_other).bind fun x68=>catR x68 (([32,48,49]:List Nat))).bind fun x76=>((catR (([48,58,32]:List Nat)) v_other).bind fun x69=>catR x69 (([32,43,49]:List Nat))).bind fun x77=>Res.ok (([x74,x75,x76,x77]:List (List Nat)))).bind fun x78=>catR s49 x78).bind fun (s79:List (List Nat))=>((((catR (([48,58,32]:List Nat)) v_other).bind fun x96=>catR x96 (([32,45,49]:List Nat))).bind fun x104=>((catR (([48,58,32]:List Nat)) v_other).bind fun x97=>catR x97 (([32,49,95,48]:List Nat))).bind fun x105=>((catR (([48,58,32]:List Nat)) v_other).bind fun x98=>catR x98 (([32,120]:List Nat))).bind fun x106=>((catR (([48,58,32]:List Nat)) v_other).bind fun x99=>catR x99 (([32,50,44,49]:List Nat))).bind fun x107=>Res.ok (([x104,x105,x106,x107]:List (List Nat)))).bind fun x108=>catR s79 x108).bind fun (s109:List (List Nat))=>((((catR (([48,58,32]:List Nat)) v_other).bind fun x126=>catR x126 (([32,49,44,49]:List Nat))).bind fun x134=>((catR (([48,58,32,32]:List Nat)) v_other).bind fun x127=>catR x127 (([32,49]:List Nat))).bind fun x135=>((catR (([48,58,32]:List Nat)) v_other).bind fun x128=>catR x128 (([32,32,49]:List Nat))).bind fun x136=>((catR (([32,48,58,32]:List Nat)) v_other).bind fun x129=>catR x129 (([32,49]:List Nat))).bind fun x137=>Res.ok (([x134,x135,x136,x137]:List (List Nat)))).bind fun x138=>catR s109 x138).bind fun (s139:List (List Nat))=>((((catR (([48,48,58,32]:List Nat)) v_other).bind fun x156=>catR x156 (([32,49]:List Nat))).bind fun x164=>((catR (([43,48,58,32]:List Nat)) v_other).bind fun x157=>catR x157 (([32,49]:List Nat))).bind fun x165=>((catR (([45,49,58,32]:List Nat)) v_other).bind fun x158=>catR x158 (([32,49]:List Nat))).bind fun x166=>((catR (([57,58,32]:List Nat)) v_other).bind fun x159=>catR x159 (([32,49]:List Nat))).bind fun x167=>Res.ok (([x164,x165,x166,x167]:List (List Nat)))).bind fun x168=>catR s139 x168).bind fun (s169:List (List Nat))=>((((catR (([48,58,32]:List Nat)) v_word).bind fun x184=>catR x184 (([32,49]:List Nat))).bind fun x192=>((catR (([48,58,32]:List Nat)) v_other).bind fun x185=>catR x185 (([32,49,59,45,32,50]:List Nat))).bind fun x193=>((catR (([48,58,32]:List Nat)) v_other).bind fun x186=>catR x186 (([32,49,59,32]:List Nat))).bind fun x194=>Res.ok (([x192,([49,58,32,45,32,49]:List Nat),x193,x194,([49,95,48,58,32,97,32,49]:List Nat)]:List (List Nat)))).bind fun x195=>catR s169 x195).bind fun (s196:List (List Nat))=>((((((catR (([48,58,32]:List Nat)) v_other).bind fun x213=>catR x213 (([32,49,59,32]:List Nat))).bind fun x214=>catR x214 v_other).bind fun x215=>catR x215 (([32,50]:List Nat))).bind fun x221=>((catR (([48,58,32]:List Nat)) v_other).bind fun x216=>catR x216 (([32,50,59,32,45,32,49]:List Nat))).bind fun x222=>((catR (([48,58,32]:List Nat)) v_other).bind fun x217=>catR x217 (([32,49,44,50,59,32,45,32,50]:List Nat))).bind fun x223=>Res.ok (([x221,x222,x223]:List (List Nat)))).bind fun x224=>catR s196 x224).bind fun (s225:List (List Nat))=>(((((upR v_other).bind fun x244=>catR (([48,58,32]:List Nat)) x244).bind fun x245=>catR x245 (([32,49]:List Nat))).bind fun x253=>((catR (([48,58,32]:List Nat)) (([97,97,97,97,97,97,97,97,97,97,97,97,97]:List Nat))).bind fun x246=>catR x246 (([32,49]:List Nat))).bind fun x254=>((catR (([48,58,32]:List Nat)) v_other).bind fun x247=>catR x247 (([32,49,32]:List Nat))).bind fun x255=>((catR (([48,58,32]:List Nat)) v_other).bind fun x248=>catR x248 (([49]:List Nat))).bind fun x256=>Res.ok (([x253,x254,x255,x256]:List (List Nat)))).bind fun x257=>catR s225 x257).bind fun (s258:List (List Nat))=>((((catR (([48,58,32]:List Nat)) v_other).bind fun x275=>catR x275 (([32,49,10]:List Nat))).bind fun x283=>((((catR (([49,58,32]:List Nat)) v_other).bind fun x276=>catR x276 (([32,49,10,48,58,32]:List Nat))).bind fun x277=>catR x277 v_other).bind fun x278=>catR x278 (([32,49]:List Nat))).bind fun x284=>((catR (([48,58,32,45,32,49,10,48,58,32]:List Nat)) v_other).bind fun x279=>catR x279 (([32,50]:List Nat))).bind fun x285=>Res.ok (([x283,x284,x285]:List (List Nat)))).bind fun x286=>catR s258 x286).bind fun (s287:List (List Nat))=>((((catR (([48,58,32,45,32,49,10,10,49,58,32]:List Nat)) v_other).bind fun x297=>catR x297 (([32,50]:List Nat))).bind fun x302=>((catR (([49,48,48,48,48,58,32]:List Nat)) v_other).bind fun x298=>catR x298 (([32,49]:List Nat))).bind fun x303=>Res.ok (([x302,([48,58,32,45,32,49,48,48,48,48,48,48,48,48,48,48,48,48,48,48,48]:List Nat),x303]:List (List Nat)))).bind fun x304=>catR s287 x304).bind fun (s305:List (List Nat))=>Res.ok s305
def f_law_good(v_cell:Int)(v_other:List Nat):Res (List (((Int)×List (((Option (List Nat))×List (Int)))))) :=
 ((f_law_draw v_cell ((84:Int)) ((29:Int))).bind fun x4=>Res.ok (((1:Int))+x4)).bind fun (s5:Int)=>let s47:List (List (((Int)×List (((Option (List Nat))×List (Int)))))):=([([]:List (((Int)×List (((Option (List Nat))×List (Int)))))),([(((0:Int),([((some v_other,([s5]:List (Int))):((Option (List Nat))×List (Int)))]:List (((Option (List Nat))×List (Int))))):((Int)×List (((Option (List Nat))×List (Int)))))]:List (((Int)×List (((Option (List Nat))×List (Int)))))),([(((0:Int),([((none,([(1:Int),(29:Int)]:List (Int))):((Option (List Nat))×List (Int))),((some v_other,([(2:Int)]:List (Int))):((Option (List Nat))×List (Int)))]:List (((Option (List Nat))×List (Int))))):((Int)×List (((Option (List Nat))×List (Int)))))]:List (((Int)×List (((Option (List Nat))×List (Int))))))]:List (List (((Int)×List (((Option (List Nat))×List (Int))))))); (catR s47 (([([(((1:Int),([((some v_other,([s5]:List (Int))):((Option (List Nat))×List (Int)))]:List (((Option (List Nat))×List (Int))))):((Int)×List (((Option (List Nat))×List (Int)))))]:List (((Int)×List (((Option (List Nat))×List (Int)))))),([(((0:Int),([((some v_other,([(29:Int)]:List (Int))):((Option (List Nat))×List (Int)))]:List (((Option (List Nat))×List (Int))))):((Int)×List (((Option (List Nat))×List (Int))))),(((1:Int),([((some v_other,([(1:Int),(2:Int),(3:Int)]:List (Int))):((Option (List Nat))×List (Int)))]:List (((Option (List Nat))×List (Int))))):((Int)×List (((Option (List Nat))×List (Int)))))]:List (((Int)×List (((Option (List Nat))×List (Int))))))]:List (List (((Int)×List (((Option (List Nat))×List (Int))))))))).bind fun (s121:List (List (((Int)×List (((Option (List Nat))×List (Int)))))))=>((f_law_draw v_cell ((85:Int)) ((5:Int))).bind fun x129=>ixR s121 x129).bind fun x131=>Res.ok (x131)
def f_law_line_of(v_note:((Int)×List (((Option (List Nat))×List (Int))))):Res (List Nat) :=
 let s1:List (List Nat):=([]:List (List Nat)); (forS (fun (s2:((List (List Nat)))) (x3:((Option (List Nat))×List (Int)))=>(((((ixR (([some (([45]:List Nat)),x3.1]:List (Option (List Nat)))) (if x3.1.isSome then 1 else 0)).bind fun x15=>getO x15).bind fun x16=>catR x16 (([32]:List Nat))).bind fun x20=>(((noExc (mapR (fun (z18:Int)=>strR z18) x3.2)).bind szR).bind fun x19=>joinR (([44]:List Nat)) x19).bind fun x21=>catR x20 x21).bind fun x22=>appR s2 x22).bind fun (s23:List (List Nat))=>Res.ok s23) v_note.2 s1).bind fun (s24:((List (List Nat))))=>(((strR v_note.1).bind fun x28=>catR x28 (([58,32]:List Nat))).bind fun x29=>(joinR (([59,32]:List Nat)) s24).bind fun x30=>catR x29 x30).bind fun x32=>Res.ok (x32)
noncomputable def f_law_right_v1(v_cell:Int):Res (Bool) :=
 (f_law_word_by v_cell ((0:Int))).bind fun (s3:List Nat)=>(ixR (([([97]:List Nat),([98]:List Nat)]:List (List Nat))) (if decide (s3=([97]:List Nat)) then 1 else 0)).bind fun (s6:List Nat)=>(((catR (([32,124,32]:List Nat)) s6).bind fun x13=>((catR (([32,124,32]:List Nat)) s3).bind fun x8=>catR x8 (([32,124,32,45]:List Nat))).bind fun x14=>Res.ok (([([]:List Nat),x13,([32,124,32,45]:List Nat),x14]:List (List Nat)))).bind fun x18=>(f_law_draw v_cell ((86:Int)) ((4:Int))).bind fun x19=>ixR x18 x19).bind fun (s20:List Nat)=>((catR s3 (([32,124,32,45]:List Nat))).bind fun x21=>catR x21 s20).bind fun (s22:List Nat)=>(((f_law_draw v_cell ((86:Int)) ((4:Int))).bind fun x58=>ixR (([([]:List (Option (List Nat))),([some s6]:List (Option (List Nat))),([none]:List (Option (List Nat))),([some s3,none]:List (Option (List Nat)))]:List (List (Option (List Nat))))) x58).bind fun x59=>catR (([some s3,none]:List (Option (List Nat)))) x59).bind fun (s60:List (Option (List Nat)))=>(f_law_draw v_cell ((87:Int)) ((5:Int))).bind fun (s64:Int)=>if decide (s64=(0:Int)) then ((f_law_bad_heads s3).bind fun (s66:List (List Nat))=>((((f_law_draw v_cell ((88:Int)) ((s66.length:Int))).bind fun x111=>ixR s66 x111).bind fun x113=>f_law_asked_v1 x113).bind fun x116=>Res.ok (decide (x116=((([114,101,102,117,115,101,100]:List Nat),none):((List Nat)×Option (((List (Option (List Nat)))×List (((Int)×List (((Option (List Nat))×List (Int)))))))))))).bind fun x118=>Res.ok (x118)) else (if decide (s64 < (4:Int)) then ((f_law_bad_lines s3 s6).bind fun (s121:List (List Nat))=>((catR s22 (([10]:List Nat))).bind fun x126=>((f_law_draw v_cell ((88:Int)) ((s121.length:Int))).bind fun x125=>ixR s121 x125).bind fun x127=>catR x126 x127).bind fun (s128:List Nat)=>(if decide (s64=(3:Int)) then ((((catR s128 (([10,49,58,32]:List Nat))).bind fun x134=>catR x134 s6).bind fun x135=>catR x135 (([32,53]:List Nat))).bind fun (s136:List Nat)=>Res.ok s136) else (Res.ok s128)).bind fun s132=>((f_law_asked_v1 s132).bind fun x150=>Res.ok (decide (x150=((([114,101,102,117,115,101,100]:List Nat),none):((List Nat)×Option (((List (Option (List Nat)))×List (((Int)×List (((Option (List Nat))×List (Int)))))))))))).bind fun x152=>Res.ok (x152)) else ((f_law_good v_cell s6).bind fun (s155:List (((Int)×List (((Option (List Nat))×List (Int))))))=>(((((noExc (mapR (fun (z182:((Int)×List (((Option (List Nat))×List (Int)))))=>f_law_line_of z182) s155)).bind szR).bind fun x184=>catR (([s22]:List (List Nat))) x184).bind fun x185=>joinR (([10]:List Nat)) x185).bind fun x187=>f_law_asked_v1 x187).bind fun (s188:((List Nat)×Option (((List (Option (List Nat)))×List (((Int)×List (((Option (List Nat))×List (Int)))))))))=>(if decide (s188.1=([116,111,108,100]:List Nat)) then f_law_same_v1 8 ((kO (kP2 (kT (kO kS)) (kT (kP2 kI (kT (kP2 (kO kS) (kT kI))))))) s188.2) ((kP2 (kT (kO kS)) (kT (kP2 kI (kT (kP2 (kO kS) (kT kI)))))) (((s60,s155):((List (Option (List Nat)))×List (((Int)×List (((Option (List Nat))×List (Int))))))))) else Res.ok false).bind fun x202=>Res.ok (x202)))
noncomputable def f_law_v63(v_script:List (Int)):Res (Bool) :=
 ((catR (([(0:Int)]:List (Int))) (cutL v_script none (some ((60:Int))))).bind fun x9=>forT (ρ:=Bool) (fun (s1:Unit) (x4:Int)=>((f_law_right_v1 x4).bind fun x6=>Res.ok (!x6)).bind fun b8=>if b8 then (Res.ok ((Ctl.rt false))) else (Res.ok (Ctl.nx (())))) x9 (())).bind fun c43=>c43.then (fun (r42:Bool)=>Res.ok r42) fun (s10:Unit)=>((f_law_asked_v1 (([10,48,58,32,97,32,49]:List Nat))).bind fun x17=>Res.ok (!decide (x17=((([114,101,102,117,115,101,100]:List Nat),none):((List Nat)×Option (((List (Option (List Nat)))×List (((Int)×List (((Option (List Nat))×List (Int)))))))))))).bind fun b41=>if b41 then (Res.ok (false)) else ((((f_apparatus_read (([]:List Nat))).bind fun x33=>Res.ok ((kP2 (kT (kO kS)) (kT (kP2 kI (kT (kP2 (kO kS) (kT kI)))))) x33)).bind fun x38=>f_law_same_v1 8 x38 ((kP2 (kT kV) (kT kV)) (((([]:List (PV)),([]:List (PV))):((List (PV))×List (PV)))))).bind fun x40=>Res.ok (x40))
end Vm
end
section
set_option linter.all false
set_option maxHeartbeats 1000000
set_option maxRecDepth 10000
namespace Vm
def Rk{α:Type}(r:Res α)(P:α→Prop):Prop:=∃ x,r = .ok x∧P x
section
variable {α β σ ι ρ:Type} {r:Res α} {P Q:α→Prop} {f:α→Res β} {T:β→Prop}
theorem Rk.ok{x:α}(h:P x):Rk (.ok x) P:=⟨x,rfl,h⟩
theorem Rk.of{x:α}(e:r = .ok x)(h:P x):Rk r P:=⟨x,e,h⟩
theorem Rk.eq{x:α}(h:Rk r (· = x)):r = .ok x:=by obtain ⟨y,h1,h2⟩:=h; rw [h1,h2]
theorem Rk.mono(h:Rk r P)(k:∀ x,P x→Q x):Rk r Q:=by obtain ⟨x,h1,h2⟩:=h; exact ⟨x,h1,k x h2⟩
theorem Rk.bind(h:Rk r P)(k:∀ x,P x→Rk (f x) T):Rk (r.bind f) T:=by
 obtain ⟨x,h1,h2⟩:=h; rw [h1]; exact k x h2
theorem Rk.bok{x:α}(e:r = .ok x)(k:Rk (f x) T):Rk (r.bind f) T:=by rw [e]; exact k
theorem Rk.ite{c:Prop}[Decidable c]{a b:Res α}(h1:c→Rk a P)(h2:¬ c→Rk b P):Rk (if c then a else b) P:=by split <;> rename_i h; exact h1 h; exact h2 h
theorem Rk.itd{c:Prop}[Decidable c]{a b:Res α}(h1:c→Rk a P)(h2:¬ c→Rk b P):Rk (if decide c then a else b) P:=by
 by_cases h:c
 ·rw [if_pos (by simpa using h)]; exact h1 h
 ·rw [if_neg (by simpa using h)]; exact h2 h
theorem Rk.noExc(h:Rk r P):Rk (noExc r) P:=by obtain ⟨x,h1,h2⟩:=h; rw [h1]; exact ⟨x,rfl,h2⟩
theorem Rk.or{c:Prop}[Decidable c]{b:Res Bool}{k:Bool→Res β}(h1:c→Rk (k true) T)(h2:¬ c→Rk (b.bind k) T):Rk ((if decide c then Res.ok true else b).bind k) T:=by
 by_cases h:c
 ·rw [if_pos (by simpa using h)]; exact h1 h
 ·rw [if_neg (by simpa using h)]; exact h2 h
theorem Rk.itb{c:Bool}{a b:Res α}(h1:c=true→Rk a P)(h2:c=false→Rk b P):Rk (if c then a else b) P:=by
 cases c
 ·exact h2 rfl
 ·exact h1 rfl
theorem Rk.for{F:σ→ι→Res σ}{l:List ι}{s:σ}{Q:σ→Prop}(I:Nat→σ→Prop)(h0:I 0 s)(hs:∀ i x s,l[i]? = some x→I i s→Rk (F s x) (I (i+1)))(hq:∀ s,I l.length s→Q s):Rk (forS F l s) Q:=by
 obtain ⟨s',h1,h2⟩:=forS_inv I l s h0 hs
 exact ⟨s',h1,hq s' h2⟩
theorem Rk.forU{F:Unit→ι→Res (Ctl Unit ρ)}{l:List ι}(h:∀ x∈l,Rk (F () x) (· = Ctl.nx ())):Vm.forT F l () = .ok (.nx ()) :=
 forT_all fun x hx=>(h x hx).eq
end
end Vm
end
section
set_option linter.all false
set_option maxHeartbeats 1000000
set_option maxRecDepth 10000
namespace Vm
theorem splS_skip(Z:List Nat):∀ (Y S acc:List Nat),splS Z (Y++S) Y.length acc=splS Z S 0 acc
 | [],S,acc=>rfl
 | y :: Y,S,acc=>by
  show splS Z (y :: (Y++S)) (Y.length+1) acc=_
  rw [splS]
  exact splS_skip Z Y S acc
theorem isPrefix_self(Y S:List Nat):Y.isPrefixOf (Y++S)=true:=by
 rw [List.isPrefixOf_iff_prefix]; exact List.prefix_append _ _
theorem notPrefix{c d:Nat}{Y S:List Nat}(h:c ≠ d):(c :: Y).isPrefixOf (d :: S)=false:=by
 rw [List.isPrefixOf]
 simp [h]
theorem splc_last{c:Nat}{Y:List Nat}:∀ (w acc:List Nat),c ∉ w→splS (c :: Y) w 0 acc=[acc.reverse++w]
 | [],acc,_=>by simp [splS]
 | d :: w,acc,h=>by
  have hc:c ≠ d:=fun e=>h (by simp [e])
  have:=splc_last (c:=c) (Y:=Y) w (d :: acc) fun e=>h (List.mem_cons_of_mem _ e)
  rw [splS,notPrefix hc,if_neg (by decide),this]
  simp
theorem splc_first{c:Nat}{Y:List Nat}:∀ (w acc S:List Nat),c ∉ w→splS (c :: Y) (w++(c :: Y)++S) 0 acc=(acc.reverse++w) :: splS (c :: Y) S 0 []
 | [],acc,S,_=>by
  show splS (c :: Y) (c :: (Y++S)) 0 acc=_
  have:(c :: Y).isPrefixOf (c :: (Y++S))=true:=isPrefix_self (c :: Y) S
  rw [splS,if_pos this]
  simp [splS_skip]
 | d :: w,acc,S,h=>by
  have hc:c ≠ d:=fun e=>h (by simp [e])
  have:=splc_first (c:=c) (Y:=Y) w (d :: acc) S fun e=>h (List.mem_cons_of_mem _ e)
  show splS (c :: Y) (d :: (w++(c :: Y)++S)) 0 acc=_
  rw [splS,notPrefix hc,if_neg (by decide),this]
  simp
theorem splc_join{c:Nat}{Y:List Nat}:∀ ws:List (List Nat),ws ≠ []→(∀ w∈ws,c ∉ w)→splS (c :: Y) (joinL (c :: Y) ws) 0 []=ws
 | [],h,_=>absurd rfl h
 | [w],_,h=>by
  show splS (c :: Y) w 0 []=[w]
  rw [splc_last w [] (h w (by simp))]
  rfl
 | w :: v :: r,_,h=>by
  have ih:=splc_join (Y:=Y) (v :: r) (by simp) fun u hu=>h u (by simp at hu ⊢; exact .inr hu)
  rw [joinL,splc_first w [] _ (h w (by simp)),ih]
  rfl
theorem splitR_join{c:Nat}{Y:List Nat}{ws:List (List Nat)}(h:ws ≠ [])(hc:∀ w∈ws,c ∉ w)(hl:(joinL (c :: Y) ws).length≤10000000):splitR (joinL (c :: Y) ws) (c :: Y) = .ok ws:=by
 unfold splitR
 rw [if_pos ⟨by simp,by omega⟩,splc_join ws h hc]
theorem partc{c:Nat}{Y:List Nat}(b:List Nat):∀ (a acc:List Nat),c ∉ a→partS (c :: Y) (a++(c :: Y)++b) acc=[acc.reverse++a,c :: Y,b]
 | [],acc,_=>by
  show partS (c :: Y) (c :: (Y++b)) acc=_
  have:(c :: Y).isPrefixOf (c :: (Y++b))=true:=isPrefix_self (c :: Y) b
  rw [partS,if_pos this]
  simp
 | d :: a,acc,h=>by
  have hc:c ≠ d:=fun e=>h (by simp [e])
  have:=partc (c:=c) (Y:=Y) b a (d :: acc) fun e=>h (List.mem_cons_of_mem _ e)
  show partS (c :: Y) (d :: (a++(c :: Y)++b)) acc=_
  rw [partS,notPrefix hc,if_neg (by decide),this]
  simp
theorem partR_at{c:Nat}{Y a b:List Nat}(h:c ∉ a)(hl:(a++(c :: Y)++b).length≤10000000):partR (a++(c :: Y)++b) (c :: Y) = .ok (a,c :: Y,b):=by
 unfold partR
 rw [if_pos ⟨by simp,by omega⟩,partc b a [] h]
 rfl
theorem mem_joinL{c:Nat}{s:List Nat}:∀ {ws:List (List Nat)},c∈joinL s ws→c∈s ∨ ∃ w∈ws,c∈w
 | [],h=>by simp [joinL] at h
 | [w],h=>.inr ⟨w,by simp,h⟩
 | w :: v :: r,h=>by
  rw [joinL,List.mem_append,List.mem_append] at h
  rcases h with (h | h) | h
  ·exact .inr ⟨w,by simp,h⟩
  ·exact .inl h
  ·rcases mem_joinL h with h | ⟨u,h1,h2⟩
   ·exact .inl h
   ·exact .inr ⟨u,List.mem_cons_of_mem _ h1,h2⟩
theorem joinL_len'{s:List Nat}:∀ {ws:List (List Nat)},(joinL s ws).length≤(ws.map (·.length)).sum+ws.length * s.length
 | []=>by simp [joinL]
 | [w]=>by simp [joinL]
 | w :: v :: r=>by
  have:=joinL_len' (s:=s) (ws:=v :: r)
  rw [joinL]
  simp only [List.length_append,List.map_cons,List.sum_cons,List.length_cons] at this ⊢
  have e:(r.length+1+1) * s.length=(r.length+1) * s.length+s.length:=by rw [Nat.add_mul (r.length+1) 1]; omega
  rw [e]
  omega
theorem sum_le{ws:List (List Nat)}{B:Nat}(h:∀ w∈ws,w.length≤B):(ws.map (·.length)).sum≤ws.length * B:=by
 induction ws with
 | nil=>simp
 | cons w ws ih =>
  have h1:=h w (by simp)
  have h2:=ih fun v hv=>h v (by simp [hv])
  simp only [List.map_cons,List.sum_cons,List.length_cons]
  rw [Nat.add_mul]
  omega
theorem jn_le{s:List Nat}{ws:List (List Nat)}{B M:Nat}(h:∀ w∈ws,w.length≤B)(hM:ws.length * B+ws.length * s.length≤M):(ws.map (·.length)).sum+ws.length * s.length≤M:=by
 have:=sum_le h
 omega
theorem joinR_ok{s:List Nat}{ws:List (List Nat)}(h:(ws.map (·.length)).sum+ws.length * s.length≤16777216):joinR s ws = .ok (joinL s ws):=if_pos h
theorem joinL_ne{s:List Nat}{w:List Nat}{ws:List (List Nat)}(h:w ≠ []):joinL s (w :: ws) ≠ []:=by
 cases ws with
 | nil=>exact h
 | cons v r=>rw [joinL]; simp [h]
def dg(i:Int):List Nat:=natS i.toNat
structure DgOk (n:Nat):Prop where
 l1:1≤(natS n).length
 l4:(natS n).length≤4
 f:(natS n).all isFig=true
 h:¬ (1 < (natS n).length∧(natS n).head? = some 48)
 v:figN (natS n)=n
theorem dgok{n:Nat}(h:n < 1200):DgOk n:=by
 have:=(by decide +kernel:∀ n:Fin 1200,(1≤(natS n.val).length∧(natS n.val).length≤4)∧(natS n.val).all isFig=true∧¬ (1 < (natS n.val).length∧(natS n.val).head? = some 48)∧figN (natS n.val)=n.val) ⟨n,h⟩
 exact ⟨this.1.1,this.1.2,this.2.1,this.2.2.1,this.2.2.2⟩
theorem str_ok{i:Int}(h0:0≤i)(h1:i < 1200):strR i = .ok (dg i):=by
 obtain ⟨n,rfl⟩:∃ n:Nat,i=n:=⟨i.toNat,by omega⟩
 show (if n.log2 < 1920 then Res.ok (natS n) else .bad)=_
 rw [if_pos]
 ·rfl
 ·have:=log2_lt_pow (a:=n) (n:=11) (by omega)
  omega
theorem dg_le{i:Int}(h0:0≤i)(h1:i < 1200):(dg i).length≤4:=(dgok (n:=i.toNat) (by omega)).l4
theorem dg_fig{i:Int}(h0:0≤i)(h1:i < 1200){c:Nat}(hc:c∈dg i):48≤c∧c≤57:=by
 have:=List.all_eq_true.mp (dgok (n:=i.toNat) (by omega)).f c hc
 unfold isFig at this
 simpa using this
theorem forS_test{ι:Type}{F:Unit→ι→Res Unit}(p:ι→Bool)(c:Nat):∀ {l:List ι},(∀ x∈l,F () x=if p x then .ok () else .exc c)→forS F l ()=if l.all p then .ok () else .exc c
 | [],_=>rfl
 | x :: l,h=>by
  rw [forS,h x (by simp),List.all_cons]
  cases p x with
  | true=>rw [if_pos rfl,bind_ok,Bool.true_and]; exact forS_test p c fun y hy=>h y (by simp [hy])
  | false=>rfl
theorem head_ok{w:List Nat}(h:1≤w.length):∃ c,w.head? = some c∧ixR w 0 = .ok c:=by
 cases w with
 | nil=>simp at h
 | cons c w=>exact ⟨c,rfl,ixR_gt (l:=c :: w) (by omega) (by simp)⟩
theorem gt_lit{α:Type}[Inhabited α]{l:List α}{i:Int}(P:α→Prop)(h:∀ x∈l,P x)(h0:0≤i)(h1:i < l.length):∃ x,ixR l i = .ok x∧P x:=⟨gt l i,ixR_gt h0 h1,h _ (gt_mem (by omega))⟩
theorem dfindPut{α β:Type}[DecidableEq α](k k':α)(v:β):∀ d:List (α×β),dfind (dput d k v) k'=if k'=k then some v else dfind d k'
 | []=>by
  unfold dput dfind
  by_cases h:k=k'
  ·simp [h]
  ·have h':¬ k'=k:=fun e=>h e.symm
   simp [h,h']
 | z :: d=>by
  have ih:=dfindPut k k' v d
  unfold dput
  by_cases h:z.1=k
  ·rw [if_pos h]
   by_cases h2:k'=k
   ·rw [if_pos h2]; simp [dfind,h,h2]
   ·rw [if_neg h2]
    have h3:¬ z.1=k':=fun e=>h2 (by rw [← e,h])
    simp [dfind,h3]
  ·rw [if_neg h]
   by_cases h3:z.1=k'
   ·have h2:¬ k'=k:=fun e=>h (by rw [h3,e])
    rw [if_neg h2]; simp [dfind,h3]
   ·have e1:dfind (z :: dput d k v) k'=dfind (dput d k v) k':=by simp [dfind,h3]
    have e2:dfind (z :: d) k'=dfind d k':=by simp [dfind,h3]
    rw [e1,e2,ih]
theorem dputLen{α β:Type}[DecidableEq α](k:α)(v:β):∀ d:List (α×β),(dput d k v).length≤d.length+1
 | []=>by simp [dput]
 | z :: d=>by
  have:=dputLen k v d
  unfold dput
  split <;> simp <;> omega
theorem dputR_ok{α β:Type}[DecidableEq α]{d:List (α×β)}{k:α}{v:β}(h:d.length < 16777216):dputR d k v = .ok (dput d k v):=if_pos h
end Vm
end
section
set_option linter.all false
set_option maxHeartbeats 1000000
set_option maxRecDepth 10000
namespace Vm
theorem Rk.forL{σ ι:Type}{F:σ→ι→Res σ}{Q:σ→Prop}(I:List ι→σ→Prop)(hs:∀ x l s,I (x :: l) s→Rk (F s x) (I l))(hq:∀ s,I [] s→Q s):∀ {l:List ι} {s:σ},I l s→Rk (forS F l s) Q
 | [],s,h=>Rk.ok (hq s h)
 | x :: l,s,h=>by rw [forS]; exact Rk.bind (hs x l s h) fun s' h'=>Rk.forL I hs hq h'
abbrev Ent:=Option (List Nat)
abbrev Col:=List Ent
abbrev Rdg:=Ent×List Int
abbrev Nte:=Int×List Rdg
theorem gt0_mem{l:List Int}(h:l ≠ []):gt l 0∈l:=by
 cases l with
 | nil=>exact absurd rfl h
 | cons x l=>exact List.mem_cons_self
def Before(r s:Rdg):Prop:=r.1 ≠ s.1∧(∀ k∈r.2,k ∉ s.2)∧gt r.2 0 < gt s.2 0
structure RdOk (b:Ent) (many:Int) (r:Rdg):Prop where
 b:r.1 ≠ b
 ne:r.2 ≠ []
 lt:r.2.Pairwise (· < ·)
 i:∀ k∈r.2,1≤k∧k < many
structure RdsOk (b:Ent) (many:Int) (rs:List Rdg):Prop where
 ne:rs ≠ []
 all:∀ r∈rs,RdOk b many r
 pw:rs.Pairwise Before
def backOf(b:Ent)(many:Nat)(d:List (Int×Ent)):Col:=(rngN many).map fun k=>(dfind d k).getD b
def Tells(b:Ent)(many:Nat)(rs:List Rdg)(c:Col):Prop:=∃ d:List (Int×Ent),c=backOf b many d∧(∀ r∈rs,∀ k∈r.2,dfind d k=some r.1)∧∀ k,(∀ r∈rs,k ∉ r.2)→dfind d k=none
structure NotesOk (es:List Ent) (many:Int) (ns:List Nte):Prop where
 pw:ns.Pairwise fun m n=>m.1 < n.1
 i:∀ n∈ns,0≤n.1∧n.1 < es.length
 r:∀ n∈ns,RdsOk (gt es n.1) many n.2∧n.2.length≤1000∧∀ r∈n.2,r.2.length≤1000
theorem gt_set{α:Type}[Inhabited α](l:List α){i j:Int}(h0:0≤i)(hi:i < l.length)(h1:0≤j)(x:α):gt (l.set i.toNat x) j=if j=i then x else gt l j:=by
 unfold gt
 rw [List.getD,List.getD,List.getElem?_set]
 by_cases h:j=i
 ·rw [if_pos h,if_pos (by rw [h]),if_pos (by omega)]; rfl
 ·rw [if_neg h,if_neg (by omega)]
end Vm
end
section
set_option linter.all false
set_option maxHeartbeats 1000000
set_option maxRecDepth 10000
namespace Vm
def ent:Option (List Nat)→List Nat
 | none=>[45]
 | some w=>w
def okE(o:Option (List Nat)):Prop:=(ent o).length≤20
structure okRd (r:Rdg):Prop where
 e:okE r.1
 n:r.2.length≤30
 i:∀ k∈r.2,0≤k∧k < 1200
structure okNt (n:Int×List Rdg):Prop where
 k0:0≤n.1
 k1:n.1 < 1200
 l:n.2.length≤30
 r:∀ r∈n.2,okRd r
def rows30(l:List Int):List Nat:=joinL [44] (l.map dg)
theorem rows_ok{l:List Int}(hn:l.length≤30)(hi:∀ k∈l,0≤k∧k < 1200):(((noExc (mapR (fun (z13:Int)=>strR z13) l)).bind szR).bind fun x14=>joinR (([44]:List Nat)) x14) = .ok (rows30 l)∧(rows30 l).length≤150:=by
 have hb:(((l.map dg).map (·.length)).sum+(l.map dg).length * ([44]:List Nat).length)≤150:=jn_le (B:=4) (fun w hw=>by
  obtain ⟨k,hk,rfl⟩:=List.mem_map.mp hw
  exact dg_le (hi k hk).1 (hi k hk).2) (by simp; omega)
 constructor
 ·rw [mapR_sz dg (fun k hk=>str_ok (hi k hk).1 (hi k hk).2) (by omega),bind_ok,joinR_ok (by omega)]
  rfl
 ·exact Nat.le_trans joinL_len' hb
def readS(r:Rdg):List Nat:=ent r.1++[32]++rows30 r.2
theorem readS_le{r:Rdg}(h:okRd r):(readS r).length≤171:=by
 have:=(rows_ok h.n h.i).2
 have:=h.e
 unfold okE at this
 unfold readS
 simp; omega
def readsS(l:List Rdg):List Nat:=joinL [59,32] (l.map readS)
theorem reads_b{l:List Rdg}(hl:l.length≤30)(h:∀ r∈l,okRd r):(((l.map readS).map (·.length)).sum+(l.map readS).length * ([59,32]:List Nat).length)≤5190:=jn_le (B:=171) (fun w hw=>by
 obtain ⟨r,hr,rfl⟩:=List.mem_map.mp hw
 exact readS_le (h r hr)) (by simp; omega)
def noteS(n:Int×List Rdg):List Nat:=dg n.1++[58,32]++readsS n.2
theorem noteS_le{n:Int×List Rdg}(h:okNt n):(noteS n).length≤5200:=by
 have:=Nat.le_trans joinL_len' (reads_b h.l h.r)
 have:=dg_le h.k0 h.k1
 unfold noteS readsS
 simp; omega
def headS(es:List (Option (List Nat))):List Nat:=joinL [32,124,32] (es.map ent)
theorem head_b{es:List (Option (List Nat))}(hl:es.length≤1200)(h:∀ o∈es,okE o):(((es.map ent).map (·.length)).sum+(es.map ent).length * ([32,124,32]:List Nat).length)≤27600:=jn_le (B:=20) (fun w hw=>by
 obtain ⟨r,hr,rfl⟩:=List.mem_map.mp hw
 exact h r hr) (by simp; omega)
def appS(es:List (Option (List Nat)))(ns:List (Int×List Rdg)):List Nat:=joinL [10] (headS es :: ns.map noteS)
theorem app_b{es:List (Option (List Nat))}{ns:List (Int×List Rdg)}(hl:es.length≤1200)(h:∀ o∈es,okE o)(hn:ns.length≤1200)(hN:∀ n∈ns,okNt n):(((headS es :: ns.map noteS).map (·.length)).sum+(headS es :: ns.map noteS).length * ([10]:List Nat).length)≤6300000:=by
 have h1:=Nat.le_trans joinL_len' (head_b hl h)
 have h2:=sum_le (ws:=ns.map noteS) (B:=5200) (fun w hw=>by
  obtain ⟨r,hr,rfl⟩:=List.mem_map.mp hw
  exact noteS_le (hN r hr))
 have h3:(headS es).length≤27600:=h1
 simp only [List.map_cons,List.sum_cons,List.length_cons,List.length_map,List.length_nil] at h2 ⊢
 omega
end Vm
end
section
set_option linter.all false
set_option maxHeartbeats 1000000
set_option maxRecDepth 10000
namespace Vm
def okC(n:Nat)(c:Int):Prop:=c.natAbs < 2 ^ n
theorem draw_ex{n:Nat}{cell k many:Int}(hc:okC n cell)(hn:n≤2000000)(k0:0≤k)(k1:k < 2 ^ 20)(hm:0 < many):∃ d,f_law_draw cell k many = .ok d∧0≤d∧d < many:=by
 unfold f_law_draw
 have p0:(0:Int) < 170141183460469231731687303715884105727:=by decide
 have kk:(k * k).natAbs < 2 ^ 40:=by
  rw [Int.natAbs_mul]
  exact Nat.lt_of_lt_of_le (Nat.mul_lt_mul'' (show k.natAbs < 2 ^ 20 by omega) (show k.natAbs < 2 ^ 20 by omega)) (by decide)
 have kk2:0≤k * k:=Int.mul_nonneg k0 k0
 have cell2:(cell * 2+1).natAbs < 2 ^ (n+2):=by
  unfold okC at hc
  rw [Nat.pow_succ,Nat.pow_succ]
  generalize 2 ^ n=B at *
  omega
 have h0:=fun z:Int=>Int.emod_nonneg z (show (170141183460469231731687303715884105727:Int) ≠ 0 by decide)
 have h1:=fun z:Int=>Int.emod_lt_of_pos z p0
 simp only [mulR_ok (i:=cell) (j:=2) hc (show (2:Int).natAbs < 2 ^ 2 by decide) (show n+2 < 50000000 by omega),bind_ok,mulR_ok (i:=k) (j:=k) (m:=20) (n:=20) (by omega) (by omega) (by omega),mulR_ok (i:=k * k) (j:=9176023) (m:=40) (n:=24) kk (by decide) (by omega)]
 rw [mulR_ok (i:=cell * 2+1) (m:=n+2) (n:=80) cell2 (by omega) (by omega)]
 simp only [bind_ok,modR_ok p0]
 have w0:=h0 ((cell * 2+1) * (k * k * 9176023+84127918273645463728191))
 have w1:=h1 ((cell * 2+1) * (k * k * 9176023+84127918273645463728191))
 generalize (cell * 2+1) * (k * k * 9176023+84127918273645463728191) % 170141183460469231731687303715884105727=w at *
 rw [mulR_ok (i:=w) (j:=w+5) (m:=128) (n:=129) (by omega) (by omega) (by omega)]
 simp only [bind_ok,modR_ok p0,modR_ok hm]
 exact ⟨_,rfl,Int.emod_nonneg _ (by omega),Int.emod_lt_of_pos _ hm⟩
def drawF(cell k many:Int):Int:=match f_law_draw cell k many with
 | .ok d=>d
 | _=>0
theorem draw_ok{n:Nat}{cell k many:Int}(hc:okC n cell)(hn:n≤2000000)(k0:0≤k)(k1:k < 2 ^ 20)(hm:0 < many):f_law_draw cell k many = .ok (drawF cell k many)∧0≤drawF cell k many∧drawF cell k many < many:=by
 obtain ⟨d,h1,h2,h3⟩:=draw_ex hc hn k0 k1 hm
 unfold drawF
 rw [h1]
 exact ⟨rfl,h2,h3⟩
end Vm
end
section
set_option linter.all false
set_option maxHeartbeats 1000000
set_option maxRecDepth 10000
namespace Vm
def fine(w:List Nat):Prop:=1≤w.length∧w.length≤12∧∀ c∈w,97≤c∧c≤122
def okW(o:Option (List Nat)):Prop:=∀ w,o=some w→fine w
theorem letter_ok{i:Int}(h0:0≤i)(h1:i < 26):∃ c,((ixR (([97,98,99,100,101,102,103,104,105,106,107,108,109,110,111,112,113,114,115,116,117,118,119,120,121,122]:List Nat)) i).bind fun z=>Res.ok [z]) = .ok [c]∧97≤c∧c≤122:=by
 obtain ⟨c,h,h2⟩:=gt_lit (l:=([97,98,99,100,101,102,103,104,105,106,107,108,109,110,111,112,113,114,115,116,117,118,119,120,121,122]:List Nat)) (fun c=>97≤c∧c≤122) (by decide) h0 h1
 exact ⟨c,by rw [h]; rfl,h2⟩
section
variable {n:Nat} {cell:Int}
theorem word_ok(hc:okC n cell)(hn:n≤2000000){k:Int}(k0:0≤k)(k1:k≤10):Rk (f_law_word_by cell k) fine:=by
 unfold f_law_word_by
 rw [mulR_ok (i:=10) (j:=k) (m:=8) (n:=8) (by decide) (by omega) (by omega),bind_ok,bind_ok]
 obtain ⟨a1,a2,a3⟩:=draw_ok (k:=10 * k+1) (many:=4) hc hn (by omega) (by omega) (by decide)
 rw [a1,bind_ok]
 obtain ⟨z,z1,z2⟩:=gt_lit (l:=([(1:Int),2,3,12])) (fun x=>1≤x∧x≤12) (by decide) a2 (show drawF cell (10 * k+1) 4 < (([(1:Int),2,3,12]).length:Int) from a3)
 simp only [z1,rngR_int (show 0≤z by omega) (show z≤1000000000 by omega),bind_ok]
 refine Rk.bind (P:=fine) (Rk.for (fun i (s:List Nat)=>s.length=i∧∀ c∈s,97≤c∧c≤122) ⟨rfl,fun _ h=>(nomatch h)⟩ (fun i x s hx hs=>?_) fun s hs=>?_) fun s hs=>Rk.ok hs
 ·obtain ⟨rfl,hi⟩:=rngN_get hx
  obtain ⟨hs1,hs2⟩:=hs
  rw [mulR_ok (i:=20) (j:=k) (m:=8) (n:=8) (by decide) (by omega) (by omega),bind_ok,bind_ok,bind_ok]
  obtain ⟨b1,b2,b3⟩:=draw_ok (k:=300+20 * k+(i:Int)) (many:=26) hc hn (by omega) (by omega) (by decide)
  rw [b1,bind_ok]
  obtain ⟨c,hc1,hc2⟩:=letter_ok b2 b3
  rw [hc1,bind_ok,catR_ok (by simp; omega),bind_ok]
  refine Rk.ok ⟨by simp [hs1],fun d hd=>?_⟩
  rcases List.mem_append.mp hd with hd | hd
  ·exact hs2 d hd
  ·rw [List.mem_singleton] at hd; rw [hd]; exact hc2
 ·rw [rngN_length] at hs
  exact ⟨by omega,by omega,hs.2⟩
end
abbrev okN(c:Int):Prop:=okC 1048577 c
theorem okN_of{z:Int}(h:z.natAbs.log2≤1048576):okN z:=Nat.lt_of_lt_of_le Nat.lt_log2_self (Nat.pow_le_pow_right (by decide) (by omega))
theorem okN_zero:okN 0:=by
 show Int.natAbs 0 < 2 ^ 1048577
 exact Nat.pow_pos (by decide)
theorem drw{n:Nat}{cell k many:Int}(hc:okC n cell)(hn:n≤2000000)(k0:0≤k)(k1:k < 2 ^ 20)(hm:0 < many):Rk (f_law_draw cell k many) fun d=>0≤d∧d < many:=by
 obtain ⟨a,b,c⟩:=draw_ok hc hn k0 k1 hm
 exact ⟨_,a,b,c⟩
theorem ixlit{α:Type}[Inhabited α]{l:List α}{i:Int}{P:α→Prop}(h:∀ x∈l,P x)(h0:0≤i)(h1:i < l.length):Rk (ixR l i) P:=gt_lit P h h0 h1
end Vm
end
section
set_option linter.all false
set_option maxHeartbeats 1000000
set_option maxRecDepth 10000
namespace Vm
theorem lookrows_ok{rows:List Int}{many:Int}{d:List (Int×Ent)}(hne:rows ≠ [])(hlt:rows.Pairwise (· < ·))(hi:∀ k∈rows,1≤k∧k < many∧dfind d k=none):f_look_rows rows many d = .ok ():=by
 refine Rk.eq ?_
 unfold f_look_rows
 rw [decide_eq_false (by have:=List.length_pos_iff.mpr hne; omega),if_neg (by decide)]
 refine Rk.bind (P:=fun _=>True) (Rk.forL (fun l (s:Int)=>l.Pairwise (· < ·)∧∀ k∈l,s < k∧k < many∧dfind d k=none) (fun x l s h=>?_) (fun _ _=>trivial) ⟨hlt,fun k hk=>⟨by have:=(hi k hk).1; omega,(hi k hk).2⟩⟩) fun _ _=>Rk.ok rfl
 obtain ⟨h1,h2⟩:=h
 obtain ⟨a,b,e⟩:=h2 x (by simp)
 rw [decide_eq_false (by omega),decide_eq_false (by omega),e]
 simp only [Bool.false_eq_true,if_false,bind_ok,Option.isSome_none]
 obtain ⟨p1,p2⟩:=List.pairwise_cons.mp h1
 exact Rk.ok ⟨p2,fun k hk=>⟨p1 k hk,(h2 k (by simp [hk])).2⟩⟩
theorem lookreads_ok{b:Ent}{many:Int}{rs:List Rdg}(h:RdsOk b many rs)(hm:many≤1000)(hn:rs.length≤1000)(hr:∀ r∈rs,r.2.length≤1000):Rk (f_look_readings b rs many) fun d=>(∀ r∈rs,∀ k∈r.2,dfind d k=some r.1)∧∀ k,(∀ r∈rs,k ∉ r.2)→dfind d k=none:=by
 obtain ⟨hne,hall,hpw⟩:=h
 unfold f_look_readings
 rw [decide_eq_false (by have:=List.length_pos_iff.mpr hne; omega),if_neg (by decide)]
 refine Rk.bind (P:=fun (s:List (Int×Ent)×List Ent×Int)=>(∀ r∈rs,∀ k∈r.2,dfind s.1 k=some r.1)∧∀ k,(∀ r∈rs,k ∉ r.2)→dfind s.1 k=none)
  (Rk.forL (fun l (s:List (Int×Ent)×List Ent×Int)=>∃ pre,pre++l=rs∧s.1.length≤1000 * pre.length∧s.2.1.length≤pre.length∧(∀ r∈l,r.1 ∉ s.2.1∧s.2.2 < gt r.2 0∧∀ k∈r.2,dfind s.1 k=none)∧(∀ r∈pre,∀ k∈r.2,dfind s.1 k=some r.1)∧∀ k,(∀ r∈pre,k ∉ r.2)→dfind s.1 k=none) (fun x l s hI=>?_) (fun s hI=>?_) ⟨[],rfl,by simp,by simp,fun r hr=>⟨by simp,by have:=((hall r hr).i _ (gt0_mem (hall r hr).ne)).1; show (0:Int) < _; omega,fun k _=>rfl⟩,fun _ h=>(nomatch h),fun _ _=>rfl⟩) fun s hs=>Rk.ok hs
 ·obtain ⟨pre,e,l1,l2,i1,i2,i3⟩:=hI
  obtain ⟨d,seen,first⟩:=s
  have hx:x∈rs:=by rw [← e]; simp
  have ox:=hall x hx
  obtain ⟨j1,j2,j3⟩:=i1 x (by simp)
  have hlen:pre.length+1≤1000:=by have:=congrArg List.length e; simp at this; omega
  simp only at j1 j2 j3 l1 l2 i2 i3
  have hmem:memB x.1 seen=false:=by rw [Bool.eq_false_iff]; exact fun z=>j1 (memB_iff.mp z)
  have hx2:=hr x hx
  simp only [decide_eq_false ox.b,hmem,Bool.false_eq_true,if_false,bind_ok]
  rw [lookrows_ok ox.ne ox.lt fun k hk=>⟨(ox.i k hk).1,(ox.i k hk).2,j3 k hk⟩]
  have h0:ixR x.2 0 = .ok (gt x.2 0):=ixR_gt (by omega) (by have:=List.length_pos_iff.mpr ox.ne; omega)
  simp only [bind_ok,h0,decide_eq_false (show ¬ gt x.2 0≤first by omega),Bool.false_eq_true,if_false]
  rw [appR_ok (by omega),bind_ok]
  refine Rk.bind (P:=fun (d':List (Int×Ent))=>d'.length≤d.length+x.2.length∧(∀ k∈x.2,dfind d' k=some x.1)∧∀ k,k ∉ x.2→dfind d' k=dfind d k)
   (Rk.forL (fun l' (s:List (Int×Ent))=>∃ pre',pre'++l'=x.2∧s.length≤d.length+pre'.length∧(∀ k∈pre',dfind s k=some x.1)∧∀ k,k ∉ pre'→dfind s k=dfind d k) (fun y l' s hI=>?_) (fun s hI=>?_) ⟨[],rfl,by simp,fun _ h=>(nomatch h),fun _ _=>rfl⟩) fun d' hd=>Rk.ok ?_
  ·obtain ⟨pre',e',a1,a2,a3⟩:=hI
   have hpl:pre'.length≤1000:=by have:=congrArg List.length e'; simp at this; omega
   rw [dputR_ok (by omega),bind_ok]
   refine Rk.ok ⟨pre'++[y],by simp [e'],?_,fun k hk=>?_,fun k hk=>?_⟩
   ·have:=dputLen y x.1 s; simp; omega
   ·rw [dfindPut]
    by_cases hky:k=y
    ·rw [if_pos hky]
    ·rw [if_neg hky]
     refine a2 k ?_
     rcases List.mem_append.mp hk with hk | hk
     ·exact hk
     ·rw [List.mem_singleton] at hk; exact absurd hk hky
   ·rw [dfindPut,if_neg (fun z=>hk (by simp [z]))]
    exact a3 k fun z=>hk (by simp [z])
  ·obtain ⟨pre',e',a1,a2,a3⟩:=hI
   rw [List.append_nil] at e'
   subst e'
   exact ⟨a1,a2,a3⟩
  ·obtain ⟨d1,d2,d3⟩:=hd
   have hpx:∀ r∈l,Before x r:=by
    have:=hpw
    rw [← e] at this
    exact (List.pairwise_cons.mp (List.pairwise_append.mp this).2.1).1
   refine ⟨pre++[x],by simp [e],by simp; omega,by simp; omega,fun r hrl=>?_,fun r hrp k hk=>?_,fun k hk=>?_⟩
   ·obtain ⟨b1,b2,b3⟩:=hpx r hrl
    obtain ⟨c1,c2,c3⟩:=i1 r (by simp [hrl])
    refine ⟨fun z=>?_,b3,fun k hk=>?_⟩
    ·rcases List.mem_append.mp z with z | z
     ·exact c1 z
     ·rw [List.mem_singleton] at z; exact b1 z.symm
    ·show dfind d' k=none
     rw [d3 k fun z=>b2 k z hk]; exact c3 k hk
   ·show dfind d' k=some r.1
    rcases List.mem_append.mp hrp with hp | hp
    ·rw [d3 k,i2 r hp k hk]
     intro z
     have:=j3 k z
     rw [i2 r hp k hk] at this; cases this
    ·rw [List.mem_singleton] at hp; subst hp; exact d2 k hk
   ·show dfind d' k=none
    rw [d3 k (hk x (by simp))]
    exact i3 k fun r hr=>hk r (by simp [hr])
 ·obtain ⟨pre,e,_,_,_,i2,i3⟩:=hI
  rw [List.append_nil] at e
  subst e
  exact ⟨i2,i3⟩
theorem colback_ok{b:Ent}{many:Nat}{d:List (Int×Ent)}(h:many≤1000):f_column_back b (many:Int) d = .ok (backOf b many d):=by
 unfold f_column_back
 rw [rngR_nat (by omega),bind_ok,mapR_sz (fun k=>(dfind d k).getD b) (fun _ _=>rfl) (by simp; omega)]
 rfl
theorem collback_ok{es:List Ent}{many:Nat}{ns:List Nte}(h:NotesOk es many ns)(hm:many≤1000)(he:es.length≤1200):Rk (f_collation_back es (many:Int) ns) fun cs=>cs.length=es.length∧(∀ n∈ns,Tells (gt es n.1) many n.2 (gt cs n.1))∧∀ i:Int,0≤i→i < es.length→(∀ n∈ns,n.1 ≠ i)→gt cs i=backOf (gt es i) many []:=by
 obtain ⟨hpw,hi,hr⟩:=h
 unfold f_collation_back
 rw [mapR_sz (fun e=>backOf e many []) (fun e _=>colback_ok hm) (by omega),bind_ok]
 refine Rk.bind (P:=fun (s:List Col×Int)=>s.1.length=es.length∧(∀ n∈ns,Tells (gt es n.1) many n.2 (gt s.1 n.1))∧∀ i:Int,0≤i→i < es.length→(∀ n∈ns,n.1 ≠ i)→gt s.1 i=backOf (gt es i) many [])
  (Rk.forL (fun l (s:List Col×Int)=>∃ pre,pre++l=ns∧s.1.length=es.length∧(∀ n∈l,s.2 < n.1)∧(∀ n∈pre,Tells (gt es n.1) many n.2 (gt s.1 n.1))∧∀ i:Int,0≤i→i < es.length→(∀ n∈pre,n.1 ≠ i)→gt s.1 i=backOf (gt es i) many []) (fun x l s hI=>?_) (fun s hI=>?_) ⟨[],rfl,by simp,fun n hn=>?_,fun _ h=>(nomatch h),fun i i0 i1 _=>gt_map _ (by omega)⟩) fun s hs=>Rk.ok hs
 ·obtain ⟨pre,e,l1,i1,i2,i3⟩:=hI
  obtain ⟨cs,last⟩:=s
  have hx:x∈ns:=by rw [← e]; simp
  obtain ⟨x0,x1⟩:=hi x hx
  obtain ⟨r1,r2,r3⟩:=hr x hx
  have xl:=i1 x (by simp)
  simp only at xl l1 i2 i3
  simp only [decide_eq_false (show ¬ x.1≤last by omega),decide_eq_false (show ¬ (es.length:Int)≤x.1 by omega),Bool.false_eq_true,if_false,bind_ok,ixR_gt (l:=es) x0 x1]
  rw [bind_assoc,bind_assoc]
  refine Rk.bind (lookreads_ok r1 (by omega) r2 r3) fun d hd=>?_
  rw [colback_ok hm,bind_ok,setR_ok x0 (by omega),bind_ok]
  have hpx:(∀ n∈l,x.1 < n.1)∧∀ n∈pre,n.1 < x.1:=by
   have:=hpw
   rw [← e] at this
   obtain ⟨_,q,q2⟩:=List.pairwise_append.mp this
   exact ⟨(List.pairwise_cons.mp q).1,fun n hn=>q2 n hn x (by simp)⟩
  refine Rk.ok ⟨pre++[x],by simp [e],by simp [l1],fun n hn=>hpx.1 n hn,fun n hn=>?_,fun i h0 h1 hne=>?_⟩
  ·show Tells _ _ _ (gt (cs.set x.1.toNat _) n.1)
   rcases List.mem_append.mp hn with hn | hn
   ·have:=hpx.2 n hn
    have hn':n∈ns:=by rw [← e]; simp [hn]
    rw [gt_set cs x0 (by omega) (hi n hn').1,if_neg (by omega)]
    exact i2 n hn
   ·rw [List.mem_singleton] at hn
    subst hn
    rw [gt_set cs x0 (by omega) x0,if_pos rfl]
    exact ⟨d,rfl,hd⟩
  ·show gt (cs.set x.1.toNat _) i=_
   have hxi:=hne x (by simp)
   rw [gt_set cs x0 (by omega) h0,if_neg fun z=>hxi z.symm]
   exact i3 i h0 h1 fun n hn=>hne n (by simp [hn])
 ·obtain ⟨pre,e,l1,_,i2,i3⟩:=hI
  rw [List.append_nil] at e
  subst e
  exact ⟨l1,i2,i3⟩
 ·have:=(hi n hn).1
  show (-1:Int) < n.1
  omega
end Vm
end
section
set_option linter.all false
set_option maxHeartbeats 1000000
set_option maxRecDepth 10000
namespace Vm
theorem mapR_back{α β:Type}{f:β→Res α}{g:α→β}:∀ {l:List α},(∀ x∈l,f (g x) = .ok x)→mapR f (l.map g) = .ok l
 | [],_=>rfl
 | x :: l,h=>by rw [List.map_cons,mapR,h x (by simp),bind_ok,mapR_back fun y hy=>h y (by simp [hy])]; rfl
theorem ent_chars{o:Option (List Nat)}(h:okW o){c:Nat}(hc:c∈ent o):c=45 ∨ (97≤c∧c≤122):=by
 cases o with
 | none=>left; simpa [ent] using hc
 | some w=>exact .inr ((h w rfl).2.2 c hc)
theorem ent_len{o:Option (List Nat)}(h:okW o):1≤(ent o).length∧(ent o).length≤12:=by
 cases o with
 | none=>exact ⟨by decide,by decide⟩
 | some w=>exact ⟨(h w rfl).1,(h w rfl).2.1⟩
theorem okE_of{o:Option (List Nat)}(h:okW o):okE o:=by have:=(ent_len h).2; unfold okE; omega
theorem ent_back{o:Option (List Nat)}(h:okW o):f_entry_read (ent o) = .ok o:=by
 cases o with
 | none=>rfl
 | some w =>
  obtain ⟨h1,h2,h3⟩:=h w rfl
  have ne:¬ w=[45]:=fun z=>by rw [z] at h3; have:=h3 45 (by simp); omega
  show f_entry_read w=_
  unfold f_entry_read
  rw [decide_eq_false ne,if_neg (by decide)]
  have a1:¬ (w.length:Int) < 1:=by omega
  have a2:¬ (12:Int) < (w.length:Int):=by omega
  have key:=forS_test (F:=fun (s2:Unit) (x3:List Nat)=>((signIn x3 (([97,98,99,100,101,102,103,104,105,106,107,108,109,110,111,112,113,114,115,116,117,118,119,120,121,122]:List Nat))).bind fun z=>Res.ok (!z)).bind fun b4=>if b4 then (Res.exc 4) else (Res.ok (()))) (fun _=>true) 4 (l:=signs w) (fun x hx=>by
   obtain ⟨c,hc,rfl⟩:=List.mem_map.mp hx
   have h4:=h3 c hc
   have:(([97,98,99,100,101,102,103,104,105,106,107,108,109,110,111,112,113,114,115,116,117,118,119,120,121,122]:List Nat).elem c)=true:=by
    obtain ⟨d,rfl⟩:∃ d:Fin 26,c=97+d.val:=⟨⟨c - 97,by omega⟩,by simp; omega⟩
    exact (by decide:∀ d:Fin 26,(([97,98,99,100,101,102,103,104,105,106,107,108,109,110,111,112,113,114,115,116,117,118,119,120,121,122]:List Nat).elem (97+d.val))=true) d
   show Res.bind (Res.bind (Res.ok (List.elem c _)) _) _=_
   rw [this]; rfl)
  rw [key,show ((signs w).all fun _=>true)=true by simp,if_pos rfl,decide_eq_false a1,decide_eq_false a2]
  rfl
theorem num_back{i:Int}(h0:0≤i)(h1:i < 1200):f_number_read (dg i) = .ok i:=by
 have d:=dgok (n:=i.toNat) (by omega)
 unfold dg
 obtain ⟨d1,d2,d3,d4,d5⟩:=d
 generalize hw:natS i.toNat=w at *
 obtain ⟨c,e1,e2⟩:=head_ok d1
 unfold f_number_read
 have hc:(if decide ((w.length:Int) < (1:Int)) then Res.ok true else if decide ((4:Int) < (w.length:Int)) then Res.ok true else if decide ((1:Int) < (w.length:Int)) then ((ixR w ((0:Int))).bind fun z=>Res.ok [z]).bind fun x1=>Res.ok (decide (x1=([48]:List Nat))) else Res.ok false) = .ok false:=by
  rw [decide_eq_false (by omega),if_neg (by decide),decide_eq_false (by omega),if_neg (by decide)]
  by_cases h:1 < w.length
  ·rw [decide_eq_true (by omega),if_pos rfl,e2]
   have:¬ [c]=[48]:=fun z=>d4 ⟨h,by rw [e1]; injection z with z; rw [z]⟩
   simp [this]
  ·rw [decide_eq_false (by omega),if_neg (by decide)]
 rw [hc,bind_ok,if_neg (by decide)]
 have key:=forS_test (F:=fun (s2:Unit) (x3:List Nat)=>((signIn x3 (([48,49,50,51,52,53,54,55,56,57]:List Nat))).bind fun z=>Res.ok (!z)).bind fun b4=>if b4 then (Res.exc 4) else (Res.ok (()))) (fun _=>true) 4 (l:=signs w) (fun x hx=>by
  obtain ⟨c,hc,rfl⟩:=List.mem_map.mp hx
  have h4:=List.all_eq_true.mp d3 c hc
  unfold isFig at h4
  have h4:48≤c∧c≤57:=by simpa using h4
  have:(([48,49,50,51,52,53,54,55,56,57]:List Nat).elem c)=true:=by
   obtain ⟨d,rfl⟩:∃ d:Fin 10,c=48+d.val:=⟨⟨c - 48,by omega⟩,by simp; omega⟩
   exact (by decide:∀ d:Fin 10,(([48,49,50,51,52,53,54,55,56,57]:List Nat).elem (48+d.val))=true) d
  show Res.bind (Res.bind (Res.ok (List.elem c _)) _) _=_
  rw [this]; rfl)
 rw [key]
 have hne:w ≠ []:=fun z=>by rw [z] at d1; simp at d1
 rw [show ((signs w).all fun _=>true)=true by simp,if_pos rfl,bind_ok,show intTR w = .ok (figN w:Int) from if_pos ⟨hne,d3,by omega⟩,bind_ok,d5]
 congr 1
 omega
theorem two_back{c:Nat}{Y a b:List Nat}(h:c ∉ a)(hl:(a++(c :: Y)++b).length≤10000000):f_two_parts (a++(c :: Y)++b) (c :: Y) = .ok (a,b):=by
 unfold f_two_parts
 rw [partR_at h hl,bind_ok,decide_eq_false (by simp),if_neg (by decide)]
theorem rows_chars{l:List Int}(hi:∀ k∈l,0≤k∧k < 1200){c:Nat}(hc:c∈rows30 l):c=44 ∨ (48≤c∧c≤57):=by
 rcases mem_joinL hc with h | ⟨w,hw,hc⟩
 ·left; simpa using h
 ·obtain ⟨k,hk,rfl⟩:=List.mem_map.mp hw
  exact .inr (dg_fig (hi k hk).1 (hi k hk).2 hc)
structure okRdW (r:Rdg):Prop extends okRd r where
 w:okW r.1
 ne:r.2 ≠ []
theorem read_chars{r:Rdg}(h:okRdW r){c:Nat}(hc:c∈readS r):c=45 ∨ c=32 ∨ c=44 ∨ (97≤c∧c≤122) ∨ (48≤c∧c≤57):=by
 unfold readS at hc
 rw [List.mem_append,List.mem_append] at hc
 rcases hc with (hc | hc) | hc
 ·rcases ent_chars h.w hc with z | z
  ·exact .inl z
  ·exact .inr (.inr (.inr (.inl z)))
 ·simp at hc; exact .inr (.inl hc)
 ·rcases rows_chars h.i hc with z | z
  ·exact .inr (.inr (.inl z))
  ·exact .inr (.inr (.inr (.inr z)))
structure okNtW (n:Int×List Rdg):Prop where
 o:okNt n
 r:∀ r∈n.2,okRdW r
 ne:n.2 ≠ []
theorem note_chars{n:Int×List Rdg}(h:okNtW n){c:Nat}(hc:c∈noteS n):32≤c:=by
 unfold noteS readsS at hc
 rw [List.mem_append,List.mem_append] at hc
 rcases hc with (hc | hc) | hc
 ·have:=dg_fig h.o.k0 h.o.k1 hc; omega
 ·simp at hc; omega
 ·rcases mem_joinL hc with hc | ⟨w,hw,hc⟩
  ·simp at hc; omega
  ·obtain ⟨r,hr,rfl⟩:=List.mem_map.mp hw
   have:=read_chars (h.r r hr) hc; omega
theorem head_chars{es:List Ent}(h:∀ o∈es,okW o){c:Nat}(hc:c∈headS es):32≤c:=by
 rcases mem_joinL hc with hc | ⟨w,hw,hc⟩
 ·simp at hc; omega
 ·obtain ⟨o,ho,rfl⟩:=List.mem_map.mp hw
  have:=ent_chars (h o ho) hc; omega
end Vm
end
section
set_option linter.all false
set_option maxHeartbeats 1000000
set_option maxRecDepth 10000
namespace Vm
def gd:Nat→PV→Prop
 | 0,_=>False
 | n+1,.tup l=>l.length≤100000∧∀ p∈l,gd n p
 | n+1,.int _=>True
 | n+1,.str _=>True
 | n+1,.non=>True
 | n+1,_=>False
theorem same_refl:∀ (n:Nat) (p:PV),gd n p→d_law_same_v1 n [p,p] = .ok (.fz,.bl true)
 | 0,p,h=>h.elim
 | n+1,.int i,_=>by simp [d_law_same_v1,runFn,kindIs]
 | n+1,.str w,_=>by simp [d_law_same_v1,runFn,kindIs]
 | n+1,.non,_=>by simp [d_law_same_v1,runFn,kindIs]
 | n+1,.bl _,h=>h.elim
 | n+1,.lst _,h=>h.elim
 | n+1,.dic _ _,h=>h.elim
 | n+1,.tup l,⟨h0,h⟩=>by
  have key:lcGo [some (Tg.fz,PV.tup l),some (Tg.fz,PV.tup l),none] (Pat.v 2) xYes (eCall (d_law_same_v1 n) (eCons (eIdx (eVar 0) (eVar 2)) (eCons (eIdx (eVar 1) (eVar 2)) eNil))) ((rngL 0 (l.length:Int)).map fun p=>(Tg.fz,p)) = .ok (((List.range l.length).map fun _=>true).map .bl):=by
   rw [rng0_eq',List.map_map]
   exact lcGo_map _ (fun _=>PV.bl true) _ (fun k hk=>by
    have hk:k < l.length:=by simpa using hk
    have hv:=vAt_int (xs:=l) (i:=(k:Int)) (by omega) (by omega)
    simp only [Int.toNat_natCast] at hv
    have ih:=same_refl n l[k] (h _ (List.getElem_mem _))
    simp [lcOne,hv,ih])
  have hr:rngOk (l.length:Int)=true:=rngOk_of (by omega) (by omega)
  have hall:allBl (((List.range l.length).map fun _=>true).map .bl) = .ok true:=by rw [allBl_map]; simp
  have hlen:(((List.range l.length).map fun _=>true).map PV.bl).length≤16777216:=by simp; omega
  simp [d_law_same_v1,runFn,kindIs,hr,-List.map_map]
  rw [key]
  simp only [Res.bind,if_pos hlen,hall]
theorem same_ok{p:PV}(h:gd 8 p):f_law_same_v1 8 p p = .ok true:=by
 unfold f_law_same_v1
 simp only [kV]
 rw [same_refl 8 p h]; rfl
theorem gdI(n:Nat)(i:Int):gd (n+1) (kI i):=trivial
theorem gdS(n:Nat)(w:List Nat):gd (n+1) (kS w):=trivial
theorem gdO{α:Type}{k:α→PV}{n:Nat}(h:∀ a,gd (n+1) (k a))(o:Option α):gd (n+1) (kO k o):=by
 cases o with
 | none=>exact trivial
 | some a=>exact h a
theorem gdT{α:Type}{k:α→PV}{n:Nat}{l:List α}(hl:l.length≤100000)(h:∀ x∈l,gd n (k x)):gd (n+1) (kT k l):=⟨by simpa using hl,fun q hq=>by
 obtain ⟨x,hx,rfl⟩:=List.mem_map.mp hq
 exact h x hx⟩
theorem gdP{α β:Type}{k:α→PV}{m:β→PV}{n:Nat}{x:α×β}(h1:gd n (k x.1))(h2:gd n (m x.2)):gd (n+1) (kP2 k m x):=⟨by show (2:Nat)≤100000; decide,fun q hq=>by
 rcases List.mem_cons.mp hq with rfl | hq
 ·exact h1
 ·rw [List.mem_singleton] at hq; rw [hq]; exact h2⟩
end Vm
end
section
set_option linter.all false
set_option maxHeartbeats 1000000
set_option maxRecDepth 100000
namespace Vm
theorem mapR_backcap{α β:Type}{f:β→Res α}{g:α→β}{l:List α}(h:∀ x∈l,f (g x) = .ok x)(hl:l.length≤16777216):capR (l.map g).length (mapR f (l.map g)) = .ok l:=by
 unfold capR
 rw [List.length_map,if_pos hl,mapR_back h]
 exact (if_pos hl)
theorem reading_back{r:Rdg}(h:okRdW r):f_reading_read (readS r) = .ok r:=by
 have hl:=readS_le h.tookRd
 have hj:=(rows_ok h.n h.i).2
 unfold f_reading_read
 have e:f_two_parts (readS r) [32] = .ok (ent r.1,rows30 r.2):=two_back (c:=32) (Y:=[]) (fun z=>by rcases ent_chars h.w z with z | z <;> omega) (by unfold readS at hl; omega)
 rw [e,bind_ok,ent_back h.w,bind_ok]
 have hs:splitR (rows30 r.2) [44] = .ok (r.2.map dg):=splitR_join (c:=44) (Y:=[]) (by simpa using h.ne) (fun w hw z=>by
  obtain ⟨k,hk,rfl⟩:=List.mem_map.mp hw
  have:=dg_fig (h.i k hk).1 (h.i k hk).2 z; omega) (by unfold rows30 at hj; omega)
 rw [hs,bind_ok,mapR_backcap (fun k hk=>num_back (h.i k hk).1 (h.i k hk).2) (by have:=h.n; omega)]
 rfl
theorem note_back{n:Int×List Rdg}(h:okNtW n):f_note_read (noteS n) = .ok n:=by
 have hl:=noteS_le h.o
 unfold f_note_read
 have e:f_two_parts (noteS n) [58,32] = .ok (dg n.1,readsS n.2):=two_back (c:=58) (Y:=[32]) (fun z=>by have:=dg_fig h.o.k0 h.o.k1 z; omega) (by unfold noteS at hl; omega)
 rw [e,bind_ok,num_back h.o.k0 h.o.k1,bind_ok]
 have hj:=Nat.le_trans joinL_len' (reads_b h.o.l h.o.r)
 have hs:splitR (readsS n.2) [59,32] = .ok (n.2.map readS):=splitR_join (c:=59) (Y:=[32]) (by simpa using h.ne) (fun w hw z=>by
  obtain ⟨r,hr,rfl⟩:=List.mem_map.mp hw
  have:=read_chars (h.r r hr) z; omega) (by omega)
 rw [hs,bind_ok,mapR_backcap (fun r hr=>reading_back (h.r r hr)) (by have:=h.o.l; omega)]
 rfl
theorem appread_ok{es:List Ent}{ns:List Nte}(hl:es.length≤1200)(h:∀ o∈es,okW o)(hn:ns.length≤1200)(hN:∀ n∈ns,okNtW n)(hb:NotesOk es 30 ns):f_apparatus_read (appS es ns) = .ok (es,ns):=by
 have hE:∀ o∈es,okE o:=fun o ho=>okE_of (h o ho)
 have hlen:=Nat.le_trans joinL_len' (app_b hl hE hn fun n hn=>(hN n hn).o)
 have hh:=Nat.le_trans joinL_len' (head_b hl hE)
 unfold f_apparatus_read
 have hs:splitR (appS es ns) [10] = .ok (headS es :: ns.map noteS):=splitR_join (c:=10) (Y:=[]) (by simp) (fun w hw z=>by
  rcases List.mem_cons.mp hw with rfl | hw
  ·have:=head_chars h z; omega
  ·obtain ⟨n,hn,rfl⟩:=List.mem_map.mp hw
   have:=note_chars (hN n hn) z; omega) (by omega)
 rw [hs,bind_ok]
 have h0:ixR (headS es :: ns.map noteS) 0 = .ok (headS es):=ixR_gt (l:=headS es :: ns.map noteS) (i:=0) (by decide) (by simp)
 have hcut:cutL (headS es :: ns.map noteS) (some (1:Int)) none=ns.map noteS:=by rw [cut_drop (by decide)]; rfl
 refine Rk.eq ?_
 refine Rk.bind (P:=fun s=>s=es) ?_ fun s hse=>?_
 ·simp only [h0,bind_ok]
  refine Rk.itb (fun q=>?_) fun q=>?_
  ·have hne:es ≠ []:=fun z=>by subst z; simp [headS,joinL] at q
   have hsp:splitR (headS es) [32,124,32] = .ok (es.map ent):=splitR_join (c:=32) (Y:=[124,32]) (by simpa using hne) (fun w hw z=>by
    obtain ⟨o,ho,rfl⟩:=List.mem_map.mp hw
    have:=ent_chars (h o ho) z; omega) (Nat.le_trans hh (by decide))
   rw [hsp,bind_ok,mapR_backcap (fun o ho=>ent_back (h o ho)) (by omega)]
   exact Rk.ok rfl
  ·have:es=[]:=by
    cases es with
    | nil=>rfl
    | cons o es =>
     exfalso
     have hne:headS (o :: es) ≠ []:=joinL_ne (fun z=>by have:=(ent_len (h o (by simp))).1; rw [z] at this; simp at this)
     simp [hne] at q
   exact Rk.ok this.symm
 ·subst hse
  rw [hcut,mapR_backcap (fun n hn=>note_back (hN n hn)) (by omega),bind_ok]
  obtain ⟨cs,c1,_⟩:=collback_ok (many:=30) hb (by decide) hl
  have c1:f_collation_back s 30 ns = .ok cs:=c1
  rw [c1]
  exact Rk.ok rfl
def refused:List Nat×Option (List Ent×List Nte):=([114,101,102,117,115,101,100],none)
theorem asked_exc{t:List Nat}(h:f_apparatus_read t = .exc 4):f_law_asked_v1 t = .ok refused:=by
 unfold f_law_asked_v1
 rw [h]
 rfl
theorem asked_told{t:List Nat}{x:List Ent×List Nte}(h:f_apparatus_read t = .ok x):f_law_asked_v1 t = .ok ([116,111,108,100],some x):=by
 unfold f_law_asked_v1
 rw [h]
 rfl
end Vm
end
section
set_option linter.all false
set_option maxHeartbeats 1000000
set_option maxRecDepth 10000
namespace Vm
def Xk{α:Type}(r:Res α)(P:α→Prop):Prop:=r = .exc 4 ∨ ∃ x,r = .ok x∧P x
theorem Xk.ok{α:Type}{x:α}{P:α→Prop}(h:P x):Xk (.ok x) P:=.inr ⟨x,rfl,h⟩
theorem Xk.exc{α:Type}{P:α→Prop}:Xk (.exc 4:Res α) P:=.inl rfl
theorem Xk.bind{α β:Type}{r:Res α}{P:α→Prop}{f:α→Res β}{Q:β→Prop}(h:Xk r P)(k:∀ x,P x→Xk (f x) Q):Xk (r.bind f) Q:=by
 rcases h with h | ⟨x,h,p⟩
 ·rw [h]; exact .inl rfl
 ·rw [h]; exact k x p
theorem Xk.mono{α:Type}{r:Res α}{P Q:α→Prop}(h:Xk r P)(k:∀ x,P x→Q x):Xk r Q:=by
 rcases h with h | ⟨x,h,p⟩
 ·exact .inl h
 ·exact .inr ⟨x,h,k x p⟩
theorem Xk.forS{σ ι:Type}{F:σ→ι→Res σ}(I:List ι→σ→Prop)(hs:∀ pre x s,I pre s→Xk (F s x) (I (pre++[x]))):∀ (l pre:List ι) (s:σ),I pre s→Xk (Vm.forS F l s) (I (pre++l))
 | [],pre,s,h=>by rw [List.append_nil]; exact Xk.ok h
 | x :: l,pre,s,h=>by
  rw [Vm.forS]
  refine Xk.bind (hs pre x s h) fun s' h'=>?_
  have:=Xk.forS I hs l (pre++[x]) s' h'
  rw [List.append_assoc] at this
  exact this
def RwsOk(rows:List Int)(many:Int)(d:List (Int×Ent)):Prop:=rows ≠ []∧rows.Pairwise (· < ·)∧∀ k∈rows,1≤k∧k < many∧dfind d k=none
theorem rows_conv(rows:List Int)(many:Int)(d:List (Int×Ent)):Xk (f_look_rows rows many d) fun _=>RwsOk rows many d:=by
 unfold f_look_rows
 by_cases h0:(rows.length:Int)=0
 ·rw [if_pos (decide_eq_true h0)]; exact Xk.exc
 ·rw [if_neg (by simpa using h0)]
  have hne:rows ≠ []:=fun e=>h0 (by rw [e]; rfl)
  refine Xk.bind (Xk.forS (fun pre (s:Int)=>0≤s∧pre.Pairwise (· < ·)∧∀ k∈pre,k≤s∧1≤k∧k < many∧dfind d k=none) (fun pre x s hI=>?_) rows [] 0 ⟨by decide,.nil,fun _ h=>(nomatch h)⟩) fun s hs=>Xk.ok ⟨hne,hs.2.1,fun k hk=>(hs.2.2 k hk).2⟩
  obtain ⟨i0,i1,i2⟩:=hI
  by_cases c1:x≤s
  ·rw [if_pos (decide_eq_true c1),bind_ok]; exact Xk.exc
  by_cases c2:many≤x
  ·rw [if_neg (by simpa using c1),if_pos (decide_eq_true c2),bind_ok]; exact Xk.exc
  rw [if_neg (by simpa using c1),if_neg (by simpa using c2),bind_ok]
  cases c3:dfind d x with
  | some _=>exact Xk.exc
  | none =>
   refine Xk.ok ⟨by omega,List.pairwise_append.mpr ⟨i1,List.pairwise_singleton _ _,fun a ha b hb=>?_⟩,fun k hk=>?_⟩
   ·rw [List.mem_singleton] at hb
    have:=(i2 a ha).1
    omega
   ·rcases List.mem_append.mp hk with q | q
    ·obtain ⟨a,b⟩:=i2 k q
     exact ⟨by omega,b⟩
    ·rw [List.mem_singleton] at q
     rw [q]
     exact ⟨by omega,by omega,by omega,c3⟩
theorem put_all(v:Ent):∀ (rows:List Int) (d:List (Int×Ent)),d.length+rows.length≤16777216→Rk (forS (fun (s13:List (Int×Ent)) (x14:Int)=>(dputR s13 x14 v).bind fun (s15:List (Int×Ent))=>Res.ok s15) rows d) fun d'=>d'.length≤d.length+rows.length∧(∀ k∈rows,(dfind d' k).isSome=true)∧∀ k,(dfind d k).isSome=true→(dfind d' k).isSome=true
 | [],d,_=>Rk.ok ⟨by simp,fun _ h=>(nomatch h),fun _ h=>h⟩
 | x :: rows,d,h=>by
  rw [forS]
  rw [List.length_cons] at h
  rw [dputR_ok (by omega),bind_ok,bind_ok]
  have hl:=dputLen x v d
  refine Rk.mono (put_all v rows (dput d x v) (by omega)) fun d' ⟨a,b,e⟩=>⟨by rw [List.length_cons]; omega,fun k hk=>?_,fun k hk=>e k ?_⟩
  ·rcases List.mem_cons.mp hk with q | q
   ·rw [q]
    exact e x (by rw [dfindPut,if_pos rfl]; rfl)
   ·exact b k q
  ·rw [dfindPut]
   by_cases q:k=x
   ·rw [if_pos q]; rfl
   ·rw [if_neg q]; exact hk
theorem reads_conv{b:Ent}{many:Int}{rs:List Rdg}(hn:rs.length≤1000)(hr:∀ r∈rs,r.2.length≤1000):Xk (f_look_readings b rs many) fun _=>RdsOk b many rs:=by
 unfold f_look_readings
 by_cases h0:(rs.length:Int)=0
 ·rw [if_pos (decide_eq_true h0)]; exact Xk.exc
 rw [if_neg (by simpa using h0)]
 have hne:rs ≠ []:=fun e=>h0 (by rw [e]; rfl)
 have key:∀ (l pre:List Rdg) (s:List (Int×Ent)×List Ent×Int),pre++l=rs→((∀ r∈pre,RdOk b many r)∧pre.Pairwise Before∧(∀ r∈pre,r.1∈s.2.1)∧(∀ r∈pre,∀ k∈r.2,(dfind s.1 k).isSome=true)∧(∀ r∈pre,gt r.2 0≤s.2.2)∧s.2.1.length≤pre.length∧s.1.length≤1000 * pre.length) →
   Xk (forS (fun (s4:((List ((Int)×(Option (List Nat))))×(List (Option (List Nat)))×(Int))) (x5:((Option (List Nat))×List (Int)))=>(if decide (x5.1=b) then Res.ok true else Res.ok (memB x5.1 s4.2.1)).bind fun b18=>if b18 then (Res.exc 4) else (((f_look_rows x5.2 many s4.1).bind fun _=>Res.ok ()).bind fun (s9:Unit)=>((ixR x5.2 ((0:Int))).bind fun x10=>Res.ok (decide (x10≤s4.2.2))).bind fun b17=>if b17 then (Res.exc 4) else ((ixR x5.2 ((0:Int))).bind fun (s11:Int)=>(appR s4.2.1 x5.1).bind fun (s12:List (Option (List Nat)))=>(forS (fun (s13:((List ((Int)×(Option (List Nat)))))) (x14:Int)=>(dputR s13 x14 x5.1).bind fun (s15:List ((Int)×(Option (List Nat))))=>Res.ok s15) x5.2 s4.1).bind fun (s16:((List ((Int)×(Option (List Nat))))))=>Res.ok ((s16,s12,s11))))) l s) fun _=>(∀ r∈rs,RdOk b many r)∧rs.Pairwise Before:=by
  intro l
  induction l with
  | nil =>
   intro pre s e h
   rw [List.append_nil] at e
   subst e
   exact Xk.ok ⟨h.1,h.2.1⟩
  | cons x l ih =>
   intro pre s e h
   obtain ⟨d,seen,last⟩:=s
   obtain ⟨i1,i2,i3,i4,i5,i6,i7⟩:=h
   have hx:x∈rs:=by rw [← e]; simp
   have hx2:=hr x hx
   have hpl:pre.length+1≤1000:=by have:=congrArg List.length e; simp at this; omega
   simp only at i3 i4 i5 i6 i7
   rw [forS]
   simp only
   by_cases c1:x.1=b
   ·rw [if_pos (decide_eq_true c1),bind_ok]; exact Xk.bind (P:=fun _=>False) Xk.exc fun _ h=>h.elim
   rw [if_neg (by simpa using c1),bind_ok]
   by_cases c2:memB x.1 seen=true
   ·rw [if_pos c2]; exact Xk.bind (P:=fun _=>False) Xk.exc fun _ h=>h.elim
   rw [if_neg c2]
   have c2':x.1 ∉ seen:=fun q=>c2 (memB_iff.mpr q)
   rcases rows_conv x.2 many d with q | ⟨_,q,r1,r2,r3⟩
   ·rw [q]; exact .inl rfl
   rw [q,bind_ok,bind_ok]
   have hpos:=List.length_pos_iff.mpr r1
   have h0':ixR x.2 0 = .ok (gt x.2 0):=ixR_gt (by omega) (by omega)
   rw [h0',bind_ok,bind_ok]
   by_cases c3:gt x.2 0≤last
   ·rw [if_pos (decide_eq_true c3)]; exact Xk.bind (P:=fun _=>False) Xk.exc fun _ h=>h.elim
   rw [if_neg (by simpa using c3),bind_ok,appR_ok (by omega),bind_ok]
   obtain ⟨d',q1,q2,q3,q4⟩:=put_all x.1 x.2 d (by omega)
   rw [q1,bind_ok,bind_ok]
   refine ih (pre++[x]) _ (by rw [List.append_assoc]; exact e) ⟨?_,?_,?_,?_,?_,?_,?_⟩
   ·intro r hrr
    rcases List.mem_append.mp hrr with w | w
    ·exact i1 r w
    ·rw [List.mem_singleton] at w
     rw [w]
     exact ⟨c1,r1,r2,fun k hk=>⟨(r3 k hk).1,(r3 k hk).2.1⟩⟩
   ·refine List.pairwise_append.mpr ⟨i2,List.pairwise_singleton _ _,fun r hrr y hy=>?_⟩
    rw [List.mem_singleton] at hy
    rw [hy]
    refine ⟨fun w=>c2' (by rw [← w]; exact i3 r hrr),fun k hk hk2=>?_,by have:=i5 r hrr; omega⟩
    have a:=i4 r hrr k hk
    rw [(r3 k hk2).2.2] at a
    cases a
   ·intro r hrr
    rcases List.mem_append.mp hrr with w | w
    ·exact List.mem_append_left _ (i3 r w)
    ·rw [List.mem_singleton] at w; rw [w]; simp
   ·intro r hrr k hk
    rcases List.mem_append.mp hrr with w | w
    ·exact q4 k (i4 r w k hk)
    ·rw [List.mem_singleton] at w; rw [w] at hk; exact q3 k hk
   ·intro r hrr
    rcases List.mem_append.mp hrr with w | w
    ·have:=i5 r w
     show _≤gt x.2 0
     omega
    ·rw [List.mem_singleton] at w; rw [w]; exact Int.le_refl _
   ·show (seen++[x.1]).length≤(pre++[x]).length
    rw [List.length_append,List.length_append,List.length_singleton,List.length_singleton]; omega
   ·show d'.length≤1000 * (pre++[x]).length
    rw [List.length_append,List.length_singleton]; omega
 refine Xk.bind (key rs [] _ rfl ⟨fun _ h=>(nomatch h),.nil,fun _ h=>(nomatch h),fun _ h=>(nomatch h),fun _ h=>(nomatch h),by simp,by simp⟩) fun s hs=>Xk.ok ⟨hne,hs.1,hs.2⟩
end Vm
end
section
set_option linter.all false
set_option maxHeartbeats 1000000
set_option maxRecDepth 10000
namespace Vm
theorem coll_conv{es:List Ent}{many:Nat}{ns:List Nte}(hm:many≤1000)(he:es.length≤1200)(hr:∀ n∈ns,n.2.length≤1000∧∀ r∈n.2,r.2.length≤1000):Xk (f_collation_back es (many:Int) ns) fun _=>NotesOk es many ns:=by
 unfold f_collation_back
 rw [mapR_sz (fun e=>backOf e many []) (fun e _=>colback_ok hm) (by omega),bind_ok]
 have key:∀ (l pre:List Nte) (s:List Col×Int),pre++l=ns→(s.1.length=es.length∧-1≤s.2∧pre.Pairwise (fun m n=>m.1 < n.1)∧∀ n∈pre,n.1≤s.2∧0≤n.1∧n.1 < es.length∧RdsOk (gt es n.1) many n.2) →
   Xk (forS (fun (s7:((List (List (Option (List Nat))))×(Int))) (x8:((Int)×List (((Option (List Nat))×List (Int)))))=>(if decide (x8.1≤s7.2) then Res.ok true else Res.ok (decide ((es.length:Int)≤x8.1))).bind fun b38=>if b38 then (Res.exc 4) else (let s9:Int:=x8.1; (((ixR es x8.1).bind fun x34=>((ixR es x8.1).bind fun x30=>f_look_readings x30 x8.2 (many:Int)).bind fun x35=>f_column_back x34 (many:Int) x35).bind fun x36=>setR s7.1 x8.1 x36).bind fun (s37:List (List (Option (List Nat))))=>Res.ok ((s37,s9)))) l s) fun _=>NotesOk es many ns:=by
  intro l
  induction l with
  | nil =>
   intro pre s e h
   rw [List.append_nil] at e
   subst e
   exact Xk.ok ⟨h.2.2.1,fun n hn=>⟨(h.2.2.2 n hn).2.1,(h.2.2.2 n hn).2.2.1⟩,fun n hn=>⟨(h.2.2.2 n hn).2.2.2,(hr n hn).1,(hr n hn).2⟩⟩
  | cons x l ih =>
   intro pre s e h
   obtain ⟨cols,last⟩:=s
   obtain ⟨i1,i2,i3,i4⟩:=h
   have hx:x∈ns:=by rw [← e]; simp
   simp only at i1 i2 i4
   rw [forS]
   simp only
   by_cases c1:x.1≤last
   ·rw [if_pos (decide_eq_true c1),bind_ok]; exact Xk.bind (P:=fun _=>False) Xk.exc fun _ h=>h.elim
   rw [if_neg (by simpa using c1),bind_ok]
   by_cases c2:(es.length:Int)≤x.1
   ·rw [if_pos (decide_eq_true c2)]; exact Xk.bind (P:=fun _=>False) Xk.exc fun _ h=>h.elim
   rw [if_neg (by simpa using c2)]
   have x0:0≤x.1:=by omega
   rw [ixR_gt x0 (by omega),bind_ok,bind_ok]
   rcases reads_conv (b:=gt es x.1) (many:=(many:Int)) (rs:=x.2) (hr x hx).1 (hr x hx).2 with q | ⟨d,q,hd⟩
   ·rw [q]; exact .inl rfl
   rw [q,bind_ok,colback_ok hm,bind_ok,setR_ok x0 (by omega),bind_ok,bind_ok]
   refine ih (pre++[x]) _ (by rw [List.append_assoc]; exact e) ⟨by simp [i1],by show -1≤x.1; omega,?_,?_⟩
   ·refine List.pairwise_append.mpr ⟨i3,List.pairwise_singleton _ _,fun r hrr y hy=>?_⟩
    rw [List.mem_singleton] at hy
    rw [hy]
    have:=(i4 r hrr).1
    omega
   ·intro n hn
    rcases List.mem_append.mp hn with w | w
    ·obtain ⟨a,b⟩:=i4 n w
     exact ⟨by show n.1≤x.1; omega,b⟩
    ·rw [List.mem_singleton] at w
     rw [w]
     exact ⟨Int.le_refl _,x0,by omega,hd⟩
 exact Xk.bind (key ns [] _ rfl ⟨by simp,Int.le_refl _,.nil,fun _ h=>(nomatch h)⟩) fun s hs=>Xk.ok hs
end Vm
end
section
set_option linter.all false
set_option maxHeartbeats 1000000
set_option maxRecDepth 100000
namespace Vm
theorem mapR_conv{α β:Type}{f:α→Res β}{P:α→Prop}(hf:∀ x,Xk (f x) fun _=>P x):∀ l:List α,Xk (mapR f l) fun ys=>ys.length=l.length∧∀ x∈l,P x
 | []=>Xk.ok ⟨rfl,by simp⟩
 | x :: l=>by
  rcases hf x with e | ⟨y,e,p⟩
  ·left; rw [mapR,e]; rfl
  ·rcases mapR_conv hf l with e' | ⟨ys,e',p'⟩
   ·left; rw [mapR,e,bind_ok,e']; rfl
   ·right
    refine ⟨y :: ys,by rw [mapR,e,bind_ok,e']; rfl,by simp [p'.1],?_⟩
    intro z hz
    rcases List.mem_cons.mp hz with rfl | hz
    ·exact p
    ·exact p'.2 z hz
def letter(c:Nat):Prop:=97≤c∧c≤122
def EntT(w:List Nat):Prop:=w=[45] ∨ (1≤w.length∧w.length≤12∧∀ c∈w,letter c)
theorem forS_letters:∀ w:List Nat,Xk (forS (fun (s2:Unit) (x3:List Nat)=>((signIn x3 (([97,98,99,100,101,102,103,104,105,106,107,108,109,110,111,112,113,114,115,116,117,118,119,120,121,122]:List Nat))).bind fun z=>Res.ok (!z)).bind fun b4=>if b4 then (Res.exc 4) else (Res.ok (()))) (signs w) ()) fun _=>∀ c∈w,letter c
 | []=>Xk.ok (by simp)
 | c :: w=>by
  show Xk (Res.bind (Res.bind (Res.bind (Res.ok (List.elem c _)) _) _) _) _
  by_cases h:letter c
  ·have:(([97,98,99,100,101,102,103,104,105,106,107,108,109,110,111,112,113,114,115,116,117,118,119,120,121,122]:List Nat).elem c)=true:=by
    obtain ⟨d,rfl⟩:∃ d:Fin 26,c=97+d.val:=⟨⟨c - 97,by unfold letter at h; omega⟩,by unfold letter at h; simp; omega⟩
    exact (by decide:∀ d:Fin 26,(([97,98,99,100,101,102,103,104,105,106,107,108,109,110,111,112,113,114,115,116,117,118,119,120,121,122]:List Nat).elem (97+d.val))=true) d
   rw [this]
   rcases forS_letters w with e | ⟨x,e,p⟩
   ·left; exact e
   ·right; refine ⟨x,e,?_⟩
    intro z hz
    rcases List.mem_cons.mp hz with rfl | hz
    ·exact h
    ·exact p z hz
  ·have:(([97,98,99,100,101,102,103,104,105,106,107,108,109,110,111,112,113,114,115,116,117,118,119,120,121,122]:List Nat).elem c)=false:=by
    cases hh:(([97,98,99,100,101,102,103,104,105,106,107,108,109,110,111,112,113,114,115,116,117,118,119,120,121,122]:List Nat).elem c) with
    | false=>rfl
    | true =>
     exfalso; apply h
     have:=List.elem_iff.mp hh
     simp at this
     unfold letter; omega
   rw [this]
   left; rfl
theorem ent_conv(w:List Nat):Xk (f_entry_read w) fun _=>EntT w:=by
 unfold f_entry_read
 by_cases h0:w=[45]
 ·rw [decide_eq_true h0,if_pos rfl]; exact Xk.ok (.inl h0)
 ·rw [decide_eq_false h0,if_neg (by decide)]
  by_cases h1:(w.length:Int) < 1
  ·rw [decide_eq_true h1]; exact Xk.exc
  ·rw [decide_eq_false h1]
   by_cases h2:(12:Int) < (w.length:Int)
   ·rw [decide_eq_true h2]; exact Xk.exc
   ·rw [decide_eq_false h2]
    rcases forS_letters w with e | ⟨x,e,p⟩
    ·left; rw [e]; rfl
    ·right; refine ⟨some w,by rw [e]; rfl,.inr ⟨by omega,by omega,p⟩⟩
theorem head_bad{t h:List Nat}{ls:List (List Nat)}(hl:t.length≤10000)(hs:splS [10] t 0 []=h :: ls)(hh:h ≠ [])(hb:h.length≤10000)(hp:(splS [32,124,32] h 0 []).length≤10000)(p:List Nat)(hp1:p∈splS [32,124,32] h 0 [])(hp2:¬ EntT p):f_apparatus_read t = .exc 4:=by
 unfold f_apparatus_read
 have e1:splitR t [10] = .ok (h :: ls):=by unfold splitR; rw [if_pos ⟨by decide,by omega⟩,hs]
 have e2:splitR h [32,124,32] = .ok (splS [32,124,32] h 0 []):=by unfold splitR; rw [if_pos ⟨by decide,by omega⟩]
 have e0:ixR (h :: ls) 0 = .ok h:=ixR_gt (l:=h :: ls) (i:=0) (by decide) (by simp)
 rw [e1,bind_ok]
 simp only [e0,bind_ok]
 rw [decide_eq_false hh]
 rcases mapR_conv ent_conv (splS [32,124,32] h 0 []) with e | ⟨x,e,q⟩
 ·simp only [Bool.not_false,if_pos,e2,bind_ok]
  unfold capR
  rw [if_pos (by omega),e]
  rfl
 ·exact absurd (q.2 p hp1) hp2
theorem splc_word{c:Nat}{Y:List Nat}:∀ (w acc r:List Nat),c ∉ w→splS (c :: Y) (w++r) 0 acc=splS (c :: Y) r 0 (w.reverse++acc)
 | [],acc,r,_=>rfl
 | d :: w,acc,r,h=>by
  have hc:c ≠ d:=fun e=>h (by simp [e])
  have:=splc_word (c:=c) (Y:=Y) w (d :: acc) r fun e=>h (List.mem_cons_of_mem _ e)
  show splS (c :: Y) (d :: (w++r)) 0 acc=_
  rw [splS,notPrefix hc,if_neg (by decide),this]
  simp
end Vm
end
section
set_option linter.all false
set_option maxHeartbeats 1000000
set_option maxRecDepth 100000
namespace Vm
theorem fine_no{w:List Nat}(h:fine w){c:Nat}(hc:¬ letter c):c ∉ w:=fun z=>hc (h.2.2 c z)
theorem l10:¬ letter 10:=by unfold letter; omega
theorem l32:¬ letter 32:=by unfold letter; omega
theorem fine_ne{w:List Nat}(h:fine w):w ≠ []:=fun e=>by rw [e] at h; exact absurd h.1 (by decide)
theorem notEnt{w:List Nat}{c:Nat}(hc:c∈w)(hl:¬ letter c)(h:w ≠ [45]):¬ EntT w:=fun e=>by
 rcases e with e | e
 ·exact h e
 ·exact hl (e.2.2 c hc)
theorem notEnt0:¬ EntT []:=fun e=>by rcases e with e | e <;> simp at e
theorem cut_w{w r:List Nat}{c:Nat}{Y:List Nat}(h:c ∉ w):splS (c :: Y) (w++r) 0 []=splS (c :: Y) r 0 w.reverse:=by
 rw [splc_word w [] r h,List.append_nil]
def Bad(t:List Nat):Prop:=f_apparatus_read t = .exc 4
theorem one_bad{t:List Nat}(hl:t.length≤10000)(h10:10 ∉ t)(ht:t ≠ [])(q:List (List Nat))(hq:splS [32,124,32] t 0 []=q)(hq2:q.length≤10000)(p:List Nat)(hp:p∈q)(hn:¬ EntT p):Bad t:=by
 refine head_bad (h:=t) (ls:=[]) hl ?_ ht hl (by rw [hq]; exact hq2) p (by rw [hq]; exact hp) hn
 rw [splc_last t [] h10]; rfl
theorem mapR_len'{α β:Type}{f:α→Res β}:∀ {l:List α} {ys:List β},mapR f l = .ok ys→ys.length=l.length
 | [],ys,h=>by cases h; rfl
 | x :: l,ys,h=>by
  rw [mapR] at h
  cases hx:f x with
  | ok y =>
   rw [hx,bind_ok] at h
   cases hl:mapR f l with
   | ok zs=>rw [hl,bind_ok] at h; cases h; simp [mapR_len' hl]
   | exc c=>rw [hl] at h; cases h
   | bad=>rw [hl] at h; cases h
  | exc c=>rw [hx] at h; cases h
  | bad=>rw [hx] at h; cases h
theorem notPre{c:Nat}{Y w:List Nat}(h:c ∉ w):(c :: Y).isPrefixOf w=false:=by
 cases w with
 | nil=>rfl
 | cons d w=>exact notPrefix fun e=>h (by simp [e])
theorem lines_bad{t:List Nat}{es:List Ent}{ls:List (List Nat)}(hl:t.length≤1000000)(hne:es ≠ [])(he:es.length≤1200)(hW:∀ o∈es,okW o)(hs:splS [10] t 0 []=headS es :: ls)(hls:ls.length≤1200)(hb:((mapR f_note_read ls).bind fun ns=>f_collation_back es 30 ns) = .exc 4):Bad t:=by
 unfold Bad f_apparatus_read
 have e1:splitR t [10] = .ok (headS es :: ls):=by unfold splitR; rw [if_pos ⟨by decide,by omega⟩,hs]
 have hE:∀ o∈es,okE o:=fun o ho=>okE_of (hW o ho)
 have hh:=Nat.le_trans joinL_len' (head_b he hE)
 have e2:splitR (headS es) [32,124,32] = .ok (es.map ent):=splitR_join (c:=32) (Y:=[124,32]) (by simpa using hne) (fun w hw z=>by
    obtain ⟨o,ho,rfl⟩:=List.mem_map.mp hw
    have:=ent_chars (hW o ho) z; omega) (Nat.le_trans hh (by decide))
 have e0:ixR (headS es :: ls) 0 = .ok (headS es):=ixR_gt (l:=headS es :: ls) (i:=0) (by decide) (by simp)
 have hcut:cutL (headS es :: ls) (some (1:Int)) none=ls:=by rw [cut_drop (by decide)]; rfl
 have hne2:headS es ≠ []:=by
  cases es with
  | nil=>exact absurd rfl hne
  | cons o es=>exact joinL_ne (fun z=>by have:=(ent_len (hW o (by simp))).1; rw [z] at this; simp at this)
 rw [e1,bind_ok]
 simp only [e0,bind_ok]
 rw [decide_eq_false hne2]
 simp only [Bool.not_false,if_pos,e2,bind_ok]
 rw [mapR_backcap (fun o ho=>ent_back (hW o ho)) (by omega),bind_ok,bind_ok,hcut]
 unfold capR
 rw [if_pos (by omega)]
 cases hm:mapR f_note_read ls with
 | ok ns =>
  rw [hm,bind_ok] at hb
  have hz:szR ns = .ok ns:=by
   unfold szR
   have:=mapR_len' hm
   rw [if_pos (by omega)]
  rw [bind_ok,hz,bind_ok,hb]
  rfl
 | exc c =>
  rw [hm] at hb
  have:c=4:=by injection hb
  rw [this]; rfl
 | bad=>rw [hm] at hb; cases hb
theorem heads_bad{w:List Nat}(h:fine w):∀ t∈([[32],[65],w++[65],[45,45],w++[32,124],[124,32]++w,w++[124]++w,w++[32,124,32,124,32]++w]++[w++[32,124,32,32]++w,w++[32,32,124,32]++w,[32]++w,w++[32],w++[32]++w]++[w++[32,124,32],w++[10],[10],[97,97,97,97,97,97,97,97,97,97,97,97,97],[97,98,99,100,101,102,103,104,105,106,107,108,109,32,124,32,97],w++[49],[48],w++[32,124,32,45,49]]:List (List Nat)),Bad t:=by
 have n10:=fine_no h l10
 have n32:=fine_no h l32
 have hne:=fine_ne h
 have hlen:=h.2.1
 have n65:¬ letter 65:=by unfold letter; omega
 have n45:¬ letter 45:=by unfold letter; omega
 have n124:¬ letter 124:=by unfold letter; omega
 have n49:¬ letter 49:=by unfold letter; omega
 have n48:¬ letter 48:=by unfold letter; omega
 have w45:∀ c,w++[c] ≠ [45]:=fun c e=>by
  have:=congrArg List.length e; simp at this; exact hne this
 intro t ht
 simp only [List.cons_append,List.nil_append,List.mem_cons,List.not_mem_nil,or_false] at ht
 rcases ht with rfl | rfl | rfl | rfl | rfl | rfl | rfl | rfl | rfl | rfl | rfl | rfl | rfl | rfl | rfl | rfl | rfl | rfl | rfl | rfl | rfl
 all_goals have e1:∀ acc,splS [32,124,32] w 0 acc=[acc.reverse++w]:=fun acc=>splc_last w acc n32
 all_goals have p1:([124,32]:List Nat).isPrefixOf w=false:=notPre (fine_no h n124)
 all_goals have p2:([32]:List Nat).isPrefixOf w=false:=notPre n32
 ·rfl
 ·rfl
 ·refine one_bad (by simp; omega) (by simp [n10]) (by simp) _ (cut_w n32) ?_ (w++[65]) ?_ (notEnt (c:=65) (by simp) n65 (w45 _)) <;> simp [splS,List.isPrefixOf]
 ·rfl
 ·refine one_bad (by simp; omega) (by simp [n10]) (by simp) _ (cut_w n32) ?_ (w++[32,124]) ?_ (notEnt (c:=32) (by simp) l32 (by intro e; have:=congrArg List.length e; simp at this)) <;> simp [splS,List.isPrefixOf]
 ·exact one_bad (by simp; omega) (by simp [n10]) (by simp) ([[124,32]++w]) (by first | ((try simp only [List.append_assoc,List.cons_append,List.nil_append]); rw [cut_w n32]; simp [splS,List.isPrefixOf,e1,p1,p2]; done) | simp [splS,List.isPrefixOf,e1,p1,p2]) (by simp) ([124,32]++w) (by simp) (notEnt (c:=124) (by simp) n124 (by intro e; have:=congrArg List.length e; simp at this))
 ·exact one_bad (by simp; omega) (by simp [n10]) (by simp) ([w++[124]++w]) (by first | ((try simp only [List.append_assoc,List.cons_append,List.nil_append]); rw [cut_w n32]; simp [splS,List.isPrefixOf,e1,p1,p2]; done) | simp [splS,List.isPrefixOf,e1,p1,p2]) (by simp) (w++[124]++w) (by simp) (notEnt (c:=124) (by simp) n124 (by intro e; have:=congrArg List.length e; have:=h.1; simp at *; try omega))
 ·exact one_bad (by simp; omega) (by simp [n10]) (by simp) ([w,[124,32]++w]) (by first | ((try simp only [List.append_assoc,List.cons_append,List.nil_append]); rw [cut_w n32]; simp [splS,List.isPrefixOf,e1,p1,p2]; done) | simp [splS,List.isPrefixOf,e1,p1,p2]) (by simp) ([124,32]++w) (by simp) (notEnt (c:=124) (by simp) n124 (by intro e; have:=congrArg List.length e; simp at this))
 ·exact one_bad (by simp; omega) (by simp [n10]) (by simp) ([w,[32]++w]) (by first | ((try simp only [List.append_assoc,List.cons_append,List.nil_append]); rw [cut_w n32]; simp [splS,List.isPrefixOf,e1,p1,p2]; done) | simp [splS,List.isPrefixOf,e1,p1,p2]) (by simp) ([32]++w) (by simp) (notEnt (c:=32) (by simp) l32 (by intro e; have:=congrArg List.length e; have:=h.1; simp at *; try omega))
 ·exact one_bad (by simp; omega) (by simp [n10]) (by simp) ([w++[32],w]) (by first | ((try simp only [List.append_assoc,List.cons_append,List.nil_append]); rw [cut_w n32]; simp [splS,List.isPrefixOf,e1,p1,p2]; done) | simp [splS,List.isPrefixOf,e1,p1,p2]) (by simp) (w++[32]) (by simp) (notEnt (c:=32) (by simp) l32 (w45 _))
 ·exact one_bad (by simp; omega) (by simp [n10]) (by simp) ([[32]++w]) (by first | ((try simp only [List.append_assoc,List.cons_append,List.nil_append]); rw [cut_w n32]; simp [splS,List.isPrefixOf,e1,p1,p2]; done) | simp [splS,List.isPrefixOf,e1,p1,p2]) (by simp) ([32]++w) (by simp) (notEnt (c:=32) (by simp) l32 (by intro e; have:=congrArg List.length e; have:=h.1; simp at *; try omega))
 ·exact one_bad (by simp; omega) (by simp [n10]) (by simp) ([w++[32]]) (by first | ((try simp only [List.append_assoc,List.cons_append,List.nil_append]); rw [cut_w n32]; simp [splS,List.isPrefixOf,e1,p1,p2]; done) | simp [splS,List.isPrefixOf,e1,p1,p2]) (by simp) (w++[32]) (by simp) (notEnt (c:=32) (by simp) l32 (w45 _))
 ·exact one_bad (by simp; omega) (by simp [n10]) (by simp) ([w++[32]++w]) (by first | ((try simp only [List.append_assoc,List.cons_append,List.nil_append]); rw [cut_w n32]; simp [splS,List.isPrefixOf,e1,p1,p2]; done) | simp [splS,List.isPrefixOf,e1,p1,p2]) (by simp) (w++[32]++w) (by simp) (notEnt (c:=32) (by simp) l32 (by intro e; have:=congrArg List.length e; have:=h.1; simp at *; try omega))
 ·exact one_bad (by simp; omega) (by simp [n10]) (by simp) ([w,[]]) (by rw [cut_w n32]; simp [splS,List.isPrefixOf,e1,p1,p2]) (by simp) [] (by simp) notEnt0
 ·refine lines_bad (es:=[some w]) (ls:=[[]]) (by simp; omega) (by simp) (by simp) (fun o ho=>by simp at ho; subst ho; intro v hv; cases hv; exact h) (by rw [cut_w n10]; simp [splS,List.isPrefixOf,headS,joinL,ent]) (by simp) rfl
 ·rfl
 ·rfl
 ·rfl
 ·exact one_bad (by simp; omega) (by simp [n10]) (by simp) ([w++[49]]) (by first | ((try simp only [List.append_assoc,List.cons_append,List.nil_append]); rw [cut_w n32]; simp [splS,List.isPrefixOf,e1,p1,p2]; done) | simp [splS,List.isPrefixOf,e1,p1,p2]) (by simp) (w++[49]) (by simp) (notEnt (c:=49) (by simp) n49 (w45 _))
 ·rfl
 ·exact one_bad (by simp; omega) (by simp [n10]) (by simp) ([w,[45,49]]) (by first | ((try simp only [List.append_assoc,List.cons_append,List.nil_append]); rw [cut_w n32]; simp [splS,List.isPrefixOf,e1,p1,p2]; done) | simp [splS,List.isPrefixOf,e1,p1,p2]) (by simp) ([45,49]) (by simp) (notEnt (c:=49) (by simp) n49 (by decide))
end Vm
end
section
set_option linter.all false
set_option maxHeartbeats 1000000
set_option maxRecDepth 100000
namespace Vm
def LL(o:List Nat):List (List Nat):=match f_law_bad_lines [99] o with
 | .ok ls=>ls
 | _=>[]
def isExc(r:List Nat):Bool:=match mapR f_note_read (splS [10] r 0 []) with
 | .exc 4=>true
 | _=>false
theorem isExc_ok{r:List Nat}(h:isExc r=true):mapR f_note_read (splS [10] r 0 []) = .exc 4:=by
 unfold isExc at h
 split at h
 ·assumption
 ·cases h
structure Hd (w:List Nat) (es:List Ent):Prop where
 l:2≤es.length
 l4:es.length≤4
 g0:gt es 0=some w
 g1:gt es 1=none
 w:∀ o∈es,okW o
theorem coll_bad{w:List Nat}{es:List Ent}{ns:List Nte}(he:Hd w es)(hb:(ns.all fun n=>decide (n.2.length≤1000) && n.2.all fun r=>decide (r.2.length≤1000))=true)(h:¬ NotesOk es 30 ns):f_collation_back es 30 ns = .exc 4:=by
 have h4:=he.l4
 have hr:∀ n∈ns,n.2.length≤1000∧∀ r∈n.2,r.2.length≤1000:=by simpa using hb
 rcases coll_conv (many:=30) (es:=es) (ns:=ns) (by decide) (by omega) hr with e | ⟨x,e,p⟩
 ·exact e
 ·exact absurd p h
theorem body_bad{w r:List Nat}{es:List Ent}(he:Hd w es)(hr:r.length≤1000)(h:((mapR f_note_read (splS [10] r 0 [])).bind fun ns=>f_collation_back es 30 ns) = .exc 4)  (hs:(splS [10] r 0 []).length≤1200):Bad (headS es++[10]++r):=by
 have h2:=he.l
 have h4:=he.l4
 have hh:=Nat.le_trans joinL_len' (head_b (es:=es) (by omega) fun o ho=>okE_of (he.w o ho))
 have hh:(headS es).length≤27600:=hh
 refine lines_bad (es:=es) (by simp; omega) (fun z=>by rw [z] at h2; simp at h2) (by omega) he.w (splc_first (c:=10) (Y:=[]) (headS es) [] r fun z=>by have:=head_chars he.w z; omega) hs h
def LB97:List (List Nat):=[[48,58,32,97,32,48],[48,58,32,97,32,51,48],[48,58,32,97,32,50,44,49],[48,58,32,97,32,49,44,49],[57,58,32,97,32,49],[49,58,32,45,32,49],[48,58,32,97,32,49,59,32,97,32,50],[48,58,32,97,32,50,59,32,45,32,49],[48,58,32,97,32,49,44,50,59,32,45,32,50],[49,58,32,97,32,49,10,48,58,32,97,32,49],[48,58,32,45,32,49,10,48,58,32,97,32,50]]
theorem split970:((LL [97]).take 28++(LL [97]).drop 29).all (fun b=>isExc (b++[]) || (LB97).contains b)=true:=by rfl
theorem lb970{w:List Nat}{es:List Ent}(he:Hd w es):∀ b∈LB97,((mapR f_note_read (splS [10] (b++[]) 0 [])).bind fun ns=>f_collation_back es 30 ns) = .exc 4:=by
 intro b hb
 simp only [LB97,List.mem_cons,List.not_mem_nil,or_false] at hb
 rcases hb with rfl | rfl | rfl | rfl | rfl | rfl | rfl | rfl | rfl | rfl | rfl
 ·show (Res.ok [(0,[(some [97],[0])])]).bind _=_
  rw [bind_ok]
  exact coll_bad he rfl fun p=>by have q:=((p.r (0,[(some [97],[0])]) (by simp)).1.all (some [97],[0]) (by simp)).i 0 (by simp); omega
 ·show (Res.ok [(0,[(some [97],[30])])]).bind _=_
  rw [bind_ok]
  exact coll_bad he rfl fun p=>by have q:=((p.r (0,[(some [97],[30])]) (by simp)).1.all (some [97],[30]) (by simp)).i 30 (by simp); omega
 ·show (Res.ok [(0,[(some [97],[2,1])])]).bind _=_
  rw [bind_ok]
  exact coll_bad he rfl fun p=>by have q:=((p.r (0,[(some [97],[2,1])]) (by simp)).1.all (some [97],[2,1]) (by simp)).lt; simp at q
 ·show (Res.ok [(0,[(some [97],[1,1])])]).bind _=_
  rw [bind_ok]
  exact coll_bad he rfl fun p=>by have q:=((p.r (0,[(some [97],[1,1])]) (by simp)).1.all (some [97],[1,1]) (by simp)).lt; simp at q
 ·show (Res.ok [(9,[(some [97],[1])])]).bind _=_
  rw [bind_ok]
  exact coll_bad he rfl fun p=>by have q:=p.i (9,[(some [97],[1])]) (by simp); have:=he.l4; simp at q; omega
 ·show (Res.ok [(1,[(none,[1])])]).bind _=_
  rw [bind_ok]
  exact coll_bad he rfl fun p=>by exact ((p.r (1,[(none,[1])]) (by simp)).1.all (none,[1]) (by simp)).b he.g1.symm
 ·show (Res.ok [(0,[(some [97],[1]),(some [97],[2])])]).bind _=_
  rw [bind_ok]
  exact coll_bad he rfl fun p=>by have q:=((p.r (0,[(some [97],[1]),(some [97],[2])]) (by simp)).1.pw); simp [Before] at q
 ·show (Res.ok [(0,[(some [97],[2]),(none,[1])])]).bind _=_
  rw [bind_ok]
  exact coll_bad he rfl fun p=>by have q:=((p.r (0,[(some [97],[2]),(none,[1])]) (by simp)).1.pw); simp [Before,gt] at q
 ·show (Res.ok [(0,[(some [97],[1,2]),(none,[2])])]).bind _=_
  rw [bind_ok]
  exact coll_bad he rfl fun p=>by have q:=((p.r (0,[(some [97],[1,2]),(none,[2])]) (by simp)).1.pw); simp [Before] at q
 ·show (Res.ok [(1,[(some [97],[1])]),(0,[(some [97],[1])])]).bind _=_
  rw [bind_ok]
  exact coll_bad he rfl fun p=>by have q:=p.pw; simp at q
 ·show (Res.ok [(0,[(none,[1])]),(0,[(some [97],[2])])]).bind _=_
  rw [bind_ok]
  exact coll_bad he rfl fun p=>by have q:=p.pw; simp at q
theorem split971:((LL [97]).take 28++(LL [97]).drop 29).all (fun b=>isExc (b++[10,49,58,32,97,32,53]) || (LB97).contains b)=true:=by rfl
theorem lb971{w:List Nat}{es:List Ent}(he:Hd w es):∀ b∈LB97,((mapR f_note_read (splS [10] (b++[10,49,58,32,97,32,53]) 0 [])).bind fun ns=>f_collation_back es 30 ns) = .exc 4:=by
 intro b hb
 simp only [LB97,List.mem_cons,List.not_mem_nil,or_false] at hb
 rcases hb with rfl | rfl | rfl | rfl | rfl | rfl | rfl | rfl | rfl | rfl | rfl
 ·show (Res.ok [(0,[(some [97],[0])]),(1,[(some [97],[5])])]).bind _=_
  rw [bind_ok]
  exact coll_bad he rfl fun p=>by have q:=((p.r (0,[(some [97],[0])]) (by simp)).1.all (some [97],[0]) (by simp)).i 0 (by simp); omega
 ·show (Res.ok [(0,[(some [97],[30])]),(1,[(some [97],[5])])]).bind _=_
  rw [bind_ok]
  exact coll_bad he rfl fun p=>by have q:=((p.r (0,[(some [97],[30])]) (by simp)).1.all (some [97],[30]) (by simp)).i 30 (by simp); omega
 ·show (Res.ok [(0,[(some [97],[2,1])]),(1,[(some [97],[5])])]).bind _=_
  rw [bind_ok]
  exact coll_bad he rfl fun p=>by have q:=((p.r (0,[(some [97],[2,1])]) (by simp)).1.all (some [97],[2,1]) (by simp)).lt; simp at q
 ·show (Res.ok [(0,[(some [97],[1,1])]),(1,[(some [97],[5])])]).bind _=_
  rw [bind_ok]
  exact coll_bad he rfl fun p=>by have q:=((p.r (0,[(some [97],[1,1])]) (by simp)).1.all (some [97],[1,1]) (by simp)).lt; simp at q
 ·show (Res.ok [(9,[(some [97],[1])]),(1,[(some [97],[5])])]).bind _=_
  rw [bind_ok]
  exact coll_bad he rfl fun p=>by have q:=p.i (9,[(some [97],[1])]) (by simp); have:=he.l4; simp at q; omega
 ·show (Res.ok [(1,[(none,[1])]),(1,[(some [97],[5])])]).bind _=_
  rw [bind_ok]
  exact coll_bad he rfl fun p=>by exact ((p.r (1,[(none,[1])]) (by simp)).1.all (none,[1]) (by simp)).b he.g1.symm
 ·show (Res.ok [(0,[(some [97],[1]),(some [97],[2])]),(1,[(some [97],[5])])]).bind _=_
  rw [bind_ok]
  exact coll_bad he rfl fun p=>by have q:=((p.r (0,[(some [97],[1]),(some [97],[2])]) (by simp)).1.pw); simp [Before] at q
 ·show (Res.ok [(0,[(some [97],[2]),(none,[1])]),(1,[(some [97],[5])])]).bind _=_
  rw [bind_ok]
  exact coll_bad he rfl fun p=>by have q:=((p.r (0,[(some [97],[2]),(none,[1])]) (by simp)).1.pw); simp [Before,gt] at q
 ·show (Res.ok [(0,[(some [97],[1,2]),(none,[2])]),(1,[(some [97],[5])])]).bind _=_
  rw [bind_ok]
  exact coll_bad he rfl fun p=>by have q:=((p.r (0,[(some [97],[1,2]),(none,[2])]) (by simp)).1.pw); simp [Before] at q
 ·show (Res.ok [(1,[(some [97],[1])]),(0,[(some [97],[1])]),(1,[(some [97],[5])])]).bind _=_
  rw [bind_ok]
  exact coll_bad he rfl fun p=>by have q:=p.pw; simp at q
 ·show (Res.ok [(0,[(none,[1])]),(0,[(some [97],[2])]),(1,[(some [97],[5])])]).bind _=_
  rw [bind_ok]
  exact coll_bad he rfl fun p=>by have q:=p.pw; simp at q
def LB98:List (List Nat):=[[48,58,32,98,32,48],[48,58,32,98,32,51,48],[48,58,32,98,32,50,44,49],[48,58,32,98,32,49,44,49],[57,58,32,98,32,49],[49,58,32,45,32,49],[48,58,32,98,32,49,59,32,98,32,50],[48,58,32,98,32,50,59,32,45,32,49],[48,58,32,98,32,49,44,50,59,32,45,32,50],[49,58,32,98,32,49,10,48,58,32,98,32,49],[48,58,32,45,32,49,10,48,58,32,98,32,50]]
theorem split980:((LL [98]).take 28++(LL [98]).drop 29).all (fun b=>isExc (b++[]) || (LB98).contains b)=true:=by rfl
theorem lb980{w:List Nat}{es:List Ent}(he:Hd w es):∀ b∈LB98,((mapR f_note_read (splS [10] (b++[]) 0 [])).bind fun ns=>f_collation_back es 30 ns) = .exc 4:=by
 intro b hb
 simp only [LB98,List.mem_cons,List.not_mem_nil,or_false] at hb
 rcases hb with rfl | rfl | rfl | rfl | rfl | rfl | rfl | rfl | rfl | rfl | rfl
 ·show (Res.ok [(0,[(some [98],[0])])]).bind _=_
  rw [bind_ok]
  exact coll_bad he rfl fun p=>by have q:=((p.r (0,[(some [98],[0])]) (by simp)).1.all (some [98],[0]) (by simp)).i 0 (by simp); omega
 ·show (Res.ok [(0,[(some [98],[30])])]).bind _=_
  rw [bind_ok]
  exact coll_bad he rfl fun p=>by have q:=((p.r (0,[(some [98],[30])]) (by simp)).1.all (some [98],[30]) (by simp)).i 30 (by simp); omega
 ·show (Res.ok [(0,[(some [98],[2,1])])]).bind _=_
  rw [bind_ok]
  exact coll_bad he rfl fun p=>by have q:=((p.r (0,[(some [98],[2,1])]) (by simp)).1.all (some [98],[2,1]) (by simp)).lt; simp at q
 ·show (Res.ok [(0,[(some [98],[1,1])])]).bind _=_
  rw [bind_ok]
  exact coll_bad he rfl fun p=>by have q:=((p.r (0,[(some [98],[1,1])]) (by simp)).1.all (some [98],[1,1]) (by simp)).lt; simp at q
 ·show (Res.ok [(9,[(some [98],[1])])]).bind _=_
  rw [bind_ok]
  exact coll_bad he rfl fun p=>by have q:=p.i (9,[(some [98],[1])]) (by simp); have:=he.l4; simp at q; omega
 ·show (Res.ok [(1,[(none,[1])])]).bind _=_
  rw [bind_ok]
  exact coll_bad he rfl fun p=>by exact ((p.r (1,[(none,[1])]) (by simp)).1.all (none,[1]) (by simp)).b he.g1.symm
 ·show (Res.ok [(0,[(some [98],[1]),(some [98],[2])])]).bind _=_
  rw [bind_ok]
  exact coll_bad he rfl fun p=>by have q:=((p.r (0,[(some [98],[1]),(some [98],[2])]) (by simp)).1.pw); simp [Before] at q
 ·show (Res.ok [(0,[(some [98],[2]),(none,[1])])]).bind _=_
  rw [bind_ok]
  exact coll_bad he rfl fun p=>by have q:=((p.r (0,[(some [98],[2]),(none,[1])]) (by simp)).1.pw); simp [Before,gt] at q
 ·show (Res.ok [(0,[(some [98],[1,2]),(none,[2])])]).bind _=_
  rw [bind_ok]
  exact coll_bad he rfl fun p=>by have q:=((p.r (0,[(some [98],[1,2]),(none,[2])]) (by simp)).1.pw); simp [Before] at q
 ·show (Res.ok [(1,[(some [98],[1])]),(0,[(some [98],[1])])]).bind _=_
  rw [bind_ok]
  exact coll_bad he rfl fun p=>by have q:=p.pw; simp at q
 ·show (Res.ok [(0,[(none,[1])]),(0,[(some [98],[2])])]).bind _=_
  rw [bind_ok]
  exact coll_bad he rfl fun p=>by have q:=p.pw; simp at q
theorem split981:((LL [98]).take 28++(LL [98]).drop 29).all (fun b=>isExc (b++[10,49,58,32,98,32,53]) || (LB98).contains b)=true:=by rfl
theorem lb981{w:List Nat}{es:List Ent}(he:Hd w es):∀ b∈LB98,((mapR f_note_read (splS [10] (b++[10,49,58,32,98,32,53]) 0 [])).bind fun ns=>f_collation_back es 30 ns) = .exc 4:=by
 intro b hb
 simp only [LB98,List.mem_cons,List.not_mem_nil,or_false] at hb
 rcases hb with rfl | rfl | rfl | rfl | rfl | rfl | rfl | rfl | rfl | rfl | rfl
 ·show (Res.ok [(0,[(some [98],[0])]),(1,[(some [98],[5])])]).bind _=_
  rw [bind_ok]
  exact coll_bad he rfl fun p=>by have q:=((p.r (0,[(some [98],[0])]) (by simp)).1.all (some [98],[0]) (by simp)).i 0 (by simp); omega
 ·show (Res.ok [(0,[(some [98],[30])]),(1,[(some [98],[5])])]).bind _=_
  rw [bind_ok]
  exact coll_bad he rfl fun p=>by have q:=((p.r (0,[(some [98],[30])]) (by simp)).1.all (some [98],[30]) (by simp)).i 30 (by simp); omega
 ·show (Res.ok [(0,[(some [98],[2,1])]),(1,[(some [98],[5])])]).bind _=_
  rw [bind_ok]
  exact coll_bad he rfl fun p=>by have q:=((p.r (0,[(some [98],[2,1])]) (by simp)).1.all (some [98],[2,1]) (by simp)).lt; simp at q
 ·show (Res.ok [(0,[(some [98],[1,1])]),(1,[(some [98],[5])])]).bind _=_
  rw [bind_ok]
  exact coll_bad he rfl fun p=>by have q:=((p.r (0,[(some [98],[1,1])]) (by simp)).1.all (some [98],[1,1]) (by simp)).lt; simp at q
 ·show (Res.ok [(9,[(some [98],[1])]),(1,[(some [98],[5])])]).bind _=_
  rw [bind_ok]
  exact coll_bad he rfl fun p=>by have q:=p.i (9,[(some [98],[1])]) (by simp); have:=he.l4; simp at q; omega
 ·show (Res.ok [(1,[(none,[1])]),(1,[(some [98],[5])])]).bind _=_
  rw [bind_ok]
  exact coll_bad he rfl fun p=>by exact ((p.r (1,[(none,[1])]) (by simp)).1.all (none,[1]) (by simp)).b he.g1.symm
 ·show (Res.ok [(0,[(some [98],[1]),(some [98],[2])]),(1,[(some [98],[5])])]).bind _=_
  rw [bind_ok]
  exact coll_bad he rfl fun p=>by have q:=((p.r (0,[(some [98],[1]),(some [98],[2])]) (by simp)).1.pw); simp [Before] at q
 ·show (Res.ok [(0,[(some [98],[2]),(none,[1])]),(1,[(some [98],[5])])]).bind _=_
  rw [bind_ok]
  exact coll_bad he rfl fun p=>by have q:=((p.r (0,[(some [98],[2]),(none,[1])]) (by simp)).1.pw); simp [Before,gt] at q
 ·show (Res.ok [(0,[(some [98],[1,2]),(none,[2])]),(1,[(some [98],[5])])]).bind _=_
  rw [bind_ok]
  exact coll_bad he rfl fun p=>by have q:=((p.r (0,[(some [98],[1,2]),(none,[2])]) (by simp)).1.pw); simp [Before] at q
 ·show (Res.ok [(1,[(some [98],[1])]),(0,[(some [98],[1])]),(1,[(some [98],[5])])]).bind _=_
  rw [bind_ok]
  exact coll_bad he rfl fun p=>by have q:=p.pw; simp at q
 ·show (Res.ok [(0,[(none,[1])]),(0,[(some [98],[2])]),(1,[(some [98],[5])])]).bind _=_
  rw [bind_ok]
  exact coll_bad he rfl fun p=>by have q:=p.pw; simp at q
def okSz(b:List Nat):Bool:=decide (b.length≤1000) && decide ((splS [10] b 0 []).length≤1200)
theorem sz970:((LL [97]).take 28++(LL [97]).drop 29).all (fun b=>okSz (b++[]))=true:=by rfl
theorem sz971:((LL [97]).take 28++(LL [97]).drop 29).all (fun b=>okSz (b++[10,49,58,32,97,32,53]))=true:=by rfl
theorem sz980:((LL [98]).take 28++(LL [98]).drop 29).all (fun b=>okSz (b++[]))=true:=by rfl
theorem sz981:((LL [98]).take 28++(LL [98]).drop 29).all (fun b=>okSz (b++[10,49,58,32,98,32,53]))=true:=by rfl
theorem wline{w:List Nat}(h:fine w):f_note_read ([48,58,32]++w++[32,49]) = .ok (0,[(some w,[1])]):=by
 have e:[48,58,32]++w++[32,49]=noteS (0,[(some w,[1])]):=by
  show _=dg 0++[58,32]++(w++[32]++dg 1)
  rw [show dg 0=[48] from rfl,show dg 1=[49] from rfl]
  simp
 rw [e]
 have hl:=h.2.1
 have hr:okRd (some w,[1]):=⟨by show w.length≤20; omega,by simp,by simp⟩
 exact note_back ⟨⟨by simp,by simp,by simp,by simpa using hr⟩,by
  intro r hr'
  simp at hr'
  subst hr'
  exact ⟨hr,fun v hv=>by cases hv; exact h,by simp⟩,by simp⟩
theorem wbad{w:List Nat}{es:List Ent}(h:fine w)(he:Hd w es){c:Nat}(hc:c=97 ∨ c=98){ext:List Nat}(hx:ext=[] ∨ ext=[10,49,58,32,c,32,53]):Bad (headS es++[10]++(([48,58,32]++w++[32,49])++ext)):=by
 have hl:=h.2.1
 have n10:10 ∉ ([48,58,32]++w++[32,49]):=by
  have:=fine_no h l10
  simp [this]
 rcases hx with rfl | rfl
 ·have e:splS [10] (([48,58,32]++w++[32,49])++[]) 0 []=[[48,58,32]++w++[32,49]]:=by
   rw [List.append_nil]; exact splc_last _ [] n10
  refine body_bad he (by simp; omega) ?_ (by rw [e]; simp)
  rw [e,mapR,wline h,bind_ok]
  show (Res.ok [(0,[(some w,[1])])]).bind _=_
  rw [bind_ok]
  exact coll_bad he rfl fun p=>((p.r (0,[(some w,[1])]) (by simp)).1.all (some w,[1]) (by simp)).b he.g0.symm
 ·have e:splS [10] (([48,58,32]++w++[32,49])++[10,49,58,32,c,32,53]) 0 []=[[48,58,32]++w++[32,49],[49,58,32,c,32,53]]:=by
   have:=splc_first (c:=10) (Y:=[]) ([48,58,32]++w++[32,49]) [] [49,58,32,c,32,53] n10
   rw [show ([48,58,32]++w++[32,49])++[10,49,58,32,c,32,53]=([48,58,32]++w++[32,49])++[10]++[49,58,32,c,32,53] by simp,this]
   rcases hc with rfl | rfl <;> rfl
  have e2:f_note_read [49,58,32,c,32,53] = .ok (1,[(some [c],[5])]):=by rcases hc with rfl | rfl <;> rfl
  refine body_bad he (by simp; omega) ?_ (by rw [e]; simp)
  rw [e,mapR,wline h,bind_ok,mapR,e2,bind_ok]
  show (Res.ok [(0,[(some w,[1])]),(1,[(some [c],[5])])]).bind _=_
  rw [bind_ok]
  exact coll_bad he rfl fun p=>((p.r (0,[(some w,[1])]) (by simp)).1.all (some w,[1]) (by simp)).b he.g0.symm
def BL(w o:List Nat):List (List Nat):=(LL o).take 28++[[48,58,32]++w++[32,49]]++(LL o).drop 29
theorem lines_is{w:List Nat}(h:w.length≤12){c:Nat}(hc:c=97 ∨ c=98):f_law_bad_lines w [c] = .ok (BL w [c]):=by
 have a:catR [48,58,32] w = .ok ([48,58,32]++w):=catR_ok (by simp; omega)
 have b:catR ([48,58,32]++w) [32,49] = .ok ([48,58,32]++w++[32,49]):=catR_ok (by simp; omega)
 unfold f_law_bad_lines
 rw [a,bind_ok,b]
 rcases hc with rfl | rfl <;> rfl
theorem all_bad{w:List Nat}{es:List Ent}(h:fine w)(he:Hd w es){c:Nat}(hc:c=97 ∨ c=98){ext:List Nat}(hx:ext=[] ∨ ext=[10,49,58,32,c,32,53]):∀ b∈BL w [c],Bad (headS es++[10]++(b++ext)):=by
 intro b hb
 have hb':b=[48,58,32]++w++[32,49] ∨ b∈(LL [c]).take 28++(LL [c]).drop 29:=by
  unfold BL at hb
  rw [List.mem_append,List.mem_append,List.mem_singleton] at hb
  rw [List.mem_append]
  rcases hb with (hb | hb) | hb
  ·exact .inr (.inl hb)
  ·exact .inl hb
  ·exact .inr (.inr hb)
 rcases hb' with rfl | hb'
 ·exact wbad h he hc hx
 ·have key:okSz (b++ext)=true∧((mapR f_note_read (splS [10] (b++ext) 0 [])).bind fun ns=>f_collation_back es 30 ns) = .exc 4:=by
   rcases hc with rfl | rfl <;> rcases hx with rfl | rfl
   ·refine ⟨List.all_eq_true.mp sz970 b hb',?_⟩
    have k:=List.all_eq_true.mp split970 b hb'
    rw [Bool.or_eq_true] at k
    rcases k with k | k
    ·rw [isExc_ok k]; rfl
    ·exact lb970 he b (List.contains_iff_mem.mp k)
   ·refine ⟨List.all_eq_true.mp sz971 b hb',?_⟩
    have k:=List.all_eq_true.mp split971 b hb'
    rw [Bool.or_eq_true] at k
    rcases k with k | k
    ·rw [isExc_ok k]; rfl
    ·exact lb971 he b (List.contains_iff_mem.mp k)
   ·refine ⟨List.all_eq_true.mp sz980 b hb',?_⟩
    have k:=List.all_eq_true.mp split980 b hb'
    rw [Bool.or_eq_true] at k
    rcases k with k | k
    ·rw [isExc_ok k]; rfl
    ·exact lb980 he b (List.contains_iff_mem.mp k)
   ·refine ⟨List.all_eq_true.mp sz981 b hb',?_⟩
    have k:=List.all_eq_true.mp split981 b hb'
    rw [Bool.or_eq_true] at k
    rcases k with k | k
    ·rw [isExc_ok k]; rfl
    ·exact lb981 he b (List.contains_iff_mem.mp k)
  obtain ⟨k1,k2⟩:=key
  unfold okSz at k1
  rw [Bool.and_eq_true] at k1
  exact body_bad he (of_decide_eq_true k1.1) k2 (of_decide_eq_true k1.2)
end Vm
end
section
set_option linter.all false
set_option maxHeartbeats 1000000
set_option maxRecDepth 100000
set_option synthInstance.maxSize 2000
namespace Vm
def esOf(w:List Nat)(c:Nat)(d:Int):List Ent:=[some w,none]++gt [([]:List Ent),[some [c]],[none],[some w,none]] d
def HL(w:List Nat):List (List Nat):=([[32],[65],w++[65],[45,45],w++[32,124],[124,32]++w,w++[124]++w,w++[32,124,32,124,32]++w]++[w++[32,124,32,32]++w,w++[32,32,124,32]++w,[32]++w,w++[32],w++[32]++w]++[w++[32,124,32],w++[10],[10],[97,97,97,97,97,97,97,97,97,97,97,97,97],[97,98,99,100,101,102,103,104,105,106,107,108,109,32,124,32,97],w++[49],[48],w++[32,124,32,45,49]]:List (List Nat))
theorem heads_is{w:List Nat}(h:fine w):f_law_bad_heads w = .ok (HL w):=by
 have hl:=h.2.1
 unfold f_law_bad_heads HL
 simp (disch:=(simp; omega)) only [catR_ok,bind_ok]
 rfl
theorem bl_len{w:List Nat}(h:fine w){c:Nat}(hc:c=97 ∨ c=98):∀ b∈BL w [c],b.length≤1000:=by
 have hl:=h.2.1
 intro b hb
 unfold BL at hb
 rw [List.mem_append,List.mem_append,List.mem_singleton] at hb
 have key:b∈(LL [c]).take 28++(LL [c]).drop 29→b.length≤1000:=fun hb'=>by
  have:okSz (b++[])=true:=by
   rcases hc with rfl | rfl
   ·exact List.all_eq_true.mp sz970 b hb'
   ·exact List.all_eq_true.mp sz980 b hb'
  unfold okSz at this
  rw [Bool.and_eq_true] at this
  have:=of_decide_eq_true this.1
  simpa using this
 rw [List.mem_append] at key
 rcases hb with (hb | rfl) | hb
 ·exact key (.inl hb)
 ·simp; omega
 ·exact key (.inr hb)
theorem es_ok{w:List Nat}(h:fine w){c:Nat}(hc:c=97 ∨ c=98){d:Int}(hd:d=0 ∨ d=1 ∨ d=2 ∨ d=3):Hd w (esOf w c d):=by
 have fc:fine [c]:=⟨by simp,by simp,by simp; omega⟩
 have w1:okW (some w):=fun v hv=>by cases hv; exact h
 have w2:okW none:=fun v hv=>by cases hv
 have w3:okW (some [c]):=fun v hv=>by cases hv; exact fc
 rcases hd with rfl | rfl | rfl | rfl <;> exact ⟨by simp [esOf,gt],by simp [esOf,gt],rfl,rfl,by
  intro o ho
  simp [esOf,gt] at ho
  rcases ho with rfl | rfl | rfl | rfl <;> assumption⟩
theorem ref_dec:decide (refused=((([114,101,102,117,115,101,100]:List Nat),none):((List Nat)×Option (((List (Option (List Nat)))×List (((Int)×List (((Option (List Nat))×List (Int))))))))))=true:=decide_eq_true rfl
theorem line_of_ok{x:Nte}(hok:okNt x):Rk (f_law_line_of x) (· = noteS x):=by
 unfold f_law_line_of
 have hb:=reads_b hok.l hok.r
 have hd:=dg_le hok.k0 hok.k1
 have hj:=Nat.le_trans joinL_len' hb
 refine Rk.bind (P:=fun ps=>ps=x.2.map readS) (Rk.for (fun j s=>s=(x.2.take j).map readS) (by simp) (fun j r s hr hs=>?_) fun s hs=>by rw [hs,List.take_length]) fun ps hps=>?_
 ·have hj':=(List.getElem?_eq_some_iff.mp hr).1
  have hr':=hok.r r (List.mem_of_getElem? hr)
  obtain ⟨h1,h2⟩:=rows_ok hr'.n hr'.i
  have he:=hr'.e
  have hxl:=hok.l
  unfold okE at he
  have le:(ixR (([some (([45]:List Nat)),r.1]:List (Option (List Nat)))) (if r.1.isSome then 1 else 0)).bind (fun x15=>getO x15) = .ok (ent r.1):=by cases r.1 <;> rfl
  rw [le,bind_ok,catR_ok (by simp; omega),bind_ok,h1,bind_ok,catR_ok (by simp; omega),bind_ok,hs,appR_ok (by simp; omega),bind_ok]
  refine Rk.ok ?_
  rw [List.take_add_one,hr]
  simp [readS]
 ·subst hps
  rw [str_ok hok.k0 hok.k1,bind_ok,catR_ok (by simp; omega),bind_ok,joinR_ok (by omega),bind_ok,catR_ok (by simp; omega),bind_ok]
  refine Rk.ok ?_
  simp [noteS,readsS]
def Nk(es:List Ent)(n:Nte):Prop:=(0≤n.1∧n.1 < es.length)∧(RdsOk (gt es n.1) 30 n.2∧n.2.length≤1000∧∀ r∈n.2,r.2.length≤1000)∧okNtW n
theorem okRdW_of{v:Ent}{l:List Int}(hw:okW v)(ne:l ≠ [])(i:∀ x∈l,1≤x∧x < 30)(ll:l.length≤30):okRdW (v,l):=⟨⟨okE_of hw,ll,fun k hk=>by have:=i k hk; omega⟩,hw,ne⟩
theorem nk_one{es:List Ent}{k:Int}{v:Ent}{l:List Int}(k0:0≤k)(k1:k < es.length)(k2:k < 1200)(hv:v ≠ gt es k)(hw:okW v)(ne:l ≠ [])(lt:l.Pairwise (· < ·))(i:∀ x∈l,1≤x∧x < 30)(ll:l.length≤30):Nk es (k,[(v,l)]):=by
 have hr:=okRdW_of hw ne i ll
 refine ⟨⟨k0,k1⟩,⟨⟨by simp,fun r hr'=>?_,by simp⟩,by simp,fun r hr'=>?_⟩,⟨k0,k2,by simp,fun r hr'=>?_⟩,fun r hr'=>?_,by simp⟩ <;> (rw [List.mem_singleton] at hr'; subst hr')
 ·exact ⟨hv,ne,lt,i⟩
 ·show l.length≤1000; omega
 ·exact hr.tookRd
 ·exact hr
theorem good_ok{w:List Nat}{es:List Ent}{c:Nat}(he:Hd w es)(hcc:c=97 ∨ c=98)(hne:w ≠ [c]){s:Int}(h1:1≤s)(h2:s≤29):∀ N∈([[],[(0,[(some [c],[s])])],[(0,[(none,[1,29]),(some [c],[2])])],[(1,[(some [c],[s])])],[(0,[(some [c],[29])]),(1,[(some [c],[1,2,3])])]]:List (List Nte)),NotesOk es 30 N∧(∀ n∈N,okNtW n)∧N.length≤2:=by
 have hl:=he.l
 have fc:fine [c]:=⟨by simp,by simp,by simp; omega⟩
 have w3:okW (some [c]):=fun v hv=>by cases hv; exact fc
 have w2:okW none:=fun v hv=>by cases hv
 have v0:(some [c]:Ent) ≠ gt es 0:=by rw [he.g0]; intro z; cases z; exact hne rfl
 have v1:(some [c]:Ent) ≠ gt es 1:=by rw [he.g1]; intro z; cases z
 have v2:(none:Ent) ≠ gt es 0:=by rw [he.g0]; intro z; cases z
 have mk:∀ N:List Nte,N.Pairwise (fun m n=>m.1 < n.1)→(∀ n∈N,Nk es n)→N.length≤2→NotesOk es 30 N∧(∀ n∈N,okNtW n)∧N.length≤2:=fun N a b d=>⟨⟨a,fun n hn=>(b n hn).1,fun n hn=>(b n hn).2.1⟩,fun n hn=>(b n hn).2.2,d⟩
 have a1:∀ l:List Int,l ≠ []→l.Pairwise (· < ·)→(∀ x∈l,1≤x∧x < 30)→l.length≤30→Nk es (0,[(some [c],l)]):=fun l q1 q2 q3 q4=>nk_one (by decide) (by omega) (by decide) v0 w3 q1 q2 q3 q4
 have a2:∀ l:List Int,l ≠ []→l.Pairwise (· < ·)→(∀ x∈l,1≤x∧x < 30)→l.length≤30→Nk es (1,[(some [c],l)]):=fun l q1 q2 q3 q4=>nk_one (by decide) (by omega) (by decide) v1 w3 q1 q2 q3 q4
 intro N hN
 simp only [List.mem_cons,List.not_mem_nil,or_false] at hN
 rcases hN with rfl | rfl | rfl | rfl | rfl
 ·exact mk _ (by simp) (by simp) (by simp)
 ·exact mk _ (by simp) (fun n hn=>by rw [List.mem_singleton] at hn; subst hn; exact a1 _ (by simp) (by simp) (by simp; omega) (by simp)) (by simp)
 ·refine mk _ (by simp) (fun n hn=>?_) (by simp)
  rw [List.mem_singleton] at hn; subst hn
  have q1:=okRdW_of (v:=none) (l:=[1,29]) w2 (by simp) (by simp) (by simp)
  have q2:=okRdW_of (v:=some [c]) (l:=[2]) w3 (by simp) (by simp) (by simp)
  refine ⟨⟨Int.le_refl 0,by show (0:Int) < _; omega⟩,⟨⟨by simp,fun r hr'=>?_,?_⟩,by simp,fun r hr'=>?_⟩,⟨by simp,by simp,by simp,fun r hr'=>?_⟩,fun r hr'=>?_,by simp⟩
  ·rcases (by simpa using hr':r=(none,[1,29]) ∨ r=(some [c],[2])) with rfl | rfl
   ·exact ⟨v2,by simp,by simp,by simp⟩
   ·exact ⟨v0,by simp,by simp,by simp⟩
  ·simp [Before,gt]
  ·rcases (by simpa using hr':r=(none,[1,29]) ∨ r=(some [c],[2])) with rfl | rfl <;> simp
  ·rcases (by simpa using hr':r=(none,[1,29]) ∨ r=(some [c],[2])) with rfl | rfl
   ·exact q1.tookRd
   ·exact q2.tookRd
  ·rcases (by simpa using hr':r=(none,[1,29]) ∨ r=(some [c],[2])) with rfl | rfl
   ·exact q1
   ·exact q2
 ·exact mk _ (by simp) (fun n hn=>by rw [List.mem_singleton] at hn; subst hn; exact a2 _ (by simp) (by simp) (by simp; omega) (by simp)) (by simp)
 ·refine mk _ (by simp) (fun n hn=>?_) (by simp)
  rcases (by simpa using hn:n=(0,[(some [c],[29])]) ∨ n=(1,[(some [c],[1,2,3])])) with rfl | rfl
  ·exact a1 _ (by simp) (by simp) (by simp) (by simp)
  ·exact a2 _ (by simp) (by simp) (by simp) (by simp)
theorem right_ok{cell:Int}(hc:okN cell):Rk (f_law_right_v1 cell) (· = true):=by
 unfold f_law_right_v1
 refine Rk.bind (word_ok hc (by decide) (by decide) (by decide)) fun w hw=>?_
 have hl:=hw.2.1
 obtain ⟨c,e,hcc,hne⟩:∃ c:Nat,ixR (([([97]:List Nat),([98]:List Nat)]:List (List Nat))) (if decide (w=([97]:List Nat)) then 1 else 0) = .ok [c]∧(c=97 ∨ c=98)∧w ≠ [c]:=by
  by_cases h:w=[97]
  ·exact ⟨98,by rw [decide_eq_true h]; rfl,.inr rfl,by rw [h]; decide⟩
  ·exact ⟨97,by rw [decide_eq_false h]; rfl,.inl rfl,h⟩
 rw [e,bind_ok]
 obtain ⟨d1,d2,d3⟩:=draw_ok (k:=86) (many:=4) hc (by decide) (by decide) (by decide) (by decide)
 generalize hdd:drawF cell 86 4=d at d1 d2 d3
 have hd:d=0 ∨ d=1 ∨ d=2 ∨ d=3:=by omega
 have he:=es_ok hw hcc hd
 refine Rk.bind (P:=fun s20=>headS (esOf w c d)=w++[32,124,32,45]++s20∧s20.length≤30) ?_ fun s20 h20=>?_
 ·rw [d1,catR_ok (by simp),bind_ok,catR_ok (by simp; omega),bind_ok,catR_ok (by simp; omega),bind_ok,bind_ok,bind_ok]
  rcases hd with rfl | rfl | rfl | rfl <;> exact Rk.ok ⟨by simp [headS,esOf,joinL,ent,gt],by simp; try omega⟩
 refine Rk.bind (P:=fun s22=>s22=headS (esOf w c d)) ?_ fun s22 h22=>?_
 ·rw [catR_ok (by simp; omega),bind_ok,catR_ok (by simp; omega)]
  exact Rk.ok h20.1.symm
 subst h22
 have hh:(headS (esOf w c d)).length≤60:=by rw [h20.1]; simp; omega
 refine Rk.bind (P:=fun s60=>s60=esOf w c d) ?_ fun s60 h60=>?_
 ·rw [d1,bind_ok]
  rcases hd with rfl | rfl | rfl | rfl <;> exact Rk.ok rfl
 subst h60
 refine Rk.bind (drw (k:=87) (many:=5) hc (by decide) (by decide) (by decide) (by decide)) fun s64 h64=>?_
 refine Rk.itd (fun q=>?_) fun q=>?_
 ·rw [heads_is hw,bind_ok]
  refine Rk.bind (P:=fun x=>x=true) ?_ fun x hx=>Rk.ok hx
  refine Rk.bind (P:=fun x=>x=refused) ?_ fun x hx=>Rk.ok (by rw [hx]; exact ref_dec)
  refine Rk.bind (P:=Bad) ?_ fun t ht=>⟨_,asked_exc ht,rfl⟩
  refine Rk.bind (drw hc (by decide) (by decide) (by decide) (by simp [HL])) fun k hk=>?_
  exact ixlit (heads_bad hw) hk.1 hk.2
 ·refine Rk.itd (fun q2=>?_) fun q2=>?_
  ·rw [lines_is hl hcc,bind_ok]
   have hne:0 < ((BL w [c]).length:Int):=by
    unfold BL; simp; omega
   refine Rk.bind (P:=fun s128=>∃ b∈BL w [c],s128=headS (esOf w c d)++[10]++b) ?_ fun s128 h128=>?_
   ·rw [catR_ok (by simp; omega),bind_ok]
    refine Rk.bind (P:=fun b=>b∈BL w [c]) (Rk.bind (drw hc (by decide) (by decide) (by decide) hne) fun k hk=>ixlit (P:=fun b=>b∈BL w [c]) (fun b hb=>hb) hk.1 hk.2) fun b hb=>?_
    have:=bl_len hw hcc b hb
    rw [catR_ok (by simp; omega)]
    exact Rk.ok ⟨b,hb,rfl⟩
   obtain ⟨b,hb,rfl⟩:=h128
   have hbl:=bl_len hw hcc b hb
   refine Rk.bind (P:=Bad) ?_ fun t ht=>?_
   ·refine Rk.itd (fun q3=>?_) fun q3=>?_
    ·rw [catR_ok (by simp; omega),bind_ok,catR_ok (by simp; omega),bind_ok,catR_ok (by simp; omega),bind_ok]
     refine Rk.ok ?_
     have:=all_bad hw he hcc (ext:=[10,49,58,32,c,32,53]) (.inr rfl) b hb
     simpa using this
    ·refine Rk.ok ?_
     have:=all_bad hw he hcc (ext:=[]) (.inl rfl) b hb
     simpa using this
   ·rw [asked_exc ht]
    exact Rk.ok ref_dec
  ·refine Rk.bind (P:=fun N=>NotesOk (esOf w c d) 30 N∧(∀ n∈N,okNtW n)∧N.length≤2) ?_ fun N hN=>?_
   ·unfold f_law_good
    refine Rk.bind (P:=fun s5=>1≤s5∧s5≤29) (Rk.bind (drw (k:=84) (many:=29) hc (by decide) (by decide) (by decide) (by decide)) fun z hz=>Rk.ok ⟨by omega,by omega⟩) fun s5 h5=>?_
    dsimp only
    rw [catR_ok (by simp),bind_ok]
    refine Rk.bind (Rk.bind (drw (k:=85) (many:=5) hc (by decide) (by decide) (by decide) (by decide)) fun k hk=>ixlit (good_ok he hcc hne h5.1 h5.2) hk.1 hk.2) fun N hN=>Rk.ok hN
   ·obtain ⟨n1,n2,n3⟩:=hN
    have hE:∀ o∈esOf w c d,okE o:=fun o ho=>okE_of (he.w o ho)
    have h4:=he.l4
    rw [mapR_sz noteS (fun n hn=>(line_of_ok (n2 n hn).o).eq) (by omega),bind_ok,catR_ok (by simp; omega),bind_ok]
    rw [show [headS (esOf w c d)]++N.map noteS=headS (esOf w c d) :: N.map noteS from rfl,joinR_ok (Nat.le_trans (app_b (by omega) hE (by omega) fun n hn=>(n2 n hn).o) (by decide)),bind_ok]
    have rd:=asked_told (appread_ok (by omega) he.w (by omega) n2 n1)
    have rd':f_law_asked_v1 (joinL [10] (headS (esOf w c d) :: N.map noteS))=_:=rd
    rw [rd',bind_ok]
    have hg:gd 8 (kP2 (kT (kO kS)) (kT (kP2 kI (kT (kP2 (kO kS) (kT kI))))) (esOf w c d,N)):=by
     refine gdP (n:=7) (gdT (by show (esOf w c d).length≤100000; omega) fun o _=>gdO (fun w=>gdS _ w) o) ?_
     refine gdT (n:=6) (by show N.length≤100000; omega) fun n hn=>gdP (gdI _ _) ?_
     refine gdT (by have:=(n2 n hn).o.l; omega) fun r hr=>gdP (gdO (fun w=>gdS _ w) _) (gdT (by have:=((n2 n hn).r r hr).n; omega) fun i _=>gdI _ i)
    rw [decide_eq_true (rfl:(([116,111,108,100],some (esOf w c d,N)):List Nat×Option (List Ent×List Nte)).1=[116,111,108,100]),if_pos rfl]
    have sm:=same_ok hg
    exact Rk.bind (P:=fun x=>x=true) ⟨_,sm,rfl⟩ fun x hx=>Rk.ok hx
theorem m_law(ns:List Int)(hl:ns.length≤63)(hb:∀ z∈ns,z.natAbs.log2≤1048576):f_law_v63 ns = .ok true:=by
 refine Rk.eq ?_
 unfold f_law_v63
 have hcut:(cutL ns none (some (60:Int))).length≤60∧∀ z∈cutL ns none (some (60:Int)),z∈ns:=by
  rw [cut_take (by decide)]
  exact ⟨by rw [List.length_take]; exact Nat.min_le_left _ _,fun z hz=>List.mem_of_mem_take hz⟩
 rw [catR_ok (by simp; omega),bind_ok]
 refine Rk.bok (Rk.forU fun x hx=>?_) ?_
 ·have hx':okN x:=by
   rcases List.mem_append.mp hx with q | q
   ·rw [List.mem_singleton] at q; rw [q]; exact okN_zero
   ·exact okN_of (hb x (hcut.2 x q))
  obtain ⟨r,hr,hr2⟩:=right_ok hx'
  subst hr2
  rw [hr]
  exact Rk.ok rfl
 ·have r1:f_law_asked_v1 [10,48,58,32,97,32,49] = .ok refused:=asked_exc rfl
  have r2:f_apparatus_read [] = .ok ([],[]):=rfl
  have r3:f_law_same_v1 8 (PV.tup [.tup [],.tup []]) (PV.tup [.tup [],.tup []]) = .ok true:=same_ok (by simp [gd])
  dsimp only [Ctl.then]
  rw [r1,bind_ok,ref_dec,bind_ok,Bool.not_true,if_neg (by decide),r2,bind_ok]
  show Rk (((Res.ok (PV.tup [.tup [],.tup []])).bind fun x38=>f_law_same_v1 8 x38 (PV.tup [.tup [],.tup []])).bind _) _
  rw [bind_ok,r3]
  exact Rk.ok rfl
end Vm
end
section
set_option Elab.async false
set_option linter.all false
set_option maxRecDepth 100000
set_option maxHeartbeats 4000000
set_option synthInstance.maxSize 2000
set_option synthInstance.maxHeartbeats 400000
namespace Vm
theorem t_look_rows(v_rows:List (Int))(v_many:Int)(v_taken:List ((Int)×(Option (List Nat)))):RefG (tv .fz kN) (d_look_rows [(kT kI) v_rows,kI v_many,(kD kI (kO kS)) v_taken]) (f_look_rows v_rows v_many v_taken) :=
 (tFn (gIfD (xV (rEq (rLenT (rV .fz (kT kI) v_rows)) (rV .fz kI (0:Int)))) (gRaiseS 4 trivial) (gNil (gPrim (pSet 3 (rV .fz kI (0:Int)) trivial) (fun (s1:Int)=>gPrim1 (pFor (fun (s2:((Int)))=>[some (.fz,(kT kI) v_rows),some (.fz,kI v_many),some (.fz,(kD kI (kO kS)) v_taken),some (.fz,kI s2),none]) s1 (iSeqT (rV .fz (kT kI) v_rows)) rfl (fun (s2:((Int))) (x3:Int)=>⟨_,rfl,gIfD (xO (xV (rLe (rV .fz kI x3) (rV .fz kI s2))) (xO (xV (rGe (rV .fz kI x3) (rV .fz kI v_many))) (xV (rDIn (rV .fz kI x3) (rV .fz (kD kI (kO kS)) v_taken))))) (gRaiseS 4 trivial) (gNil (gPrim1 (pSet 3 (rV .fz kI x3) trivial) (fun (s4:Int)=>gOk (s:=s4) ⟨_,.inl rfl,rfl⟩))) trivial⟩) trivial) (fun (s6:((Int)))=>gOk (s:=()) (.inr ⟨_,rfl,rfl⟩))))) trivial):RefG (tv .fz kN) (d_look_rows [(kT kI) v_rows,kI v_many,(kD kI (kO kS)) v_taken]) _)
theorem t_look_readings(v_base:Option (List Nat))(v_readings:List (((Option (List Nat))×List (Int))))(v_many:Int):RefG (tv (.ow 1) (kD kI (kO kS))) (d_look_readings [(kO kS) v_base,(kT (kP2 (kO kS) (kT kI))) v_readings,kI v_many]) (f_look_readings v_base v_readings v_many) :=
 (tFn (gIfD (xV (rEq (rLenT (rV .fz (kT (kP2 (kO kS) (kT kI))) v_readings)) (rV .fz kI (0:Int)))) (gRaiseS 4 trivial) (gNil (gPrim (pSetO 3 (rD0 (ka:=kI) (kb:=(kO kS)) 1) trivial) (fun (s1:List ((Int)×(Option (List Nat))))=>gPrim (pSetO 4 (rV (.ow 1) (kL (kO kS)) ([]:List (Option (List Nat)))) trivial) (fun (s2:List (Option (List Nat)))=>gPrim (pSet 5 (rV .fz kI (0:Int)) trivial) (fun (s3:Int)=>gPrim (pFor (fun (s4:((List ((Int)×(Option (List Nat))))×(List (Option (List Nat)))×(Int)))=>[some (.fz,(kO kS) v_base),some (.fz,(kT (kP2 (kO kS) (kT kI))) v_readings),some (.fz,kI v_many),some (.ow 1,(kD kI (kO kS)) s4.1),some (.ow 1,(kL (kO kS)) s4.2.1),some (.fz,kI s4.2.2),none,none,none]) ((s1,s2,s3)) (iSeqT (rV .fz (kT (kP2 (kO kS) (kT kI))) v_readings)) rfl (fun (s4:((List ((Int)×(Option (List Nat))))×(List (Option (List Nat)))×(Int))) (x5:((Option (List Nat))×List (Int)))=>⟨_,rfl,gIfD (xO (xV (rEq (rV .fz (kO kS) x5.1) (rV .fz (kO kS) v_base))) (xV (rInL (rV .fz (kO kS) x5.1) (rV (.bw 1) (kL (kO kS)) s4.2.1)))) (gRaiseS 4 trivial) (gNil (gPrim (pEx (argsC (rV .fz (kT kI) x5.2) (fun (y6:List (Int))=>argsC (rV .fz kI v_many) (fun (y7:Int)=>argsC (rV (.bw 1) (kD kI (kO kS)) s4.1) (fun (y8:List ((Int)×(Option (List Nat))))=>argsN (rCallS [(kT kI) y6,kI y7,(kD kI (kO kS)) y8] (t_look_rows y6 y7 y8) st_fz))))) trivial) (fun (s9:Unit)=>gIfD (xV (rLe (rIxT (rV .fz (kT kI) x5.2) (rV .fz kI (0:Int))) (rV .fz kI s4.2.2))) (gRaiseS 4 trivial) (gNil (gPrim (pSet 5 (rIxT (rV .fz (kT kI) x5.2) (rV .fz kI (0:Int))) trivial) (fun (s11:Int)=>gPrim (pApp 4 (l:=s4.2.1) (rV .fz (kO kS) x5.1) trivial rfl) (fun (s12:List (Option (List Nat)))=>gPrim1 (pFor (fun (s13:((List ((Int)×(Option (List Nat))))))=>[some (.fz,(kO kS) v_base),some (.fz,(kT (kP2 (kO kS) (kT kI))) v_readings),some (.fz,kI v_many),some (.ow 1,(kD kI (kO kS)) s13),some (.ow 1,(kL (kO kS)) s12),some (.fz,kI s11),some (.fz,(kO kS) x5.1),some (.fz,(kT kI) x5.2),none]) s4.1 (iSeqT (rV .fz (kT kI) x5.2)) rfl (fun (s13:((List ((Int)×(Option (List Nat)))))) (x14:Int)=>⟨_,rfl,gPrim1 (pDPut 3 (rV .fz (kO kS) x5.1) (rV .fz kI x14) trivial (d:=s13) rfl) (fun (s15:List ((Int)×(Option (List Nat))))=>gOk (s:=s15) ⟨_,.inl rfl,rfl⟩)⟩) trivial) (fun (s16:((List ((Int)×(Option (List Nat))))))=>gOk (s:=(s16,s12,s11)) ⟨_,.inl rfl,rfl⟩))))) trivial))) trivial⟩) trivial) (fun (s19:((List ((Int)×(Option (List Nat))))×(List (Option (List Nat)))×(Int)))=>gRetV 3 rfl (gOk (s:=s19.1) (.inl ⟨_,rfl⟩)))))))) trivial):RefG (tv (.ow 1) (kD kI (kO kS))) (d_look_readings [(kO kS) v_base,(kT (kP2 (kO kS) (kT kI))) v_readings,kI v_many]) _)
theorem t_column_back(v_base:Option (List Nat))(v_many:Int)(v_taken:List ((Int)×(Option (List Nat)))):RefG (tv .fz (kT (kO kS))) (d_column_back [(kO kS) v_base,kI v_many,(kD kI (kO kS)) v_taken]) (f_column_back v_base v_many v_taken) :=
 (tFn (gRet (rTupL (rLM (iRng (rV .fz kI v_many)) (fun (z3:Int)=>⟨_,rfl,rDGet (rV .fz (kD kI (kO kS)) v_taken) (rV .fz kI z3) (rV .fz (kO kS) v_base)⟩))) (fun (r5:List (Option (List Nat)))=>gOk (s:=r5) (.inl ⟨_,rfl⟩)) trivial):RefG (tv .fz (kT (kO kS))) (d_column_back [(kO kS) v_base,kI v_many,(kD kI (kO kS)) v_taken]) _)
theorem t_collation_back(v_entries:List (Option (List Nat)))(v_many:Int)(v_notes:List (((Int)×List (((Option (List Nat))×List (Int)))))):RefG (tv .fz (kT (kT (kO kS)))) (d_collation_back [(kT (kO kS)) v_entries,kI v_many,(kT (kP2 kI (kT (kP2 (kO kS) (kT kI))))) v_notes]) (f_collation_back v_entries v_many v_notes) :=
 (tFn (gPrim (pSetO 3 (rLM (iSeqT (rV .fz (kT (kO kS)) v_entries)) (fun (z1:Option (List Nat))=>⟨_,rfl,argsC (rV .fz (kO kS) z1) (fun (y2:Option (List Nat))=>argsC (rV .fz kI v_many) (fun (y3:Int)=>argsC (rD0 (ka:=kI) (kb:=(kO kS)) 1) (fun (y4:List ((Int)×(Option (List Nat))))=>argsN (rCallB [(kO kS) y2,kI y3,(kD kI (kO kS)) y4] (t_column_back y2 y3 y4)))))⟩)) trivial) (fun (s5:List (List (Option (List Nat))))=>gPrim (pSet 4 (rNeg (rV .fz kI (1:Int))) trivial) (fun (s6:Int)=>gPrim (pFor (fun (s7:((List (List (Option (List Nat))))×(Int)))=>[some (.fz,(kT (kO kS)) v_entries),some (.fz,kI v_many),some (.fz,(kT (kP2 kI (kT (kP2 (kO kS) (kT kI))))) v_notes),some (.ow 1,(kL (kT (kO kS))) s7.1),some (.fz,kI s7.2),none,none,none]) ((s5,s6)) (iSeqT (rV .fz (kT (kP2 kI (kT (kP2 (kO kS) (kT kI))))) v_notes)) rfl (fun (s7:((List (List (Option (List Nat))))×(Int))) (x8:((Int)×List (((Option (List Nat))×List (Int)))))=>⟨_,rfl,gIfD (xO (xV (rLe (rV .fz kI x8.1) (rV .fz kI s7.2))) (xV (rGe (rV .fz kI x8.1) (rLenT (rV .fz (kT (kO kS)) v_entries))))) (gRaiseS 4 trivial) (gNil (gPrim (pSet 4 (rV .fz kI x8.1) trivial) (fun (s9:Int)=>gPrim1 (pSetIx 3 (argsC (rIxT (rV .fz (kT (kO kS)) v_entries) (rV .fz kI x8.1)) (fun (y31:Option (List Nat))=>argsC (rV .fz kI v_many) (fun (y32:Int)=>argsC (argsC (rIxT (rV .fz (kT (kO kS)) v_entries) (rV .fz kI x8.1)) (fun (y27:Option (List Nat))=>argsC (rV .fz (kT (kP2 (kO kS) (kT kI))) x8.2) (fun (y28:List (((Option (List Nat))×List (Int))))=>argsC (rV .fz kI v_many) (fun (y29:Int)=>argsN (rCallB [(kO kS) y27,(kT (kP2 (kO kS) (kT kI))) y28,kI y29] (t_look_readings y27 y28 y29)))))) (fun (y33:List ((Int)×(Option (List Nat))))=>argsN (rCallB [(kO kS) y31,kI y32,(kD kI (kO kS)) y33] (t_column_back y31 y32 y33)))))) (rV .fz kI x8.1) trivial (l:=s7.1) rfl) (fun (s37:List (List (Option (List Nat))))=>gOk (s:=(s37,s9)) ⟨_,.inl rfl,rfl⟩)))) trivial⟩) trivial) (fun (s39:((List (List (Option (List Nat))))×(Int)))=>gRet (rTupL (rV (.bw 1) (kL (kT (kO kS))) s39.1)) (fun (r40:List (List (Option (List Nat))))=>gOk (s:=r40) (.inl ⟨_,rfl⟩)) trivial)))):RefG (tv .fz (kT (kT (kO kS)))) (d_collation_back [(kT (kO kS)) v_entries,kI v_many,(kT (kP2 kI (kT (kP2 (kO kS) (kT kI))))) v_notes]) _)
theorem t_entry_read(v_text:List Nat):RefG (tv .fz (kO kS)) (d_entry_read [kS v_text]) (f_entry_read v_text) :=
 (tFn (gIfD (xV (rEq (rV .fz kS v_text) (rV .fz kS ([45]:List Nat)))) (gRetS (rV .fz (kO kS) none) (fun (r1:Option (List Nat))=>gOk (s:=r1) (.inl ⟨_,rfl⟩)) trivial) (gNil (gIfD (xO (xV (rLt (rLenS (rV .fz kS v_text)) (rV .fz kI (1:Int)))) (xV (rGt (rLenS (rV .fz kS v_text)) (rV .fz kI (12:Int))))) (gRaiseS 4 trivial) (gNil (gPrim (pFor (fun (s2:Unit)=>[some (.fz,kS v_text),none]) (()) (iSeqS (rV .fz kS v_text)) rfl (fun (s2:Unit) (x3:List Nat)=>⟨_,rfl,gIf (xV (rNotInS (rV .fz kS x3) (rV .fz kS ([97,98,99,100,101,102,103,104,105,106,107,108,109,110,111,112,113,114,115,116,117,118,119,120,121,122]:List Nat)))) (gRaise 4 trivial) (gNil1 (gOk (s:=()) ⟨_,.inl rfl,rfl⟩)) trivial⟩) trivial) (fun (s5:Unit)=>gRetV 0 rfl (gOk (s:=some v_text) (.inl ⟨_,rfl⟩))))) trivial)) trivial):RefG (tv .fz (kO kS)) (d_entry_read [kS v_text]) _)
theorem t_number_read(v_text:List Nat):RefG (tv .fz kI) (d_number_read [kS v_text]) (f_number_read v_text) :=
 (tFn (gIfD (xO (xV (rLt (rLenS (rV .fz kS v_text)) (rV .fz kI (1:Int)))) (xO (xV (rGt (rLenS (rV .fz kS v_text)) (rV .fz kI (4:Int)))) (xA (xV (rGt (rLenS (rV .fz kS v_text)) (rV .fz kI (1:Int)))) (xV (rEq (rIxS (rV .fz kS v_text) (rV .fz kI (0:Int))) (rV .fz kS ([48]:List Nat))))))) (gRaiseS 4 trivial) (gNil (gPrim (pFor (fun (s2:Unit)=>[some (.fz,kS v_text),none]) (()) (iSeqS (rV .fz kS v_text)) rfl (fun (s2:Unit) (x3:List Nat)=>⟨_,rfl,gIf (xV (rNotInS (rV .fz kS x3) (rV .fz kS ([48,49,50,51,52,53,54,55,56,57]:List Nat)))) (gRaise 4 trivial) (gNil1 (gOk (s:=()) ⟨_,.inl rfl,rfl⟩)) trivial⟩) trivial) (fun (s5:Unit)=>gRet (rIntT (rV .fz kS v_text)) (fun (r6:Int)=>gOk (s:=r6) (.inl ⟨_,rfl⟩)) trivial))) trivial):RefG (tv .fz kI) (d_number_read [kS v_text]) _)
theorem t_two_parts(v_text:List Nat)(v_mark:List Nat):RefG (tv .fz (kP2 kS kS)) (d_two_parts [kS v_text,kS v_mark]) (f_two_parts v_text v_mark) :=
 (tFn (gPrim (pSetT [2,3,4] (rPart (rV .fz kS v_text) (rV .fz kS v_mark)) trivial (fun _=>rfl)) (fun (s1:((List Nat)×(List Nat)×List Nat))=>gIfD (xV (rEq (rV .fz kS s1.2.1) (rV .fz kS ([]:List Nat)))) (gRaiseS 4 trivial) (gNil (gRet (argsC (rV .fz kS s1.1) (fun (y4:List Nat)=>argsC (rV .fz kS s1.2.2) (fun (y5:List Nat)=>argsE (tv .fz (kP2 kS kS)) ((y4,y5):((List Nat)×List Nat)) rfl))) (fun (r6:((List Nat)×List Nat))=>gOk (s:=r6) (.inl ⟨_,rfl⟩)) trivial)) trivial)):RefG (tv .fz (kP2 kS kS)) (d_two_parts [kS v_text,kS v_mark]) _)
theorem t_reading_read(v_text:List Nat):RefG (tv .fz (kP2 (kO kS) (kT kI))) (d_reading_read [kS v_text]) (f_reading_read v_text) :=
 (tFn (gPrim (pSetT [1,2] (argsC (rV .fz kS v_text) (fun (y1:List Nat)=>argsC (rV .fz kS ([32]:List Nat)) (fun (y2:List Nat)=>argsN (rCallB [kS y1,kS y2] (t_two_parts y1 y2))))) trivial (fun _=>rfl)) (fun (s3:((List Nat)×List Nat))=>gRet (argsC (argsC (rV .fz kS s3.1) (fun (y12:List Nat)=>argsN (rCallB [kS y12] (t_entry_read y12)))) (fun (y16:Option (List Nat))=>argsC (rTupL (rLMX (iSeqL (rSplit (rV .fz kS s3.2) (rV .fz kS ([44]:List Nat)))) (fun (z13:List Nat)=>⟨_,rfl,argsC (rV .fz kS z13) (fun (y14:List Nat)=>argsN (rCallB [kS y14] (t_number_read y14)))⟩))) (fun (y17:List (Int))=>argsE (tv .fz (kP2 (kO kS) (kT kI))) ((y16,y17):((Option (List Nat))×List (Int))) rfl))) (fun (r20:((Option (List Nat))×List (Int)))=>gOk (s:=r20) (.inl ⟨_,rfl⟩)) trivial)):RefG (tv .fz (kP2 (kO kS) (kT kI))) (d_reading_read [kS v_text]) _)
theorem t_note_read(v_line:List Nat):RefG (tv .fz (kP2 kI (kT (kP2 (kO kS) (kT kI))))) (d_note_read [kS v_line]) (f_note_read v_line) :=
 (tFn (gPrim (pSetT [1,2] (argsC (rV .fz kS v_line) (fun (y1:List Nat)=>argsC (rV .fz kS ([58,32]:List Nat)) (fun (y2:List Nat)=>argsN (rCallB [kS y1,kS y2] (t_two_parts y1 y2))))) trivial (fun _=>rfl)) (fun (s3:((List Nat)×List Nat))=>gRet (argsC (argsC (rV .fz kS s3.1) (fun (y12:List Nat)=>argsN (rCallB [kS y12] (t_number_read y12)))) (fun (y16:Int)=>argsC (rTupL (rLMX (iSeqL (rSplit (rV .fz kS s3.2) (rV .fz kS ([59,32]:List Nat)))) (fun (z13:List Nat)=>⟨_,rfl,argsC (rV .fz kS z13) (fun (y14:List Nat)=>argsN (rCallB [kS y14] (t_reading_read y14)))⟩))) (fun (y17:List (((Option (List Nat))×List (Int))))=>argsE (tv .fz (kP2 kI (kT (kP2 (kO kS) (kT kI))))) ((y16,y17):((Int)×List (((Option (List Nat))×List (Int))))) rfl))) (fun (r20:((Int)×List (((Option (List Nat))×List (Int)))))=>gOk (s:=r20) (.inl ⟨_,rfl⟩)) trivial)):RefG (tv .fz (kP2 kI (kT (kP2 (kO kS) (kT kI))))) (d_note_read [kS v_line]) _)
theorem t_apparatus_read(v_text:List Nat):RefG (tv .fz (kP2 (kT (kO kS)) (kT (kP2 kI (kT (kP2 (kO kS) (kT kI))))))) (d_apparatus_read [kS v_text]) (f_apparatus_read v_text) :=
 (tFn (gPrim (pSet 1 (rSplit (rV .fz kS v_text) (rV .fz kS ([10]:List Nat))) trivial) (fun (s1:List (List Nat))=>gPrim (pSet 2 (rV .fz (kT (kO kS)) ([]:List (Option (List Nat)))) trivial) (fun (s2:List (Option (List Nat)))=>gPrim (u':=fun (s9:((List (Option (List Nat)))))=>[some (.fz,kS v_text),some (.fz,(kL kS) s1),some (.fz,(kT (kO kS)) s9),none,none,none]) (gIf (β:=((List (Option (List Nat))))) (Post:=NxP (fun (s9:((List (Option (List Nat))))) Γ'=>Γ'=[some (.fz,kS v_text),some (.fz,(kL kS) s1),some (.fz,(kT (kO kS)) s9),none,none,none])) (xV (rNe (rIxL (rV .fz (kL kS) s1) (rV .fz kI (0:Int))) (rV .fz kS ([]:List Nat)))) (gPrim1 (pSet 2 (rTupL (rLMX (iSeqL (rSplit (rIxL (rV .fz (kL kS) s1) (rV .fz kI (0:Int))) (rV .fz kS ([32,124,32]:List Nat)))) (fun (z12:List Nat)=>⟨_,rfl,argsC (rV .fz kS z12) (fun (y13:List Nat)=>argsN (rCallB [kS y13] (t_entry_read y13)))⟩))) trivial) (fun (s15:List (Option (List Nat)))=>gOk (s:=s15) ⟨_,rfl,rfl⟩)) (gNil1 (gOk (s:=s2) ⟨_,rfl,rfl⟩)) trivial) (fun s9=>gPrim (pSet 3 (rTupL (rLMX (iSeqL (rSlL (rV .fz (kL kS) s1) (oS (rV .fz kI (1:Int))) (oN))) (fun (z16:List Nat)=>⟨_,rfl,argsC (rV .fz kS z16) (fun (y17:List Nat)=>argsN (rCallB [kS y17] (t_note_read y17)))⟩))) trivial) (fun (s18:List (((Int)×List (((Option (List Nat))×List (Int))))))=>gPrim (pEx (argsC (rV .fz (kT (kO kS)) s9) (fun (y19:List (Option (List Nat)))=>argsC (rV .fz kI (30:Int)) (fun (y20:Int)=>argsC (rV .fz (kT (kP2 kI (kT (kP2 (kO kS) (kT kI))))) s18) (fun (y21:List (((Int)×List (((Option (List Nat))×List (Int))))))=>argsN (rCallB [(kT (kO kS)) y19,kI y20,(kT (kP2 kI (kT (kP2 (kO kS) (kT kI))))) y21] (t_collation_back y19 y20 y21)))))) trivial) (fun (s22:Unit)=>gRet (argsC (rV .fz (kT (kO kS)) s9) (fun (y25:List (Option (List Nat)))=>argsC (rV .fz (kT (kP2 kI (kT (kP2 (kO kS) (kT kI))))) s18) (fun (y26:List (((Int)×List (((Option (List Nat))×List (Int))))))=>argsE (tv .fz (kP2 (kT (kO kS)) (kT (kP2 kI (kT (kP2 (kO kS) (kT kI))))))) ((y25,y26):((List (Option (List Nat)))×List (((Int)×List (((Option (List Nat))×List (Int))))))) rfl))) (fun (r27:((List (Option (List Nat)))×List (((Int)×List (((Option (List Nat))×List (Int)))))))=>gOk (s:=r27) (.inl ⟨_,rfl⟩)) trivial)))))):RefG (tv .fz (kP2 (kT (kO kS)) (kT (kP2 kI (kT (kP2 (kO kS) (kT kI))))))) (d_apparatus_read [kS v_text]) _)
theorem t_law_draw(v_cell:Int)(v_k:Int)(v_many:Int):RefG (tv .fz kI) (d_law_draw [kI v_cell,kI v_k,kI v_many]) (f_law_draw v_cell v_k v_many) :=
 (tFn (gPrim (pSet 3 (rV .fz kI (170141183460469231731687303715884105727:Int)) trivial) (fun (s1:Int)=>gPrim (pSet 4 (rMod (rMul2 (rAddI (rMul2 (rV .fz kI v_cell) (rV .fz kI (2:Int))) (rV .fz kI (1:Int))) (rAddI (rMul2 (rMul2 (rV .fz kI v_k) (rV .fz kI v_k)) (rV .fz kI (9176023:Int))) (rV .fz kI (84127918273645463728191:Int)))) (rV .fz kI s1)) trivial) (fun (s8:Int)=>gRet (rMod (rFdivC (rMod (rMul2 (rV .fz kI s8) (rAddI (rV .fz kI s8) (rV .fz kI (5:Int)))) (rV .fz kI s1))) (rV .fz kI v_many)) (fun (r15:Int)=>gOk (s:=r15) (.inl ⟨_,rfl⟩)) trivial))):RefG (tv .fz kI) (d_law_draw [kI v_cell,kI v_k,kI v_many]) _)
theorem t_law_same_v1(n:Nat)(v_found:PV)(v_due:PV):RefG (tv .fz kB) (d_law_same_v1 n [kV v_found,kV v_due]) (f_law_same_v1 n v_found v_due):=RefG.asB
theorem t_law_word_by(v_cell:Int)(v_k:Int):RefG (tv .fz kS) (d_law_word_by [kI v_cell,kI v_k]) (f_law_word_by v_cell v_k) :=
 (tFn (gPrim (pSet 2 (rV .fz kS ([]:List Nat)) trivial) (fun (s1:List Nat)=>gPrim (pFor (fun (s2:((List Nat)))=>[some (.fz,kI v_cell),some (.fz,kI v_k),some (.fz,kS s2),none]) s1 (iRng (rIxL (argsC (rV .fz kI (1:Int)) (fun (y3:Int)=>argsC (rV .fz kI (2:Int)) (fun (y4:Int)=>argsC (rV .fz kI (3:Int)) (fun (y5:Int)=>argsC (rV .fz kI (12:Int)) (fun (y6:Int)=>argsE (tv (.ow 1) (kL kI)) ([y3,y4,y5,y6]:List (Int)) rfl))))) (argsC (rV .fz kI v_cell) (fun (y9:Int)=>argsC (rAddI (rMul2 (rV .fz kI (10:Int)) (rV .fz kI v_k)) (rV .fz kI (1:Int))) (fun (y10:Int)=>argsC (rV .fz kI (4:Int)) (fun (y11:Int)=>argsN (rCallB [kI y9,kI y10,kI y11] (t_law_draw y9 y10 y11)))))))) rfl (fun (s2:((List Nat))) (x15:Int)=>⟨_,rfl,gPrim1 (pSet 2 (rAddS (rV .fz kS s2) (rIxS (rV .fz kS ([97,98,99,100,101,102,103,104,105,106,107,108,109,110,111,112,113,114,115,116,117,118,119,120,121,122]:List Nat)) (argsC (rV .fz kI v_cell) (fun (y20:Int)=>argsC (rAddI (rAddI (rV .fz kI (300:Int)) (rMul2 (rV .fz kI (20:Int)) (rV .fz kI v_k))) (rV .fz kI x15)) (fun (y21:Int)=>argsC (rV .fz kI (26:Int)) (fun (y22:Int)=>argsN (rCallB [kI y20,kI y21,kI y22] (t_law_draw y20 y21 y22)))))))) trivial) (fun (s26:List Nat)=>gOk (s:=s26) ⟨_,.inl rfl,rfl⟩)⟩) trivial) (fun (s28:((List Nat)))=>gRetV 2 rfl (gOk (s:=s28) (.inl ⟨_,rfl⟩))))):RefG (tv .fz kS) (d_law_word_by [kI v_cell,kI v_k]) _)
theorem t_law_asked_v1(v_line:List Nat):RefG (tv .fz (kP2 kS (kO (kP2 (kT (kO kS)) (kT (kP2 kI (kT (kP2 (kO kS) (kT kI))))))))) (d_law_asked_v1 [kS v_line]) (f_law_asked_v1 v_line) :=
 (tFn (gPrim (pSet 1 (RefG.co (f':=tv .fz kV) (c:=kN) (rV .fz kN ()) (fun _=>rfl)) trivial) (fun (s1:PV)=>gPrim (pSet 2 (rV .fz (kO (kP2 (kT (kO kS)) (kT (kP2 kI (kT (kP2 (kO kS) (kT kI))))))) none) trivial) (fun (s2:Option (((List (Option (List Nat)))×List (((Int)×List (((Option (List Nat))×List (Int))))))))=>gPrim (u':=fun (s8:((PV)×(Option (((List (Option (List Nat)))×List (((Int)×List (((Option (List Nat))×List (Int))))))))))=>[some (.fz,kS v_line),some (.fz,kV s8.1),some (.fz,(kO (kP2 (kT (kO kS)) (kT (kP2 kI (kT (kP2 (kO kS) (kT kI))))))) s8.2),none]) (gTryT (σ:=((PV)×(Option (((List (Option (List Nat)))×List (((Int)×List (((Option (List Nat))×List (Int)))))))))) (P:=(fun (s8:((PV)×(Option (((List (Option (List Nat)))×List (((Int)×List (((Option (List Nat))×List (Int)))))))))) Γ'=>Γ'=[some (.fz,kS v_line),some (.fz,kV s8.1),some (.fz,(kO (kP2 (kT (kO kS)) (kT (kP2 kI (kT (kP2 (kO kS) (kT kI))))))) s8.2),none])) (gPrim1 (pSet 2 (RefG.co (f':=tv .fz (kO (kP2 (kT (kO kS)) (kT (kP2 kI (kT (kP2 (kO kS) (kT kI)))))))) (c:=some) (argsC (rV .fz kS v_line) (fun (y11:List Nat)=>argsN (rCallB [kS y11] (t_apparatus_read y11)))) (fun _=>rfl)) rfl) (fun (s13:Option (((List (Option (List Nat)))×List (((Int)×List (((Option (List Nat))×List (Int))))))))=>gOk (s:=(s1,s13)) ⟨_,rfl,rfl⟩)) (fun (ce:Nat)=>gPrim1 (pSet 1 (rV .fz kV ((PV.exo (ce+2) []))) trivial) (fun (s14:PV)=>gOk (s:=(s14,s2)) ⟨_,rfl,rfl⟩)) trivial) (fun s8=>gIfD (xVD (rOp1D (RefG.co (f':=id) (c:=(tv .fz kV)) (rV .fz kV s8.1) (fun _=>rfl)))) (gRetS (argsC (rV .fz kS ([116,111,108,100]:List Nat)) (fun (y18:List Nat)=>argsC (rV .fz (kO (kP2 (kT (kO kS)) (kT (kP2 kI (kT (kP2 (kO kS) (kT kI))))))) s8.2) (fun (y19:Option (((List (Option (List Nat)))×List (((Int)×List (((Option (List Nat))×List (Int))))))))=>argsE (tv .fz (kP2 kS (kO (kP2 (kT (kO kS)) (kT (kP2 kI (kT (kP2 (kO kS) (kT kI))))))))) ((y18,y19):((List Nat)×Option (((List (Option (List Nat)))×List (((Int)×List (((Option (List Nat))×List (Int))))))))) rfl))) (fun (r20:((List Nat)×Option (((List (Option (List Nat)))×List (((Int)×List (((Option (List Nat))×List (Int)))))))))=>gOk (s:=r20) (.inl ⟨_,rfl⟩)) trivial) (gNil (gIfD (xV (rIsEs (rV .fz kV s8.1))) (gRetS (argsC (rV .fz kS ([97,110,111,116,104,101,114]:List Nat)) (fun (y23:List Nat)=>argsC (rV .fz (kO (kP2 (kT (kO kS)) (kT (kP2 kI (kT (kP2 (kO kS) (kT kI))))))) none) (fun (y24:Option (((List (Option (List Nat)))×List (((Int)×List (((Option (List Nat))×List (Int))))))))=>argsE (tv .fz (kP2 kS (kO (kP2 (kT (kO kS)) (kT (kP2 kI (kT (kP2 (kO kS) (kT kI))))))))) ((y23,y24):((List Nat)×Option (((List (Option (List Nat)))×List (((Int)×List (((Option (List Nat))×List (Int))))))))) rfl))) (fun (r25:((List Nat)×Option (((List (Option (List Nat)))×List (((Int)×List (((Option (List Nat))×List (Int)))))))))=>gOk (s:=r25) (.inl ⟨_,rfl⟩)) trivial) (gNil (gRet (argsC (rIxL (argsC (rV .fz kS ([111,100,100]:List Nat)) (fun (y34:List Nat)=>argsC (rV .fz kS ([114,101,102,117,115,101,100]:List Nat)) (fun (y35:List Nat)=>argsE (tv (.ow 1) (kL kS)) ([y34,y35]:List (List Nat)) rfl))) (rIntB (rAnd (rIsE (rV .fz kV s8.1)) (rIsE (rV .fz kV s8.1))))) (fun (y39:List Nat)=>argsC (rV .fz (kO (kP2 (kT (kO kS)) (kT (kP2 kI (kT (kP2 (kO kS) (kT kI))))))) none) (fun (y40:Option (((List (Option (List Nat)))×List (((Int)×List (((Option (List Nat))×List (Int))))))))=>argsE (tv .fz (kP2 kS (kO (kP2 (kT (kO kS)) (kT (kP2 kI (kT (kP2 (kO kS) (kT kI))))))))) ((y39,y40):((List Nat)×Option (((List (Option (List Nat)))×List (((Int)×List (((Option (List Nat))×List (Int))))))))) rfl))) (fun (r42:((List Nat)×Option (((List (Option (List Nat)))×List (((Int)×List (((Option (List Nat))×List (Int)))))))))=>gOk (s:=r42) (.inl ⟨_,rfl⟩)) trivial)) trivial)) trivial)))):RefG (tv .fz (kP2 kS (kO (kP2 (kT (kO kS)) (kT (kP2 kI (kT (kP2 (kO kS) (kT kI))))))))) (d_law_asked_v1 [kS v_line]) _)
theorem t_law_bad_heads(v_word:List Nat):RefG (tv .fz (kL kS)) (d_law_bad_heads [kS v_word]) (f_law_bad_heads v_word) :=
 (tFn (gPrim (pSet 1 (argsC (rV .fz kS ([32]:List Nat)) (fun (y5:List Nat)=>argsC (rV .fz kS ([65]:List Nat)) (fun (y6:List Nat)=>argsC (rAddS (rV .fz kS v_word) (rV .fz kS ([65]:List Nat))) (fun (y7:List Nat)=>argsC (rV .fz kS ([45,45]:List Nat)) (fun (y8:List Nat)=>argsC (rAddS (rV .fz kS v_word) (rV .fz kS ([32,124]:List Nat))) (fun (y9:List Nat)=>argsC (rAddS (rV .fz kS ([124,32]:List Nat)) (rV .fz kS v_word)) (fun (y10:List Nat)=>argsC (rAddS (rAddS (rV .fz kS v_word) (rV .fz kS ([124]:List Nat))) (rV .fz kS v_word)) (fun (y11:List Nat)=>argsC (rAddS (rAddS (rV .fz kS v_word) (rV .fz kS ([32,124,32,124,32]:List Nat))) (rV .fz kS v_word)) (fun (y12:List Nat)=>argsE (tv (.ow 1) (kL kS)) ([y5,y6,y7,y8,y9,y10,y11,y12]:List (List Nat)) rfl))))))))) trivial) (fun (s18:List (List Nat))=>gPrim (pSet 1 (rAddL (rV .fz (kL kS) s18) (argsC (rAddS (rAddS (rV .fz kS v_word) (rV .fz kS ([32,124,32,32]:List Nat))) (rV .fz kS v_word)) (fun (y38:List Nat)=>argsC (rAddS (rAddS (rV .fz kS v_word) (rV .fz kS ([32,32,124,32]:List Nat))) (rV .fz kS v_word)) (fun (y39:List Nat)=>argsC (rAddS (rV .fz kS ([32]:List Nat)) (rV .fz kS v_word)) (fun (y40:List Nat)=>argsC (rAddS (rV .fz kS v_word) (rV .fz kS ([32]:List Nat))) (fun (y41:List Nat)=>argsC (rAddS (rAddS (rV .fz kS v_word) (rV .fz kS ([32]:List Nat))) (rV .fz kS v_word)) (fun (y42:List Nat)=>argsE (tv (.ow 1) (kL kS)) ([y38,y39,y40,y41,y42]:List (List Nat)) rfl))))))) trivial) (fun (s49:List (List Nat))=>gPrim (pSet 1 (rAddL (rV .fz (kL kS) s49) (argsC (rAddS (rV .fz kS v_word) (rV .fz kS ([32,124,32]:List Nat))) (fun (y62:List Nat)=>argsC (rAddS (rV .fz kS v_word) (rV .fz kS ([10]:List Nat))) (fun (y63:List Nat)=>argsC (rV .fz kS ([10]:List Nat)) (fun (y64:List Nat)=>argsC (rV .fz kS ([97,97,97,97,97,97,97,97,97,97,97,97,97]:List Nat)) (fun (y65:List Nat)=>argsC (rV .fz kS ([97,98,99,100,101,102,103,104,105,106,107,108,109,32,124,32,97]:List Nat)) (fun (y66:List Nat)=>argsC (rAddS (rV .fz kS v_word) (rV .fz kS ([49]:List Nat))) (fun (y67:List Nat)=>argsC (rV .fz kS ([48]:List Nat)) (fun (y68:List Nat)=>argsC (rAddS (rV .fz kS v_word) (rV .fz kS ([32,124,32,45,49]:List Nat))) (fun (y69:List Nat)=>argsE (tv (.ow 1) (kL kS)) ([y62,y63,y64,y65,y66,y67,y68,y69]:List (List Nat)) rfl)))))))))) trivial) (fun (s75:List (List Nat))=>gRetV 1 rfl (gOk (s:=s75) (.inl ⟨_,rfl⟩)))))):RefG (tv .fz (kL kS)) (d_law_bad_heads [kS v_word]) _)
theorem t_law_bad_lines(v_word:List Nat)(v_other:List Nat):RefG (tv .fz (kL kS)) (d_law_bad_lines [kS v_word,kS v_other]) (f_law_bad_lines v_word v_other) :=
 (tFn (gPrim (pSet 2 (argsC (rV .fz kS ([]:List Nat)) (fun (y7:List Nat)=>argsC (rV .fz kS ([48]:List Nat)) (fun (y8:List Nat)=>argsC (rV .fz kS ([48,58]:List Nat)) (fun (y9:List Nat)=>argsC (rV .fz kS ([48,58,32]:List Nat)) (fun (y10:List Nat)=>argsC (rAddS (rAddS (rV .fz kS ([48,58]:List Nat)) (rV .fz kS v_other)) (rV .fz kS ([32,49]:List Nat))) (fun (y11:List Nat)=>argsC (rAddS (rAddS (rV .fz kS ([48,32,58,32]:List Nat)) (rV .fz kS v_other)) (rV .fz kS ([32,49]:List Nat))) (fun (y12:List Nat)=>argsC (rAddS (rV .fz kS ([48,58,32]:List Nat)) (rV .fz kS v_other)) (fun (y13:List Nat)=>argsC (rAddS (rAddS (rV .fz kS ([48,58,32]:List Nat)) (rV .fz kS v_other)) (rV .fz kS ([32]:List Nat))) (fun (y14:List Nat)=>argsE (tv (.ow 1) (kL kS)) ([y7,y8,y9,y10,y11,y12,y13,y14]:List (List Nat)) rfl))))))))) trivial) (fun (s19:List (List Nat))=>gPrim (pSet 2 (rAddL (rV .fz (kL kS) s19) (argsC (rAddS (rAddS (rV .fz kS ([48,58,32]:List Nat)) (rV .fz kS v_other)) (rV .fz kS ([32,49,44]:List Nat))) (fun (y40:List Nat)=>argsC (rAddS (rAddS (rV .fz kS ([48,58,32]:List Nat)) (rV .fz kS v_other)) (rV .fz kS ([32,44,49]:List Nat))) (fun (y41:List Nat)=>argsC (rAddS (rAddS (rV .fz kS ([48,58,32]:List Nat)) (rV .fz kS v_other)) (rV .fz kS ([32,49,44,44,50]:List Nat))) (fun (y42:List Nat)=>argsC (rAddS (rAddS (rV .fz kS ([48,58,32]:List Nat)) (rV .fz kS v_other)) (rV .fz kS ([32,49,44,32,50]:List Nat))) (fun (y43:List Nat)=>argsE (tv (.ow 1) (kL kS)) ([y40,y41,y42,y43]:List (List Nat)) rfl)))))) trivial) (fun (s49:List (List Nat))=>gPrim (pSet 2 (rAddL (rV .fz (kL kS) s49) (argsC (rAddS (rAddS (rV .fz kS ([48,58,32]:List Nat)) (rV .fz kS v_other)) (rV .fz kS ([32,48]:List Nat))) (fun (y70:List Nat)=>argsC (rAddS (rAddS (rV .fz kS ([48,58,32]:List Nat)) (rV .fz kS v_other)) (rV .fz kS ([32,51,48]:List Nat))) (fun (y71:List Nat)=>argsC (rAddS (rAddS (rV .fz kS ([48,58,32]:List Nat)) (rV .fz kS v_other)) (rV .fz kS ([32,48,49]:List Nat))) (fun (y72:List Nat)=>argsC (rAddS (rAddS (rV .fz kS ([48,58,32]:List Nat)) (rV .fz kS v_other)) (rV .fz kS ([32,43,49]:List Nat))) (fun (y73:List Nat)=>argsE (tv (.ow 1) (kL kS)) ([y70,y71,y72,y73]:List (List Nat)) rfl)))))) trivial) (fun (s79:List (List Nat))=>gPrim (pSet 2 (rAddL (rV .fz (kL kS) s79) (argsC (rAddS (rAddS (rV .fz kS ([48,58,32]:List Nat)) (rV .fz kS v_other)) (rV .fz kS ([32,45,49]:List Nat))) (fun (y100:List Nat)=>argsC (rAddS (rAddS (rV .fz kS ([48,58,32]:List Nat)) (rV .fz kS v_other)) (rV .fz kS ([32,49,95,48]:List Nat))) (fun (y101:List Nat)=>argsC (rAddS (rAddS (rV .fz kS ([48,58,32]:List Nat)) (rV .fz kS v_other)) (rV .fz kS ([32,120]:List Nat))) (fun (y102:List Nat)=>argsC (rAddS (rAddS (rV .fz kS ([48,58,32]:List Nat)) (rV .fz kS v_other)) (rV .fz kS ([32,50,44,49]:List Nat))) (fun (y103:List Nat)=>argsE (tv (.ow 1) (kL kS)) ([y100,y101,y102,y103]:List (List Nat)) rfl)))))) trivial) (fun (s109:List (List Nat))=>gPrim (pSet 2 (rAddL (rV .fz (kL kS) s109) (argsC (rAddS (rAddS (rV .fz kS ([48,58,32]:List Nat)) (rV .fz kS v_other)) (rV .fz kS ([32,49,44,49]:List Nat))) (fun (y130:List Nat)=>argsC (rAddS (rAddS (rV .fz kS ([48,58,32,32]:List Nat)) (rV .fz kS v_other)) (rV .fz kS ([32,49]:List Nat))) (fun (y131:List Nat)=>argsC (rAddS (rAddS (rV .fz kS ([48,58,32]:List Nat)) (rV .fz kS v_other)) (rV .fz kS ([32,32,49]:List Nat))) (fun (y132:List Nat)=>argsC (rAddS (rAddS (rV .fz kS ([32,48,58,32]:List Nat)) (rV .fz kS v_other)) (rV .fz kS ([32,49]:List Nat))) (fun (y133:List Nat)=>argsE (tv (.ow 1) (kL kS)) ([y130,y131,y132,y133]:List (List Nat)) rfl)))))) trivial) (fun (s139:List (List Nat))=>gPrim (pSet 2 (rAddL (rV .fz (kL kS) s139) (argsC (rAddS (rAddS (rV .fz kS ([48,48,58,32]:List Nat)) (rV .fz kS v_other)) (rV .fz kS ([32,49]:List Nat))) (fun (y160:List Nat)=>argsC (rAddS (rAddS (rV .fz kS ([43,48,58,32]:List Nat)) (rV .fz kS v_other)) (rV .fz kS ([32,49]:List Nat))) (fun (y161:List Nat)=>argsC (rAddS (rAddS (rV .fz kS ([45,49,58,32]:List Nat)) (rV .fz kS v_other)) (rV .fz kS ([32,49]:List Nat))) (fun (y162:List Nat)=>argsC (rAddS (rAddS (rV .fz kS ([57,58,32]:List Nat)) (rV .fz kS v_other)) (rV .fz kS ([32,49]:List Nat))) (fun (y163:List Nat)=>argsE (tv (.ow 1) (kL kS)) ([y160,y161,y162,y163]:List (List Nat)) rfl)))))) trivial) (fun (s169:List (List Nat))=>gPrim (pSet 2 (rAddL (rV .fz (kL kS) s169) (argsC (rAddS (rAddS (rV .fz kS ([48,58,32]:List Nat)) (rV .fz kS v_word)) (rV .fz kS ([32,49]:List Nat))) (fun (y187:List Nat)=>argsC (rV .fz kS ([49,58,32,45,32,49]:List Nat)) (fun (y188:List Nat)=>argsC (rAddS (rAddS (rV .fz kS ([48,58,32]:List Nat)) (rV .fz kS v_other)) (rV .fz kS ([32,49,59,45,32,50]:List Nat))) (fun (y189:List Nat)=>argsC (rAddS (rAddS (rV .fz kS ([48,58,32]:List Nat)) (rV .fz kS v_other)) (rV .fz kS ([32,49,59,32]:List Nat))) (fun (y190:List Nat)=>argsC (rV .fz kS ([49,95,48,58,32,97,32,49]:List Nat)) (fun (y191:List Nat)=>argsE (tv (.ow 1) (kL kS)) ([y187,y188,y189,y190,y191]:List (List Nat)) rfl))))))) trivial) (fun (s196:List (List Nat))=>gPrim (pSet 2 (rAddL (rV .fz (kL kS) s196) (argsC (rAddS (rAddS (rAddS (rAddS (rV .fz kS ([48,58,32]:List Nat)) (rV .fz kS v_other)) (rV .fz kS ([32,49,59,32]:List Nat))) (rV .fz kS v_other)) (rV .fz kS ([32,50]:List Nat))) (fun (y218:List Nat)=>argsC (rAddS (rAddS (rV .fz kS ([48,58,32]:List Nat)) (rV .fz kS v_other)) (rV .fz kS ([32,50,59,32,45,32,49]:List Nat))) (fun (y219:List Nat)=>argsC (rAddS (rAddS (rV .fz kS ([48,58,32]:List Nat)) (rV .fz kS v_other)) (rV .fz kS ([32,49,44,50,59,32,45,32,50]:List Nat))) (fun (y220:List Nat)=>argsE (tv (.ow 1) (kL kS)) ([y218,y219,y220]:List (List Nat)) rfl))))) trivial) (fun (s225:List (List Nat))=>gPrim (pSet 2 (rAddL (rV .fz (kL kS) s225) (argsC (rAddS (rAddS (rV .fz kS ([48,58,32]:List Nat)) (rUpper (rV .fz kS v_other))) (rV .fz kS ([32,49]:List Nat))) (fun (y249:List Nat)=>argsC (rAddS (rAddS (rV .fz kS ([48,58,32]:List Nat)) (rV .fz kS ([97,97,97,97,97,97,97,97,97,97,97,97,97]:List Nat))) (rV .fz kS ([32,49]:List Nat))) (fun (y250:List Nat)=>argsC (rAddS (rAddS (rV .fz kS ([48,58,32]:List Nat)) (rV .fz kS v_other)) (rV .fz kS ([32,49,32]:List Nat))) (fun (y251:List Nat)=>argsC (rAddS (rAddS (rV .fz kS ([48,58,32]:List Nat)) (rV .fz kS v_other)) (rV .fz kS ([49]:List Nat))) (fun (y252:List Nat)=>argsE (tv (.ow 1) (kL kS)) ([y249,y250,y251,y252]:List (List Nat)) rfl)))))) trivial) (fun (s258:List (List Nat))=>gPrim (pSet 2 (rAddL (rV .fz (kL kS) s258) (argsC (rAddS (rAddS (rV .fz kS ([48,58,32]:List Nat)) (rV .fz kS v_other)) (rV .fz kS ([32,49,10]:List Nat))) (fun (y280:List Nat)=>argsC (rAddS (rAddS (rAddS (rAddS (rV .fz kS ([49,58,32]:List Nat)) (rV .fz kS v_other)) (rV .fz kS ([32,49,10,48,58,32]:List Nat))) (rV .fz kS v_other)) (rV .fz kS ([32,49]:List Nat))) (fun (y281:List Nat)=>argsC (rAddS (rAddS (rV .fz kS ([48,58,32,45,32,49,10,48,58,32]:List Nat)) (rV .fz kS v_other)) (rV .fz kS ([32,50]:List Nat))) (fun (y282:List Nat)=>argsE (tv (.ow 1) (kL kS)) ([y280,y281,y282]:List (List Nat)) rfl))))) trivial) (fun (s287:List (List Nat))=>gPrim (pSet 2 (rAddL (rV .fz (kL kS) s287) (argsC (rAddS (rAddS (rV .fz kS ([48,58,32,45,32,49,10,10,49,58,32]:List Nat)) (rV .fz kS v_other)) (rV .fz kS ([32,50]:List Nat))) (fun (y299:List Nat)=>argsC (rV .fz kS ([48,58,32,45,32,49,48,48,48,48,48,48,48,48,48,48,48,48,48,48,48]:List Nat)) (fun (y300:List Nat)=>argsC (rAddS (rAddS (rV .fz kS ([49,48,48,48,48,58,32]:List Nat)) (rV .fz kS v_other)) (rV .fz kS ([32,49]:List Nat))) (fun (y301:List Nat)=>argsE (tv (.ow 1) (kL kS)) ([y299,y300,y301]:List (List Nat)) rfl))))) trivial) (fun (s305:List (List Nat))=>gRetV 2 rfl (gOk (s:=s305) (.inl ⟨_,rfl⟩)))))))))))))):RefG (tv .fz (kL kS)) (d_law_bad_lines [kS v_word,kS v_other]) _)
theorem t_law_good(v_cell:Int)(v_other:List Nat):RefG (tv .fz (kT (kP2 kI (kT (kP2 (kO kS) (kT kI)))))) (d_law_good [kI v_cell,kS v_other]) (f_law_good v_cell v_other) :=
 (tFn (gPrim (pSet 2 (rAddI (rV .fz kI (1:Int)) (argsC (rV .fz kI v_cell) (fun (y1:Int)=>argsC (rV .fz kI (84:Int)) (fun (y2:Int)=>argsC (rV .fz kI (29:Int)) (fun (y3:Int)=>argsN (rCallB [kI y1,kI y2,kI y3] (t_law_draw y1 y2 y3))))))) trivial) (fun (s5:Int)=>gPrim (pSet 3 (argsC (rV .fz (kT (kP2 kI (kT (kP2 (kO kS) (kT kI))))) ([]:List (((Int)×List (((Option (List Nat))×List (Int))))))) (fun (y44:List (((Int)×List (((Option (List Nat))×List (Int))))))=>argsC (argsC (argsC (rV .fz kI (0:Int)) (fun (y29:Int)=>argsC (argsC (argsC (RefG.co (f':=tv .fz (kO kS)) (c:=some) (rV .fz kS v_other) (fun _=>rfl)) (fun (y26:Option (List Nat))=>argsC (argsC (rV .fz kI s5) (fun (y25:Int)=>argsE (tv .fz (kT kI)) ([y25]:List (Int)) rfl)) (fun (y27:List (Int))=>argsE (tv .fz (kP2 (kO kS) (kT kI))) ((y26,y27):((Option (List Nat))×List (Int))) rfl))) (fun (y28:((Option (List Nat))×List (Int)))=>argsE (tv .fz (kT (kP2 (kO kS) (kT kI)))) ([y28]:List (((Option (List Nat))×List (Int)))) rfl)) (fun (y30:List (((Option (List Nat))×List (Int))))=>argsE (tv .fz (kP2 kI (kT (kP2 (kO kS) (kT kI))))) ((y29,y30):((Int)×List (((Option (List Nat))×List (Int))))) rfl))) (fun (y31:((Int)×List (((Option (List Nat))×List (Int)))))=>argsE (tv .fz (kT (kP2 kI (kT (kP2 (kO kS) (kT kI)))))) ([y31]:List (((Int)×List (((Option (List Nat))×List (Int)))))) rfl)) (fun (y45:List (((Int)×List (((Option (List Nat))×List (Int))))))=>argsC (argsC (argsC (rV .fz kI (0:Int)) (fun (y41:Int)=>argsC (argsC (argsC (rV .fz (kO kS) none) (fun (y34:Option (List Nat))=>argsC (argsC (rV .fz kI (1:Int)) (fun (y32:Int)=>argsC (rV .fz kI (29:Int)) (fun (y33:Int)=>argsE (tv .fz (kT kI)) ([y32,y33]:List (Int)) rfl))) (fun (y35:List (Int))=>argsE (tv .fz (kP2 (kO kS) (kT kI))) ((y34,y35):((Option (List Nat))×List (Int))) rfl))) (fun (y39:((Option (List Nat))×List (Int)))=>argsC (argsC (RefG.co (f':=tv .fz (kO kS)) (c:=some) (rV .fz kS v_other) (fun _=>rfl)) (fun (y37:Option (List Nat))=>argsC (argsC (rV .fz kI (2:Int)) (fun (y36:Int)=>argsE (tv .fz (kT kI)) ([y36]:List (Int)) rfl)) (fun (y38:List (Int))=>argsE (tv .fz (kP2 (kO kS) (kT kI))) ((y37,y38):((Option (List Nat))×List (Int))) rfl))) (fun (y40:((Option (List Nat))×List (Int)))=>argsE (tv .fz (kT (kP2 (kO kS) (kT kI)))) ([y39,y40]:List (((Option (List Nat))×List (Int)))) rfl))) (fun (y42:List (((Option (List Nat))×List (Int))))=>argsE (tv .fz (kP2 kI (kT (kP2 (kO kS) (kT kI))))) ((y41,y42):((Int)×List (((Option (List Nat))×List (Int))))) rfl))) (fun (y43:((Int)×List (((Option (List Nat))×List (Int)))))=>argsE (tv .fz (kT (kP2 kI (kT (kP2 (kO kS) (kT kI)))))) ([y43]:List (((Int)×List (((Option (List Nat))×List (Int)))))) rfl)) (fun (y46:List (((Int)×List (((Option (List Nat))×List (Int))))))=>argsE (tv (.ow 1) (kL (kT (kP2 kI (kT (kP2 (kO kS) (kT kI))))))) ([y44,y45,y46]:List (List (((Int)×List (((Option (List Nat))×List (Int))))))) rfl)))) trivial) (fun (s47:List (List (((Int)×List (((Option (List Nat))×List (Int)))))))=>gPrim (pSet 3 (rAddL (rV .fz (kL (kT (kP2 kI (kT (kP2 (kO kS) (kT kI)))))) s47) (argsC (argsC (argsC (rV .fz kI (1:Int)) (fun (y100:Int)=>argsC (argsC (argsC (RefG.co (f':=tv .fz (kO kS)) (c:=some) (rV .fz kS v_other) (fun _=>rfl)) (fun (y97:Option (List Nat))=>argsC (argsC (rV .fz kI s5) (fun (y96:Int)=>argsE (tv .fz (kT kI)) ([y96]:List (Int)) rfl)) (fun (y98:List (Int))=>argsE (tv .fz (kP2 (kO kS) (kT kI))) ((y97,y98):((Option (List Nat))×List (Int))) rfl))) (fun (y99:((Option (List Nat))×List (Int)))=>argsE (tv .fz (kT (kP2 (kO kS) (kT kI)))) ([y99]:List (((Option (List Nat))×List (Int)))) rfl)) (fun (y101:List (((Option (List Nat))×List (Int))))=>argsE (tv .fz (kP2 kI (kT (kP2 (kO kS) (kT kI))))) ((y100,y101):((Int)×List (((Option (List Nat))×List (Int))))) rfl))) (fun (y102:((Int)×List (((Option (List Nat))×List (Int)))))=>argsE (tv .fz (kT (kP2 kI (kT (kP2 (kO kS) (kT kI)))))) ([y102]:List (((Int)×List (((Option (List Nat))×List (Int)))))) rfl)) (fun (y119:List (((Int)×List (((Option (List Nat))×List (Int))))))=>argsC (argsC (argsC (rV .fz kI (0:Int)) (fun (y107:Int)=>argsC (argsC (argsC (RefG.co (f':=tv .fz (kO kS)) (c:=some) (rV .fz kS v_other) (fun _=>rfl)) (fun (y104:Option (List Nat))=>argsC (argsC (rV .fz kI (29:Int)) (fun (y103:Int)=>argsE (tv .fz (kT kI)) ([y103]:List (Int)) rfl)) (fun (y105:List (Int))=>argsE (tv .fz (kP2 (kO kS) (kT kI))) ((y104,y105):((Option (List Nat))×List (Int))) rfl))) (fun (y106:((Option (List Nat))×List (Int)))=>argsE (tv .fz (kT (kP2 (kO kS) (kT kI)))) ([y106]:List (((Option (List Nat))×List (Int)))) rfl)) (fun (y108:List (((Option (List Nat))×List (Int))))=>argsE (tv .fz (kP2 kI (kT (kP2 (kO kS) (kT kI))))) ((y107,y108):((Int)×List (((Option (List Nat))×List (Int))))) rfl))) (fun (y117:((Int)×List (((Option (List Nat))×List (Int)))))=>argsC (argsC (rV .fz kI (1:Int)) (fun (y115:Int)=>argsC (argsC (argsC (RefG.co (f':=tv .fz (kO kS)) (c:=some) (rV .fz kS v_other) (fun _=>rfl)) (fun (y112:Option (List Nat))=>argsC (argsC (rV .fz kI (1:Int)) (fun (y109:Int)=>argsC (rV .fz kI (2:Int)) (fun (y110:Int)=>argsC (rV .fz kI (3:Int)) (fun (y111:Int)=>argsE (tv .fz (kT kI)) ([y109,y110,y111]:List (Int)) rfl)))) (fun (y113:List (Int))=>argsE (tv .fz (kP2 (kO kS) (kT kI))) ((y112,y113):((Option (List Nat))×List (Int))) rfl))) (fun (y114:((Option (List Nat))×List (Int)))=>argsE (tv .fz (kT (kP2 (kO kS) (kT kI)))) ([y114]:List (((Option (List Nat))×List (Int)))) rfl)) (fun (y116:List (((Option (List Nat))×List (Int))))=>argsE (tv .fz (kP2 kI (kT (kP2 (kO kS) (kT kI))))) ((y115,y116):((Int)×List (((Option (List Nat))×List (Int))))) rfl))) (fun (y118:((Int)×List (((Option (List Nat))×List (Int)))))=>argsE (tv .fz (kT (kP2 kI (kT (kP2 (kO kS) (kT kI)))))) ([y117,y118]:List (((Int)×List (((Option (List Nat))×List (Int)))))) rfl))) (fun (y120:List (((Int)×List (((Option (List Nat))×List (Int))))))=>argsE (tv (.ow 1) (kL (kT (kP2 kI (kT (kP2 (kO kS) (kT kI))))))) ([y119,y120]:List (List (((Int)×List (((Option (List Nat))×List (Int))))))) rfl)))) trivial) (fun (s121:List (List (((Int)×List (((Option (List Nat))×List (Int)))))))=>gRet (rIxL (rV .fz (kL (kT (kP2 kI (kT (kP2 (kO kS) (kT kI)))))) s121) (argsC (rV .fz kI v_cell) (fun (y126:Int)=>argsC (rV .fz kI (85:Int)) (fun (y127:Int)=>argsC (rV .fz kI (5:Int)) (fun (y128:Int)=>argsN (rCallB [kI y126,kI y127,kI y128] (t_law_draw y126 y127 y128))))))) (fun (r130:List (((Int)×List (((Option (List Nat))×List (Int))))))=>gOk (s:=r130) (.inl ⟨_,rfl⟩)) trivial)))):RefG (tv .fz (kT (kP2 kI (kT (kP2 (kO kS) (kT kI)))))) (d_law_good [kI v_cell,kS v_other]) _)
theorem t_law_line_of(v_note:((Int)×List (((Option (List Nat))×List (Int))))):RefG (tv .fz kS) (d_law_line_of [(kP2 kI (kT (kP2 (kO kS) (kT kI)))) v_note]) (f_law_line_of v_note) :=
 (tFn (gPrim (pSetO 1 (rV (.ow 1) (kL kS) ([]:List (List Nat))) trivial) (fun (s1:List (List Nat))=>gPrim (pFor (fun (s2:((List (List Nat))))=>[some (.fz,(kP2 kI (kT (kP2 (kO kS) (kT kI)))) v_note),some (.ow 1,(kL kS) s2),none,none,none]) s1 (iSeqT (rIxP (kb:=(kT (kP2 (kO kS) (kT kI)))) (pr:=fun (z:((Int)×List (((Option (List Nat))×List (Int)))))=>z.2) (rV .fz (kP2 kI (kT (kP2 (kO kS) (kT kI)))) v_note))) rfl (fun (s2:((List (List Nat)))) (x3:((Option (List Nat))×List (Int)))=>⟨_,rfl,gPrim1 (pApp 1 (l:=s2) (rAddS (rAddS (rGetO (rIxL (argsC (RefG.co (f':=tv .fz (kO kS)) (c:=some) (rV .fz kS ([45]:List Nat)) (fun _=>rfl)) (fun (y13:Option (List Nat))=>argsC (rV .fz (kO kS) x3.1) (fun (y14:Option (List Nat))=>argsE (tv (.ow 1) (kL (kO kS))) ([y13,y14]:List (Option (List Nat))) rfl))) (rIntB (rNotN (rV .fz (kO kS) x3.1))))) (rV .fz kS ([32]:List Nat))) (rJoinL (rV .fz kS ([44]:List Nat)) (rLM (iSeqT (rV .fz (kT kI) x3.2)) (fun (z18:Int)=>⟨_,rfl,rStr (rV .fz kI z18)⟩)))) trivial rfl) (fun (s23:List (List Nat))=>gOk (s:=s23) ⟨_,.inl rfl,rfl⟩)⟩) trivial) (fun (s24:((List (List Nat))))=>gRet (rAddS (rAddS (rStr (rIxP (kb:=kI) (pr:=fun (z:((Int)×List (((Option (List Nat))×List (Int)))))=>z.1) (rV .fz (kP2 kI (kT (kP2 (kO kS) (kT kI)))) v_note))) (rV .fz kS ([58,32]:List Nat))) (rJoinL (rV .fz kS ([59,32]:List Nat)) (rV (.bw 1) (kL kS) s24))) (fun (r31:List Nat)=>gOk (s:=r31) (.inl ⟨_,rfl⟩)) trivial))):RefG (tv .fz kS) (d_law_line_of [(kP2 kI (kT (kP2 (kO kS) (kT kI)))) v_note]) _)
theorem t_law_right_v1(v_cell:Int):RefG (tv .fz kB) (d_law_right_v1 [kI v_cell]) (f_law_right_v1 v_cell) :=
 (tFn (gPrim (pSet 1 (argsC (rV .fz kI v_cell) (fun (y1:Int)=>argsC (rV .fz kI (0:Int)) (fun (y2:Int)=>argsN (rCallB [kI y1,kI y2] (t_law_word_by y1 y2))))) trivial) (fun (s3:List Nat)=>gPrim (pSet 2 (rIxL (argsC (rV .fz kS ([97]:List Nat)) (fun (y4:List Nat)=>argsC (rV .fz kS ([98]:List Nat)) (fun (y5:List Nat)=>argsE (tv (.ow 1) (kL kS)) ([y4,y5]:List (List Nat)) rfl))) (rIntB (rEq (rV .fz kS s3) (rV .fz kS ([97]:List Nat))))) trivial) (fun (s6:List Nat)=>gPrim (pSet 3 (rIxL (argsC (rV .fz kS ([]:List Nat)) (fun (y9:List Nat)=>argsC (rAddS (rV .fz kS ([32,124,32]:List Nat)) (rV .fz kS s6)) (fun (y10:List Nat)=>argsC (rV .fz kS ([32,124,32,45]:List Nat)) (fun (y11:List Nat)=>argsC (rAddS (rAddS (rV .fz kS ([32,124,32]:List Nat)) (rV .fz kS s3)) (rV .fz kS ([32,124,32,45]:List Nat))) (fun (y12:List Nat)=>argsE (tv (.ow 1) (kL kS)) ([y9,y10,y11,y12]:List (List Nat)) rfl))))) (argsC (rV .fz kI v_cell) (fun (y15:Int)=>argsC (rV .fz kI (86:Int)) (fun (y16:Int)=>argsC (rV .fz kI (4:Int)) (fun (y17:Int)=>argsN (rCallB [kI y15,kI y16,kI y17] (t_law_draw y15 y16 y17))))))) trivial) (fun (s20:List Nat)=>gPrim (pSet 4 (rAddS (rAddS (rV .fz kS s3) (rV .fz kS ([32,124,32,45]:List Nat))) (rV .fz kS s20)) trivial) (fun (s22:List Nat)=>gPrim (pSet 5 (rAddT (argsC (RefG.co (f':=tv .fz (kO kS)) (c:=some) (rV .fz kS s3) (fun _=>rfl)) (fun (y41:Option (List Nat))=>argsC (rV .fz (kO kS) none) (fun (y42:Option (List Nat))=>argsE (tv .fz (kT (kO kS))) ([y41,y42]:List (Option (List Nat))) rfl))) (rIxL (argsC (rV .fz (kT (kO kS)) ([]:List (Option (List Nat)))) (fun (y51:List (Option (List Nat)))=>argsC (argsC (RefG.co (f':=tv .fz (kO kS)) (c:=some) (rV .fz kS s6) (fun _=>rfl)) (fun (y47:Option (List Nat))=>argsE (tv .fz (kT (kO kS))) ([y47]:List (Option (List Nat))) rfl)) (fun (y52:List (Option (List Nat)))=>argsC (argsC (rV .fz (kO kS) none) (fun (y48:Option (List Nat))=>argsE (tv .fz (kT (kO kS))) ([y48]:List (Option (List Nat))) rfl)) (fun (y53:List (Option (List Nat)))=>argsC (argsC (RefG.co (f':=tv .fz (kO kS)) (c:=some) (rV .fz kS s3) (fun _=>rfl)) (fun (y49:Option (List Nat))=>argsC (rV .fz (kO kS) none) (fun (y50:Option (List Nat))=>argsE (tv .fz (kT (kO kS))) ([y49,y50]:List (Option (List Nat))) rfl))) (fun (y54:List (Option (List Nat)))=>argsE (tv (.ow 1) (kL (kT (kO kS)))) ([y51,y52,y53,y54]:List (List (Option (List Nat)))) rfl))))) (argsC (rV .fz kI v_cell) (fun (y55:Int)=>argsC (rV .fz kI (86:Int)) (fun (y56:Int)=>argsC (rV .fz kI (4:Int)) (fun (y57:Int)=>argsN (rCallB [kI y55,kI y56,kI y57] (t_law_draw y55 y56 y57)))))))) trivial) (fun (s60:List (Option (List Nat)))=>gPrim (pSet 6 (argsC (rV .fz kI v_cell) (fun (y61:Int)=>argsC (rV .fz kI (87:Int)) (fun (y62:Int)=>argsC (rV .fz kI (5:Int)) (fun (y63:Int)=>argsN (rCallB [kI y61,kI y62,kI y63] (t_law_draw y61 y62 y63)))))) trivial) (fun (s64:Int)=>gIfD (xV (rEq (rV .fz kI s64) (rV .fz kI (0:Int)))) (gAssoc (gPrim (pSet 7 (argsC (rV .fz kS s3) (fun (y65:List Nat)=>argsN (rCallB [kS y65] (t_law_bad_heads y65)))) trivial) (fun (s66:List (List Nat))=>gRetS (rEq (argsC (rIxL (rV .fz (kL kS) s66) (argsC (rV .fz kI v_cell) (fun (y108:Int)=>argsC (rV .fz kI (88:Int)) (fun (y109:Int)=>argsC (rLenL (rV .fz (kL kS) s66)) (fun (y110:Int)=>argsN (rCallB [kI y108,kI y109,kI y110] (t_law_draw y108 y109 y110))))))) (fun (y112:List Nat)=>argsN (rCallB [kS y112] (t_law_asked_v1 y112)))) (argsC (rV .fz kS ([114,101,102,117,115,101,100]:List Nat)) (fun (y114:List Nat)=>argsC (rV .fz (kO (kP2 (kT (kO kS)) (kT (kP2 kI (kT (kP2 (kO kS) (kT kI))))))) none) (fun (y115:Option (((List (Option (List Nat)))×List (((Int)×List (((Option (List Nat))×List (Int))))))))=>argsE (tv .fz (kP2 kS (kO (kP2 (kT (kO kS)) (kT (kP2 kI (kT (kP2 (kO kS) (kT kI))))))))) ((y114,y115):((List Nat)×Option (((List (Option (List Nat)))×List (((Int)×List (((Option (List Nat))×List (Int))))))))) rfl)))) (fun (r117:Bool)=>gOk (s:=r117) (.inl ⟨_,rfl⟩)) trivial))) (gNil (gIfD (xV (rLt (rV .fz kI s64) (rV .fz kI (4:Int)))) (gAssoc (gPrim (pSet 7 (argsC (rV .fz kS s3) (fun (y119:List Nat)=>argsC (rV .fz kS s6) (fun (y120:List Nat)=>argsN (rCallB [kS y119,kS y120] (t_law_bad_lines y119 y120))))) trivial) (fun (s121:List (List Nat))=>gAssoc (gPrim (pSet 8 (rAddS (rAddS (rV .fz kS s22) (rV .fz kS ([10]:List Nat))) (rIxL (rV .fz (kL kS) s121) (argsC (rV .fz kI v_cell) (fun (y122:Int)=>argsC (rV .fz kI (88:Int)) (fun (y123:Int)=>argsC (rLenL (rV .fz (kL kS) s121)) (fun (y124:Int)=>argsN (rCallB [kI y122,kI y123,kI y124] (t_law_draw y122 y123 y124)))))))) trivial) (fun (s128:List Nat)=>gAssoc (gPrim (u':=fun (s132:((List Nat)))=>[some (.fz,kI v_cell),some (.fz,kS s3),some (.fz,kS s6),some (.fz,kS s20),some (.fz,kS s22),some (.fz,(kT (kO kS)) s60),some (.fz,kI s64),some (.fz,(kL kS) s121),some (.fz,kS s132),none,none,none]) (gIf (β:=((List Nat))) (Post:=NxP (fun (s132:((List Nat))) Γ'=>Γ'=[some (.fz,kI v_cell),some (.fz,kS s3),some (.fz,kS s6),some (.fz,kS s20),some (.fz,kS s22),some (.fz,(kT (kO kS)) s60),some (.fz,kI s64),some (.fz,(kL kS) s121),some (.fz,kS s132),none,none,none])) (xV (rEq (rV .fz kI s64) (rV .fz kI (3:Int)))) (gPrim1 (pSet 8 (rAddS (rAddS (rAddS (rV .fz kS s128) (rV .fz kS ([10,49,58,32]:List Nat))) (rV .fz kS s6)) (rV .fz kS ([32,53]:List Nat))) trivial) (fun (s136:List Nat)=>gOk (s:=s136) ⟨_,rfl,rfl⟩)) (gNil1 (gOk (s:=s128) ⟨_,rfl,rfl⟩)) trivial) (fun s132=>gRetS (rEq (argsC (rV .fz kS s132) (fun (y147:List Nat)=>argsN (rCallB [kS y147] (t_law_asked_v1 y147)))) (argsC (rV .fz kS ([114,101,102,117,115,101,100]:List Nat)) (fun (y148:List Nat)=>argsC (rV .fz (kO (kP2 (kT (kO kS)) (kT (kP2 kI (kT (kP2 (kO kS) (kT kI))))))) none) (fun (y149:Option (((List (Option (List Nat)))×List (((Int)×List (((Option (List Nat))×List (Int))))))))=>argsE (tv .fz (kP2 kS (kO (kP2 (kT (kO kS)) (kT (kP2 kI (kT (kP2 (kO kS) (kT kI))))))))) ((y148,y149):((List Nat)×Option (((List (Option (List Nat)))×List (((Int)×List (((Option (List Nat))×List (Int))))))))) rfl)))) (fun (r151:Bool)=>gOk (s:=r151) (.inl ⟨_,rfl⟩)) trivial))))))) (gNil (gPrim (pSet 9 (argsC (rV .fz kI v_cell) (fun (y153:Int)=>argsC (rV .fz kS s6) (fun (y154:List Nat)=>argsN (rCallB [kI y153,kS y154] (t_law_good y153 y154))))) trivial) (fun (s155:List (((Int)×List (((Option (List Nat))×List (Int))))))=>gPrim (pSet 10 (argsC (rJoinL (rV .fz kS ([10]:List Nat)) (rAddL (argsC (rV .fz kS s22) (fun (y181:List Nat)=>argsE (tv (.ow 1) (kL kS)) ([y181]:List (List Nat)) rfl)) (rLM (iSeqT (rV .fz (kT (kP2 kI (kT (kP2 (kO kS) (kT kI))))) s155)) (fun (z182:((Int)×List (((Option (List Nat))×List (Int)))))=>⟨_,rfl,argsC (rV .fz (kP2 kI (kT (kP2 (kO kS) (kT kI)))) z182) (fun (y183:((Int)×List (((Option (List Nat))×List (Int)))))=>argsN (rCallB [(kP2 kI (kT (kP2 (kO kS) (kT kI)))) y183] (t_law_line_of y183)))⟩)))) (fun (y186:List Nat)=>argsN (rCallB [kS y186] (t_law_asked_v1 y186)))) trivial) (fun (s188:((List Nat)×Option (((List (Option (List Nat)))×List (((Int)×List (((Option (List Nat))×List (Int)))))))))=>gRet (rAnd (rEq (rIxP (kb:=kS) (pr:=fun (z:((List Nat)×Option (((List (Option (List Nat)))×List (((Int)×List (((Option (List Nat))×List (Int)))))))))=>z.1) (rV .fz (kP2 kS (kO (kP2 (kT (kO kS)) (kT (kP2 kI (kT (kP2 (kO kS) (kT kI)))))))) s188)) (rV .fz kS ([116,111,108,100]:List Nat))) (argsC (RefG.co (f':=tv .fz kV) (c:=(kO (kP2 (kT (kO kS)) (kT (kP2 kI (kT (kP2 (kO kS) (kT kI)))))))) (rIxP (kb:=(kO (kP2 (kT (kO kS)) (kT (kP2 kI (kT (kP2 (kO kS) (kT kI)))))))) (pr:=fun (z:((List Nat)×Option (((List (Option (List Nat)))×List (((Int)×List (((Option (List Nat))×List (Int)))))))))=>z.2) (rV .fz (kP2 kS (kO (kP2 (kT (kO kS)) (kT (kP2 kI (kT (kP2 (kO kS) (kT kI)))))))) s188)) (fun _=>rfl)) (fun (y199:PV)=>argsC (RefG.co (f':=tv .fz kV) (c:=(kP2 (kT (kO kS)) (kT (kP2 kI (kT (kP2 (kO kS) (kT kI))))))) (argsC (rV .fz (kT (kO kS)) s60) (fun (y197:List (Option (List Nat)))=>argsC (rV .fz (kT (kP2 kI (kT (kP2 (kO kS) (kT kI))))) s155) (fun (y198:List (((Int)×List (((Option (List Nat))×List (Int))))))=>argsE (tv .fz (kP2 (kT (kO kS)) (kT (kP2 kI (kT (kP2 (kO kS) (kT kI))))))) ((y197,y198):((List (Option (List Nat)))×List (((Int)×List (((Option (List Nat))×List (Int))))))) rfl))) (fun _=>rfl)) (fun (y200:PV)=>argsN (rCallB [kV y199,kV y200] (t_law_same_v1 8 y199 y200)))))) (fun (r201:Bool)=>gOk (s:=r201) (.inl ⟨_,rfl⟩)) trivial)))) trivial)) trivial))))))):RefG (tv .fz kB) (d_law_right_v1 [kI v_cell]) _)
theorem t_law_v63(v_script:List (Int)):RefG (tv .fz kB) (d_law_v63 [(kL kI) v_script]) (f_law_v63 v_script) :=
 (tFn (gCtl (ret:=(fun (r42:Bool)=>Res.ok r42)) (gForT (f:=(tv .fz kB)) (fun (s1:Unit)=>[some (.fz,(kL kI) v_script),none]) (()) (iSeqL (rAddL (argsC (rV .fz kI (0:Int)) (fun (y3:Int)=>argsE (tv (.ow 1) (kL kI)) ([y3]:List (Int)) rfl)) (rSlL (rV .fz (kL kI) v_script) (oN) (oS (rV .fz kI (60:Int)))))) rfl (fun (s1:Unit) (x4:Int)=>⟨_,rfl,gIf (xN (xV (argsC (rV .fz kI x4) (fun (y5:Int)=>argsN (rCallB [kI y5] (t_law_right_v1 y5)))))) (gRet (rV .fz kB false) (fun (r7:Bool)=>gOk (s:=Ctl.rt r7) ⟨_,rfl⟩) trivial) (gNil1 (gOk (s:=Ctl.nx (())) ⟨_,.inl rfl,rfl⟩)) trivial⟩) trivial) (fun (s10:Unit)=>gIfD (xV (rNe (argsC (rV .fz kS ([10,48,58,32,97,32,49]:List Nat)) (fun (y14:List Nat)=>argsN (rCallB [kS y14] (t_law_asked_v1 y14)))) (argsC (rV .fz kS ([114,101,102,117,115,101,100]:List Nat)) (fun (y15:List Nat)=>argsC (rV .fz (kO (kP2 (kT (kO kS)) (kT (kP2 kI (kT (kP2 (kO kS) (kT kI))))))) none) (fun (y16:Option (((List (Option (List Nat)))×List (((Int)×List (((Option (List Nat))×List (Int))))))))=>argsE (tv .fz (kP2 kS (kO (kP2 (kT (kO kS)) (kT (kP2 kI (kT (kP2 (kO kS) (kT kI))))))))) ((y15,y16):((List Nat)×Option (((List (Option (List Nat)))×List (((Int)×List (((Option (List Nat))×List (Int))))))))) rfl))))) (gRetS (rV .fz kB false) (fun (r18:Bool)=>gOk (s:=r18) (.inl ⟨_,rfl⟩)) trivial) (gNil (gRet (argsC (RefG.co (f':=tv .fz kV) (c:=(kP2 (kT (kO kS)) (kT (kP2 kI (kT (kP2 (kO kS) (kT kI))))))) (argsC (rV .fz kS ([]:List Nat)) (fun (y32:List Nat)=>argsN (rCallB [kS y32] (t_apparatus_read y32)))) (fun _=>rfl)) (fun (y36:PV)=>argsC (RefG.co (f':=tv .fz kV) (c:=(kP2 (kT kV) (kT kV))) (argsC (rV .fz (kT kV) ([]:List (PV))) (fun (y34:List (PV))=>argsC (rV .fz (kT kV) ([]:List (PV))) (fun (y35:List (PV))=>argsE (tv .fz (kP2 (kT kV) (kT kV))) ((y34,y35):((List (PV))×List (PV))) rfl))) (fun _=>rfl)) (fun (y37:PV)=>argsN (rCallB [kV y36,kV y37] (t_law_same_v1 8 y36 y37))))) (fun (r39:Bool)=>gOk (s:=r39) (.inl ⟨_,rfl⟩)) trivial)) trivial) (fun (r42:Bool) _=>gOk (s:=r42) (.inl ⟨_,rfl⟩))):RefG (tv .fz kB) (d_law_v63 [(kL kI) v_script]) _)
end Vm
end
section
set_option linter.all false
set_option maxRecDepth 10000
namespace Vm
theorem s2_law(ns:List Int)(hl:ns.length≤63)(hb:∀ z∈ns,z.natAbs.log2≤1048576):d_law_v63 [.lst (ns.map .int)] = .ok (.fz,.bl true):=by
 have h:=t_law_v63 ns
 rw [m_law ns hl hb] at h
 exact h
end Vm
end
section
set_option Elab.async false
set_option linter.all false
set_option maxRecDepth 100000
set_option maxHeartbeats 4000000
namespace VP
open PySem PySem.Spec PyProof.Rows L2 Vm Vl
abbrev FDn(K:PySem.W.Frag)(x:Str)(st:Stmt):Prop:=∃ (f:Addr) (od an:Option Addr) (sl:Array (Option Value)) (oc kV dc pm cd ct:Value),PySem.W.nsIn K mainGlobals x=some (some (.ref f))∧K.lookup f=some ⟨oc,od,.func (PySem.W.fnOf x x (defArgs st) (defBody st) (defScope st) .none kV dc pm an cd ct),sl⟩∧PySem.W.codeIn K cd x=true∧PySem.W.keepIn K (.ref f)=true
theorem all_mk {l:PySem.W.OpenLaw} {w:World} {K:PySem.W.Frag} {h:Heap} {mg:Str→Option Value} {fa:Addr} (X:K.In h) (G:h.Ns mainGlobals mg) (hfa:mg "law" = some (.ref fa))
  (d0:FDn K "look_rows" s_look_rows)
  (d1:FDn K "look_readings" s_look_readings)
  (d2:FDn K "column_back" s_column_back)
  (d3:FDn K "collation_back" s_collation_back)
  (d4:FDn K "entry_read" s_entry_read)
  (d5:FDn K "number_read" s_number_read)
  (d6:FDn K "two_parts" s_two_parts)
  (d7:FDn K "reading_read" s_reading_read)
  (d8:FDn K "note_read" s_note_read)
  (d9:FDn K "apparatus_read" s_apparatus_read)
  (d10:FDn K "_law_draw" s__law_draw)
  (d11:FDn K "_law_same" s__law_same)
  (d12:FDn K "_law_word_by" s__law_word_by)
  (d13:FDn K "_law_asked" s__law_asked)
  (d14:FDn K "_law_bad_heads" s__law_bad_heads)
  (d15:FDn K "_law_bad_lines" s__law_bad_lines)
  (d16:FDn K "_law_good" s__law_good)
  (d17:FDn K "_law_line_of" s__law_line_of)
  (d18:FDn K "_law_right" s__law_right)
  (d19:FDn K "law" s_law)
  (zz_all:PySem.W.nsIn K mainGlobals "all" = some none)
  (zz_bool:PySem.W.nsIn K mainGlobals "bool" = some none)
  (zz_int:PySem.W.nsIn K mainGlobals "int" = some none)
  (zz_isinstance:PySem.W.nsIn K mainGlobals "isinstance" = some none)
  (zz_len:PySem.W.nsIn K mainGlobals "len" = some none)
  (zz_range:PySem.W.nsIn K mainGlobals "range" = some none)
  (zz_str:PySem.W.nsIn K mainGlobals "str" = some none)
  (zz_tuple:PySem.W.nsIn K mainGlobals "tuple" = some none)
  {u_FIGURES:Value} (gg_FIGURES:PySem.W.nsIn K mainGlobals "FIGURES" = some (some u_FIGURES)) (gr_FIGURES:RelV (toV (.str [48,49,50,51,52,53,54,55,56,57])) u_FIGURES)
  {u_LETTERS:Value} (gg_LETTERS:PySem.W.nsIn K mainGlobals "LETTERS" = some (some u_LETTERS)) (gr_LETTERS:RelV (toV (.str [97,98,99,100,101,102,103,104,105,106,107,108,109,110,111,112,113,114,115,116,117,118,119,120,121,122])) u_LETTERS)
  {u_MOST_ROWS:Value} (gg_MOST_ROWS:PySem.W.nsIn K mainGlobals "MOST_ROWS" = some (some u_MOST_ROWS)) (gr_MOST_ROWS:RelV (toV (.int 30)) u_MOST_ROWS)
  {C_NoLine:Addr} (xg_NoLine:PySem.W.nsIn K mainGlobals "NoLine" = some (some (.ref C_NoLine))) (xe_NoLine:PySem.W.excIn K C_NoLine [.type "ValueError",.type "Exception",.type "BaseException",.type "object"] "ValueError.__new__" = true) (xk_NoLine:PySem.W.keepIn K (.ref C_NoLine)=true) (xb_NoLine:PySem.W.subIn K (.ref C_NoLine) (.type "BaseException")=some true) (xt_NoLine:PySem.W.typeIn K (.ref C_NoLine)=some (.type "type"))
  {C_NoName:Addr} (xg_NoName:PySem.W.nsIn K mainGlobals "NoName" = some (some (.ref C_NoName))) (xe_NoName:PySem.W.excIn K C_NoName [.type "ValueError",.type "Exception",.type "BaseException",.type "object"] "ValueError.__new__" = true) (xk_NoName:PySem.W.keepIn K (.ref C_NoName)=true) (xb_NoName:PySem.W.subIn K (.ref C_NoName) (.type "BaseException")=some true) (xt_NoName:PySem.W.typeIn K (.ref C_NoName)=some (.type "type"))
  {C_NoNotes:Addr} (xg_NoNotes:PySem.W.nsIn K mainGlobals "NoNotes" = some (some (.ref C_NoNotes))) (xe_NoNotes:PySem.W.excIn K C_NoNotes [.type "ValueError",.type "Exception",.type "BaseException",.type "object"] "ValueError.__new__" = true) (xk_NoNotes:PySem.W.keepIn K (.ref C_NoNotes)=true) (xb_NoNotes:PySem.W.subIn K (.ref C_NoNotes) (.type "BaseException")=some true) (xt_NoNotes:PySem.W.typeIn K (.ref C_NoNotes)=some (.type "type"))
  {C_NoPrices:Addr} (xg_NoPrices:PySem.W.nsIn K mainGlobals "NoPrices" = some (some (.ref C_NoPrices))) (xe_NoPrices:PySem.W.excIn K C_NoPrices [.type "ValueError",.type "Exception",.type "BaseException",.type "object"] "ValueError.__new__" = true) (xk_NoPrices:PySem.W.keepIn K (.ref C_NoPrices)=true) (xb_NoPrices:PySem.W.subIn K (.ref C_NoPrices) (.type "BaseException")=some true) (xt_NoPrices:PySem.W.typeIn K (.ref C_NoPrices)=some (.type "type"))
  {C_NoRow:Addr} (xg_NoRow:PySem.W.nsIn K mainGlobals "NoRow" = some (some (.ref C_NoRow))) (xe_NoRow:PySem.W.excIn K C_NoRow [.type "ValueError",.type "Exception",.type "BaseException",.type "object"] "ValueError.__new__" = true) (xk_NoRow:PySem.W.keepIn K (.ref C_NoRow)=true) (xb_NoRow:PySem.W.subIn K (.ref C_NoRow) (.type "BaseException")=some true) (xt_NoRow:PySem.W.typeIn K (.ref C_NoRow)=some (.type "type"))
  {C_NoSlips:Addr} (xg_NoSlips:PySem.W.nsIn K mainGlobals "NoSlips" = some (some (.ref C_NoSlips))) (xe_NoSlips:PySem.W.excIn K C_NoSlips [.type "ValueError",.type "Exception",.type "BaseException",.type "object"] "ValueError.__new__" = true) (xk_NoSlips:PySem.W.keepIn K (.ref C_NoSlips)=true) (xb_NoSlips:PySem.W.subIn K (.ref C_NoSlips) (.type "BaseException")=some true) (xt_NoSlips:PySem.W.typeIn K (.ref C_NoSlips)=some (.type "type"))
  {C_TooMany:Addr} (xg_TooMany:PySem.W.nsIn K mainGlobals "TooMany" = some (some (.ref C_TooMany))) (xe_TooMany:PySem.W.excIn K C_TooMany [.type "ValueError",.type "Exception",.type "BaseException",.type "object"] "ValueError.__new__" = true) (xk_TooMany:PySem.W.keepIn K (.ref C_TooMany)=true) (xb_TooMany:PySem.W.subIn K (.ref C_TooMany) (.type "BaseException")=some true) (xt_TooMany:PySem.W.typeIn K (.ref C_TooMany)=some (.type "type"))
  {C_TwiceNamed:Addr} (xg_TwiceNamed:PySem.W.nsIn K mainGlobals "TwiceNamed" = some (some (.ref C_TwiceNamed))) (xe_TwiceNamed:PySem.W.excIn K C_TwiceNamed [.type "ValueError",.type "Exception",.type "BaseException",.type "object"] "ValueError.__new__" = true) (xk_TwiceNamed:PySem.W.keepIn K (.ref C_TwiceNamed)=true) (xb_TwiceNamed:PySem.W.subIn K (.ref C_TwiceNamed) (.type "BaseException")=some true) (xt_TwiceNamed:PySem.W.typeIn K (.ref C_TwiceNamed)=some (.type "type"))
  {C_VellumError:Addr} (xg_VellumError:PySem.W.nsIn K mainGlobals "VellumError" = some (some (.ref C_VellumError))) (xe_VellumError:PySem.W.excIn K C_VellumError [.type "ValueError",.type "Exception",.type "BaseException",.type "object"] "ValueError.__new__" = true) (xk_VellumError:PySem.W.keepIn K (.ref C_VellumError)=true) (xb_VellumError:PySem.W.subIn K (.ref C_VellumError) (.type "BaseException")=some true) (xt_VellumError:PySem.W.typeIn K (.ref C_VellumError)=some (.type "type"))
  (xq_VellumError_NoNotes:PySem.W.exmOne K (.ref C_NoNotes) (.ref C_VellumError)=some true)
  (xi_NoNotes:L2.ExcC K C_NoNotes)
  (yk_NoLine_NoNotes:PySem.W.kitOne K (.ref C_NoNotes) (.ref C_NoLine)=some false)
  (yk_NoName_NoNotes:PySem.W.kitOne K (.ref C_NoNotes) (.ref C_NoName)=some false)
  (yk_NoNotes_NoNotes:PySem.W.kitOne K (.ref C_NoNotes) (.ref C_NoNotes)=some true)
  (yk_NoPrices_NoNotes:PySem.W.kitOne K (.ref C_NoNotes) (.ref C_NoPrices)=some false)
  (yk_NoRow_NoNotes:PySem.W.kitOne K (.ref C_NoNotes) (.ref C_NoRow)=some false)
  (yk_NoSlips_NoNotes:PySem.W.kitOne K (.ref C_NoNotes) (.ref C_NoSlips)=some false)
  (yk_TooMany_NoNotes:PySem.W.kitOne K (.ref C_NoNotes) (.ref C_TooMany)=some false)
  (yk_TwiceNamed_NoNotes:PySem.W.kitOne K (.ref C_NoNotes) (.ref C_TwiceNamed)=some false)
  (yz_ValueError:PySem.W.nsIn K mainGlobals "ValueError" = some none)
  (yk_ValueError_NoNotes:PySem.W.kitOne K (.ref C_NoNotes) (.type "ValueError")=some true)
  :∃ fd:FuncData,(∀ (s:Shared) (v:Value),BindsTo s fd ⟨[v],[]⟩ [("script",v)])∧∀ base:Heap,K.In base→base.Ns mainGlobals mg→FnOk l.prog w K mg base (L2.CX l.prog w) 11 fa fd ["script"] (spLaw K):=by
 obtain ⟨fL,odL,anL,slL,ocL,kVL,dcL,pmL,cdL,ctL,aL,lL,cL,kL⟩:=d19
 have e:=hfa.symm.trans (PySem.W.mg_of X G aL)
 cases e
 refine ⟨PySem.W.fnOf "law" "law" (defArgs s_law) (defBody s_law) (defScope s_law) .none kVL dcL pmL anL cdL ctL,fun s v=>.of_eq rfl,fun base _ _=>?_⟩
 have z_all:(Cn.mk ⟨K,l.prog,w,mg⟩ base).mg "all" = none:=PySem.W.mg_none_of X G zz_all
 have z_bool:(Cn.mk ⟨K,l.prog,w,mg⟩ base).mg "bool" = none:=PySem.W.mg_none_of X G zz_bool
 have z_int:(Cn.mk ⟨K,l.prog,w,mg⟩ base).mg "int" = none:=PySem.W.mg_none_of X G zz_int
 have z_isinstance:(Cn.mk ⟨K,l.prog,w,mg⟩ base).mg "isinstance" = none:=PySem.W.mg_none_of X G zz_isinstance
 have z_len:(Cn.mk ⟨K,l.prog,w,mg⟩ base).mg "len" = none:=PySem.W.mg_none_of X G zz_len
 have z_range:(Cn.mk ⟨K,l.prog,w,mg⟩ base).mg "range" = none:=PySem.W.mg_none_of X G zz_range
 have z_str:(Cn.mk ⟨K,l.prog,w,mg⟩ base).mg "str" = none:=PySem.W.mg_none_of X G zz_str
 have z_tuple:(Cn.mk ⟨K,l.prog,w,mg⟩ base).mg "tuple" = none:=PySem.W.mg_none_of X G zz_tuple
 have g_FIGURES:Glb (Cn.mk ⟨K,l.prog,w,mg⟩ base) "FIGURES" (.str [48,49,50,51,52,53,54,55,56,57]):=⟨_,PySem.W.mg_of X G gg_FIGURES,gr_FIGURES,fun F=>by unfold Rep; exact ⟨rfl,by decide +kernel⟩⟩
 have g_LETTERS:Glb (Cn.mk ⟨K,l.prog,w,mg⟩ base) "LETTERS" (.str [97,98,99,100,101,102,103,104,105,106,107,108,109,110,111,112,113,114,115,116,117,118,119,120,121,122]):=⟨_,PySem.W.mg_of X G gg_LETTERS,gr_LETTERS,fun F=>by unfold Rep; exact ⟨rfl,by decide +kernel⟩⟩
 have g_MOST_ROWS:Glb (Cn.mk ⟨K,l.prog,w,mg⟩ base) "MOST_ROWS" (.int 30):=⟨_,PySem.W.mg_of X G gg_MOST_ROWS,gr_MOST_ROWS,fun F=>by unfold Rep; rfl⟩
 have x_NoLine:Xc (Cn.mk ⟨K,l.prog,w,mg⟩ base) 5:=⟨_,PySem.W.mg_of X G xg_NoLine,xe_NoLine,xk_NoLine,xb_NoLine,xt_NoLine⟩
 have x_NoName:Xc (Cn.mk ⟨K,l.prog,w,mg⟩ base) 6:=⟨_,PySem.W.mg_of X G xg_NoName,xe_NoName,xk_NoName,xb_NoName,xt_NoName⟩
 have x_NoNotes:Xc (Cn.mk ⟨K,l.prog,w,mg⟩ base) 4:=⟨_,PySem.W.mg_of X G xg_NoNotes,xe_NoNotes,xk_NoNotes,xb_NoNotes,xt_NoNotes⟩
 have x_NoPrices:Xc (Cn.mk ⟨K,l.prog,w,mg⟩ base) 2:=⟨_,PySem.W.mg_of X G xg_NoPrices,xe_NoPrices,xk_NoPrices,xb_NoPrices,xt_NoPrices⟩
 have x_NoRow:Xc (Cn.mk ⟨K,l.prog,w,mg⟩ base) 1:=⟨_,PySem.W.mg_of X G xg_NoRow,xe_NoRow,xk_NoRow,xb_NoRow,xt_NoRow⟩
 have x_NoSlips:Xc (Cn.mk ⟨K,l.prog,w,mg⟩ base) 3:=⟨_,PySem.W.mg_of X G xg_NoSlips,xe_NoSlips,xk_NoSlips,xb_NoSlips,xt_NoSlips⟩
 have x_TooMany:Xc (Cn.mk ⟨K,l.prog,w,mg⟩ base) 8:=⟨_,PySem.W.mg_of X G xg_TooMany,xe_TooMany,xk_TooMany,xb_TooMany,xt_TooMany⟩
 have x_TwiceNamed:Xc (Cn.mk ⟨K,l.prog,w,mg⟩ base) 7:=⟨_,PySem.W.mg_of X G xg_TwiceNamed,xe_TwiceNamed,xk_TwiceNamed,xb_TwiceNamed,xt_TwiceNamed⟩
 have x_VellumError:Xc (Cn.mk ⟨K,l.prog,w,mg⟩ base) 0:=⟨_,PySem.W.mg_of X G xg_VellumError,xe_VellumError,xk_VellumError,xb_VellumError,xt_VellumError⟩
 have s_VellumError:Xs (Cn.mk ⟨K,l.prog,w,mg⟩ base) 0 [(4,true)]:=Xs.of (PySem.W.mg_of X G xg_VellumError) (XsA.cons (PySem.W.mg_of X G xg_NoNotes) xq_VellumError_NoNotes (XsA.nil))
 have q_NoLine:Iq (Cn.mk ⟨K,l.prog,w,mg⟩ base) "NoLine" [(4,false)]:=Iq.ofC (PySem.W.mg_of X G xg_NoLine) (IqA.cons (PySem.W.mg_of X G xg_NoNotes) xi_NoNotes yk_NoLine_NoNotes (IqA.nil))
 have q_NoName:Iq (Cn.mk ⟨K,l.prog,w,mg⟩ base) "NoName" [(4,false)]:=Iq.ofC (PySem.W.mg_of X G xg_NoName) (IqA.cons (PySem.W.mg_of X G xg_NoNotes) xi_NoNotes yk_NoName_NoNotes (IqA.nil))
 have q_NoNotes:Iq (Cn.mk ⟨K,l.prog,w,mg⟩ base) "NoNotes" [(4,true)]:=Iq.ofC (PySem.W.mg_of X G xg_NoNotes) (IqA.cons (PySem.W.mg_of X G xg_NoNotes) xi_NoNotes yk_NoNotes_NoNotes (IqA.nil))
 have q_NoPrices:Iq (Cn.mk ⟨K,l.prog,w,mg⟩ base) "NoPrices" [(4,false)]:=Iq.ofC (PySem.W.mg_of X G xg_NoPrices) (IqA.cons (PySem.W.mg_of X G xg_NoNotes) xi_NoNotes yk_NoPrices_NoNotes (IqA.nil))
 have q_NoRow:Iq (Cn.mk ⟨K,l.prog,w,mg⟩ base) "NoRow" [(4,false)]:=Iq.ofC (PySem.W.mg_of X G xg_NoRow) (IqA.cons (PySem.W.mg_of X G xg_NoNotes) xi_NoNotes yk_NoRow_NoNotes (IqA.nil))
 have q_NoSlips:Iq (Cn.mk ⟨K,l.prog,w,mg⟩ base) "NoSlips" [(4,false)]:=Iq.ofC (PySem.W.mg_of X G xg_NoSlips) (IqA.cons (PySem.W.mg_of X G xg_NoNotes) xi_NoNotes yk_NoSlips_NoNotes (IqA.nil))
 have q_TooMany:Iq (Cn.mk ⟨K,l.prog,w,mg⟩ base) "TooMany" [(4,false)]:=Iq.ofC (PySem.W.mg_of X G xg_TooMany) (IqA.cons (PySem.W.mg_of X G xg_NoNotes) xi_NoNotes yk_TooMany_NoNotes (IqA.nil))
 have q_TwiceNamed:Iq (Cn.mk ⟨K,l.prog,w,mg⟩ base) "TwiceNamed" [(4,false)]:=Iq.ofC (PySem.W.mg_of X G xg_TwiceNamed) (IqA.cons (PySem.W.mg_of X G xg_NoNotes) xi_NoNotes yk_TwiceNamed_NoNotes (IqA.nil))
 have q_ValueError:Iq (Cn.mk ⟨K,l.prog,w,mg⟩ base) "ValueError" [(4,true)]:=Iq.ofB (PySem.W.mg_none_of X G yz_ValueError) (by decide +kernel) (by decide) (IqA.cons (PySem.W.mg_of X G xg_NoNotes) xi_NoNotes yk_ValueError_NoNotes (IqA.nil))
 have c_look_rows:Cal (Cn.mk ⟨K,l.prog,w,mg⟩ base) "look_rows" 3 1 d_look_rows:=by
  obtain ⟨_,_,_,_,_,_,_,_,_,_,a,l1,c,k⟩:=d0
  have F:=fun_mk (st:=s_look_rows) l1 c k
  exact ok_look_rows F (PySem.W.mg_of X G a) (F.binds (ps:=["rows","many","taken"]) fun _ _ _ _ _ _ us hl=>match us,hl with | [_,_,_],_=>rfl) z_len x_NoNotes
 have c_look_readings:Cal (Cn.mk ⟨K,l.prog,w,mg⟩ base) "look_readings" 3 2 d_look_readings:=by
  obtain ⟨_,_,_,_,_,_,_,_,_,_,a,l1,c,k⟩:=d1
  have F:=fun_mk (st:=s_look_readings) l1 c k
  exact ok_look_readings F (PySem.W.mg_of X G a) (F.binds (ps:=["base","readings","many"]) fun _ _ _ _ _ _ us hl=>match us,hl with | [_,_,_],_=>rfl) z_len x_NoNotes c_look_rows
 have c_column_back:Cal (Cn.mk ⟨K,l.prog,w,mg⟩ base) "column_back" 3 1 d_column_back:=by
  obtain ⟨_,_,_,_,_,_,_,_,_,_,a,l1,c,k⟩:=d2
  have F:=fun_mk (st:=s_column_back) l1 c k
  exact ok_column_back F (PySem.W.mg_of X G a) (F.binds (ps:=["base","many","taken"]) fun _ _ _ _ _ _ us hl=>match us,hl with | [_,_,_],_=>rfl) z_tuple z_range
 have c_collation_back:Cal (Cn.mk ⟨K,l.prog,w,mg⟩ base) "collation_back" 3 3 d_collation_back:=by
  obtain ⟨_,_,_,_,_,_,_,_,_,_,a,l1,c,k⟩:=d3
  have F:=fun_mk (st:=s_collation_back) l1 c k
  exact ok_collation_back F (PySem.W.mg_of X G a) (F.binds (ps:=["entries","many","notes"]) fun _ _ _ _ _ _ us hl=>match us,hl with | [_,_,_],_=>rfl) z_len z_tuple x_NoNotes c_column_back c_look_readings
 have c_entry_read:Cal (Cn.mk ⟨K,l.prog,w,mg⟩ base) "entry_read" 1 1 d_entry_read:=by
  obtain ⟨_,_,_,_,_,_,_,_,_,_,a,l1,c,k⟩:=d4
  have F:=fun_mk (st:=s_entry_read) l1 c k
  exact ok_entry_read F (PySem.W.mg_of X G a) (F.binds (ps:=["text"]) fun _ _ _ _ _ _ us hl=>match us,hl with | [_],_=>rfl) z_len g_LETTERS x_NoNotes
 have c_number_read:Cal (Cn.mk ⟨K,l.prog,w,mg⟩ base) "number_read" 1 1 d_number_read:=by
  obtain ⟨_,_,_,_,_,_,_,_,_,_,a,l1,c,k⟩:=d5
  have F:=fun_mk (st:=s_number_read) l1 c k
  exact ok_number_read F (PySem.W.mg_of X G a) (F.binds (ps:=["text"]) fun _ _ _ _ _ _ us hl=>match us,hl with | [_],_=>rfl) z_len z_int g_FIGURES x_NoNotes
 have c_two_parts:Cal (Cn.mk ⟨K,l.prog,w,mg⟩ base) "two_parts" 2 1 d_two_parts:=by
  obtain ⟨_,_,_,_,_,_,_,_,_,_,a,l1,c,k⟩:=d6
  have F:=fun_mk (st:=s_two_parts) l1 c k
  exact ok_two_parts F (PySem.W.mg_of X G a) (F.binds (ps:=["text","mark"]) fun _ _ _ _ _ _ us hl=>match us,hl with | [_,_],_=>rfl) x_NoNotes
 have c_reading_read:Cal (Cn.mk ⟨K,l.prog,w,mg⟩ base) "reading_read" 1 2 d_reading_read:=by
  obtain ⟨_,_,_,_,_,_,_,_,_,_,a,l1,c,k⟩:=d7
  have F:=fun_mk (st:=s_reading_read) l1 c k
  exact ok_reading_read F (PySem.W.mg_of X G a) (F.binds (ps:=["text"]) fun _ _ _ _ _ _ us hl=>match us,hl with | [_],_=>rfl) z_tuple c_two_parts c_entry_read c_number_read
 have c_note_read:Cal (Cn.mk ⟨K,l.prog,w,mg⟩ base) "note_read" 1 3 d_note_read:=by
  obtain ⟨_,_,_,_,_,_,_,_,_,_,a,l1,c,k⟩:=d8
  have F:=fun_mk (st:=s_note_read) l1 c k
  exact ok_note_read F (PySem.W.mg_of X G a) (F.binds (ps:=["line"]) fun _ _ _ _ _ _ us hl=>match us,hl with | [_],_=>rfl) z_tuple c_two_parts c_number_read c_reading_read
 have c_apparatus_read:Cal (Cn.mk ⟨K,l.prog,w,mg⟩ base) "apparatus_read" 1 4 d_apparatus_read:=by
  obtain ⟨_,_,_,_,_,_,_,_,_,_,a,l1,c,k⟩:=d9
  have F:=fun_mk (st:=s_apparatus_read) l1 c k
  exact ok_apparatus_read F (PySem.W.mg_of X G a) (F.binds (ps:=["text"]) fun _ _ _ _ _ _ us hl=>match us,hl with | [_],_=>rfl) z_tuple g_MOST_ROWS c_entry_read c_note_read c_collation_back
 have c__law_draw:Cal (Cn.mk ⟨K,l.prog,w,mg⟩ base) "_law_draw" 3 1 d_law_draw:=by
  obtain ⟨_,_,_,_,_,_,_,_,_,_,a,l1,c,k⟩:=d10
  have F:=fun_mk (st:=s__law_draw) l1 c k
  exact ok__law_draw F (PySem.W.mg_of X G a) (F.binds (ps:=["cell","k","many"]) fun _ _ _ _ _ _ us hl=>match us,hl with | [_,_,_],_=>rfl)
 have c__law_same:Cal (Cn.mk ⟨K,l.prog,w,mg⟩ base) "_law_same" 2 9 (d_law_same_v1 8):=by
  obtain ⟨_,_,_,_,_,_,_,_,_,_,a,l1,c,k⟩:=d11
  have F:=fun_mk (st:=s__law_same) l1 c k
  exact ok__law_same F (PySem.W.mg_of X G a) (F.binds (ps:=["found","due"]) fun _ _ _ _ _ _ us hl=>match us,hl with | [_,_],_=>rfl) z_isinstance z_tuple z_len z_all z_range z_str z_int z_bool 8
 have c__law_word_by:Cal (Cn.mk ⟨K,l.prog,w,mg⟩ base) "_law_word_by" 2 2 d_law_word_by:=by
  obtain ⟨_,_,_,_,_,_,_,_,_,_,a,l1,c,k⟩:=d12
  have F:=fun_mk (st:=s__law_word_by) l1 c k
  exact ok__law_word_by F (PySem.W.mg_of X G a) (F.binds (ps:=["cell","k"]) fun _ _ _ _ _ _ us hl=>match us,hl with | [_,_],_=>rfl) z_range c__law_draw
 have c__law_asked:Cal (Cn.mk ⟨K,l.prog,w,mg⟩ base) "_law_asked" 1 5 d_law_asked_v1:=by
  obtain ⟨_,_,_,_,_,_,_,_,_,_,a,l1,c,k⟩:=d13
  have F:=fun_mk (st:=s__law_asked) l1 c k
  exact ok__law_asked F (PySem.W.mg_of X G a) (F.binds (ps:=["line"]) fun _ _ _ _ _ _ us hl=>match us,hl with | [_],_=>rfl) z_isinstance z_int x_VellumError x_NoNotes s_VellumError q_NoLine q_NoName q_NoPrices q_NoRow q_NoSlips q_TooMany q_TwiceNamed q_NoNotes q_ValueError c_apparatus_read
 have c__law_bad_heads:Cal (Cn.mk ⟨K,l.prog,w,mg⟩ base) "_law_bad_heads" 1 1 d_law_bad_heads:=by
  obtain ⟨_,_,_,_,_,_,_,_,_,_,a,l1,c,k⟩:=d14
  have F:=fun_mk (st:=s__law_bad_heads) l1 c k
  exact ok__law_bad_heads F (PySem.W.mg_of X G a) (F.binds (ps:=["word"]) fun _ _ _ _ _ _ us hl=>match us,hl with | [_],_=>rfl)
 have c__law_bad_lines:Cal (Cn.mk ⟨K,l.prog,w,mg⟩ base) "_law_bad_lines" 2 1 d_law_bad_lines:=by
  obtain ⟨_,_,_,_,_,_,_,_,_,_,a,l1,c,k⟩:=d15
  have F:=fun_mk (st:=s__law_bad_lines) l1 c k
  exact ok__law_bad_lines F (PySem.W.mg_of X G a) (F.binds (ps:=["word","other"]) fun _ _ _ _ _ _ us hl=>match us,hl with | [_,_],_=>rfl)
 have c__law_good:Cal (Cn.mk ⟨K,l.prog,w,mg⟩ base) "_law_good" 2 2 d_law_good:=by
  obtain ⟨_,_,_,_,_,_,_,_,_,_,a,l1,c,k⟩:=d16
  have F:=fun_mk (st:=s__law_good) l1 c k
  exact ok__law_good F (PySem.W.mg_of X G a) (F.binds (ps:=["cell","other"]) fun _ _ _ _ _ _ us hl=>match us,hl with | [_,_],_=>rfl) c__law_draw
 have c__law_line_of:Cal (Cn.mk ⟨K,l.prog,w,mg⟩ base) "_law_line_of" 1 1 d_law_line_of:=by
  obtain ⟨_,_,_,_,_,_,_,_,_,_,a,l1,c,k⟩:=d17
  have F:=fun_mk (st:=s__law_line_of) l1 c k
  exact ok__law_line_of F (PySem.W.mg_of X G a) (F.binds (ps:=["note"]) fun _ _ _ _ _ _ us hl=>match us,hl with | [_],_=>rfl) z_int z_str
 have c__law_right:Cal (Cn.mk ⟨K,l.prog,w,mg⟩ base) "_law_right" 1 10 d_law_right_v1:=by
  obtain ⟨_,_,_,_,_,_,_,_,_,_,a,l1,c,k⟩:=d18
  have F:=fun_mk (st:=s__law_right) l1 c k
  exact ok__law_right F (PySem.W.mg_of X G a) (F.binds (ps:=["cell"]) fun _ _ _ _ _ _ us hl=>match us,hl with | [_],_=>rfl) z_int z_len c__law_word_by c__law_draw c__law_bad_heads c__law_asked c__law_bad_lines c__law_good c__law_line_of c__law_same
 have F:=fun_mk (st:=s_law) lL cL kL
 exact law_end (C:=Cn.mk ⟨K,l.prog,w,mg⟩ base) (ok_law F (PySem.W.mg_of X G aL) (F.binds (ps:=["script"]) fun _ _ _ _ _ _ us hl=>match us,hl with | [_],_=>rfl) c__law_right c__law_asked c_apparatus_read c__law_same) s2_law
end VP
open PySem PySem.W PyProof.Rows
set_option maxHeartbeats 0 in
theorem PySem.Challenge.cw_vellum_k32_texts_that_are_no_apparatus_holds : PySem.Challenge.rw_vellum_k32_texts_that_are_no_apparatus.Holds := by
  w_on; refine vp_hd ?_
  k_fill
  refine L2.walk_ofB (l := PySem.Challenge.rw_vellum_k32_texts_that_are_no_apparatus) (n := 63) (k := 11) (x := "script") (CX := fun w => L2.CX PySem.Challenge.rw_vellum_k32_texts_that_are_no_apparatus.prog w) (sp := fun w => Vl.spLaw _) rfl (by decide) rfl ⟨rfl, by decide, by decide⟩ (fun w h Y => PySem.W.kIn_of Y) ?F (fun _ _ a ns hl hb ho hS => ⟨a, ns, rfl, hS, hl, hb, ho, fun _ => rfl⟩) (fun _ _ _ _ _ h => Vl.cx_no h)
  case F =>
    intro w mg fa h KX G hmg
    refine' VP.all_mk KX G hmg ?d0 ?d1 ?d2 ?d3 ?d4 ?d5 ?d6 ?d7 ?d8 ?d9 ?d10 ?d11 ?d12 ?d13 ?d14 ?d15 ?d16 ?d17 ?d18 ?d19 ?zz_all ?zz_bool ?zz_int ?zz_isinstance ?zz_len ?zz_range ?zz_str ?zz_tuple ?gg_FIGURES ?gr_FIGURES ?gg_LETTERS ?gr_LETTERS ?gg_MOST_ROWS ?gr_MOST_ROWS ?xg_NoLine ?xe_NoLine ?xk_NoLine ?xb_NoLine ?xt_NoLine ?xg_NoName ?xe_NoName ?xk_NoName ?xb_NoName ?xt_NoName ?xg_NoNotes ?xe_NoNotes ?xk_NoNotes ?xb_NoNotes ?xt_NoNotes ?xg_NoPrices ?xe_NoPrices ?xk_NoPrices ?xb_NoPrices ?xt_NoPrices ?xg_NoRow ?xe_NoRow ?xk_NoRow ?xb_NoRow ?xt_NoRow ?xg_NoSlips ?xe_NoSlips ?xk_NoSlips ?xb_NoSlips ?xt_NoSlips ?xg_TooMany ?xe_TooMany ?xk_TooMany ?xb_TooMany ?xt_TooMany ?xg_TwiceNamed ?xe_TwiceNamed ?xk_TwiceNamed ?xb_TwiceNamed ?xt_TwiceNamed ?xg_VellumError ?xe_VellumError ?xk_VellumError ?xb_VellumError ?xt_VellumError ?xq_VellumError_NoNotes ?xi_NoNotes ?yk_NoLine_NoNotes ?yk_NoName_NoNotes ?yk_NoNotes_NoNotes ?yk_NoPrices_NoNotes ?yk_NoRow_NoNotes ?yk_NoSlips_NoNotes ?yk_TooMany_NoNotes ?yk_TwiceNamed_NoNotes ?yz_ValueError ?yk_ValueError_NoNotes
    (case zz_all => k_is); (case zz_bool => k_is); (case zz_int => k_is); (case zz_isinstance => k_is); (case zz_len => k_is); (case zz_range => k_is); (case zz_str => k_is); (case zz_tuple => k_is)
    (case gg_FIGURES => k_is); (case gr_FIGURES => first | exact rfl | exact ⟨_, rfl⟩)
    (case gg_LETTERS => k_is); (case gr_LETTERS => first | exact rfl | exact ⟨_, rfl⟩)
    (case gg_MOST_ROWS => k_is); (case gr_MOST_ROWS => first | exact rfl | exact ⟨_, rfl⟩)
    (case xg_NoLine => k_is); (case xe_NoLine => k_exc); (case xk_NoLine => k_is); (case xb_NoLine => k_is); (case xt_NoLine => k_is)
    (case xg_NoName => k_is); (case xe_NoName => k_exc); (case xk_NoName => k_is); (case xb_NoName => k_is); (case xt_NoName => k_is)
    (case xg_NoNotes => k_is); (case xe_NoNotes => k_exc); (case xk_NoNotes => k_is); (case xb_NoNotes => k_is); (case xt_NoNotes => k_is)
    (case xg_NoPrices => k_is); (case xe_NoPrices => k_exc); (case xk_NoPrices => k_is); (case xb_NoPrices => k_is); (case xt_NoPrices => k_is)
    (case xg_NoRow => k_is); (case xe_NoRow => k_exc); (case xk_NoRow => k_is); (case xb_NoRow => k_is); (case xt_NoRow => k_is)
    (case xg_NoSlips => k_is); (case xe_NoSlips => k_exc); (case xk_NoSlips => k_is); (case xb_NoSlips => k_is); (case xt_NoSlips => k_is)
    (case xg_TooMany => k_is); (case xe_TooMany => k_exc); (case xk_TooMany => k_is); (case xb_TooMany => k_is); (case xt_TooMany => k_is)
    (case xg_TwiceNamed => k_is); (case xe_TwiceNamed => k_exc); (case xk_TwiceNamed => k_is); (case xb_TwiceNamed => k_is); (case xt_TwiceNamed => k_is)
    (case xg_VellumError => k_is); (case xe_VellumError => k_exc); (case xk_VellumError => k_is); (case xb_VellumError => k_is); (case xt_VellumError => k_is)
    (case xq_VellumError_NoNotes => kts_exm)
    (case xi_NoNotes => constructor <;> k_is)
    (case yk_NoLine_NoNotes => kit_is)
    (case yk_NoName_NoNotes => kit_is)
    (case yk_NoNotes_NoNotes => kit_is)
    (case yk_NoPrices_NoNotes => kit_is)
    (case yk_NoRow_NoNotes => kit_is)
    (case yk_NoSlips_NoNotes => kit_is)
    (case yk_TooMany_NoNotes => kit_is)
    (case yk_TwiceNamed_NoNotes => kit_is)
    (case yz_ValueError => k_is)
    (case yk_ValueError_NoNotes => kit_is)
    all_goals (as_aux_lemma => exact ⟨_, _, _, _, _, _, _, _, _, _, by k_is, by k_is, by k_is, by k_is⟩)
end
