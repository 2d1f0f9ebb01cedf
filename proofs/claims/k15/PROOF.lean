import PyProof.Rows.All
import Wide.All
import OpenK.AllK
import Wide.FinOn
import HandS.ForMost
import HandS.ForExc
import HandS.Wide
import HandS.Deep
import HandS.EndBits
import HandS.CallSlots
import KE.KDictKeyed
import HandS.TupAny
import HandS.TupMul
import HandS.Text
import HandS.Style
import HandS.IsInst
import HandS.TryOnly
import KE.GoesEnum
import HandS.Rev
import HandS.RevRange
import PyProof.StrLawsChain
import HandS.StrMore
import KE.DataMinMax
import KE.SortData
import HandS.SortKw
import KE.IntTextLaws
import HandS.Codes
import HandS.RaiseMore
import KE.KxMul
import PyProof.Rows.BitMore
import KE.KIsAll
import HandS.ExcIs
import PyProof.StrOps2
import HandS.Dict
import KE.KDictLaws
import KE.KDictDisplayH
import HandS.Iter
import KE.KDictWalk
import KE.KDictSum
import KE.KDictCopyH
import HandS.More
import PyProof.TupleOps
import KE.KRevIter
import PyProof.FactsAll.subtypes_4
import HandS.SetFor
import HandS.Strs
import HandS.Conv
import HandS.TryMany
import HandS.Defaults
import PyProof.TupleOfSeq
import PySem.Challenge.RW_vellum_k15_whole_small_rows_gone_through
set_option Elab.async false
section
set_option Elab.async false
set_option linter.all false
set_option maxRecDepth 100000
open PySem PySem.W PyProof.Rows
set_option maxHeartbeats 0 in
open_top vp_hd for PySem.Challenge.rw_vellum_k15_whole_small_rows_gone_through
end
section
set_option linter.all false
namespace Vm
inductive PV where
 | non | bl (b:Bool) | int (i:Int) | str (s:List Nat) | tup (l:List PV) | lst (l:List PV) | dic (ks l:List PV) | exo (c:Nat) (l:List PV)
inductive Tg where
 | fz | bw (d:Nat) | ow (d:Nat)
inductive Res (α:Type) where
 | ok (a:α) | exc (c:Nat) | bad
abbrev TV:=Tg×PV
abbrev Sl:=Option TV
abbrev En:=List Sl
def Res.bind{α β:Type}(r:Res α)(f:α→Res β):Res β:=match r with
 | .ok a=>f a
 | .exc c=>.exc c
 | .bad=>.bad
@[simp] theorem bind_ok {α β:Type} (a:α) (f:α→Res β):(Res.ok a).bind f=f a:=rfl
@[simp] theorem bind_exc {α β:Type} (c:Nat) (f:α→Res β):(Res.exc c).bind f = .exc c:=rfl
@[simp] theorem bind_bad {α β:Type} (f:α→Res β):(Res.bad:Res α).bind f = .bad:=rfl
@[simp] def boxed:PV→Bool
 | .lst _=>true
 | .dic _ _=>true
 | .exo 0 _=>true
 | _=>false
def strG(l:List Nat):Bool:=decide (l.length≤16777216) && l.all (fun c=>decide (c < 1114112))
mutual
@[simp] def eqv:PV→PV→Bool
 | .non,.non=>true
 | .bl a,.bl b=>a == b
 | .bl a,.int j=>(if a then 1 else 0) == j
 | .int i,.bl b=>i == (if b then 1 else 0)
 | .int i,.int j=>i == j
 | .str x,.str y=>x == y
 | .lst xs,.lst ys=>eqvL xs ys
 | .tup xs,.tup ys=>eqvL xs ys
 | _,_=>false
@[simp] def eqvL:List PV→List PV→Bool
 | [],[]=>true
 | x :: xs,y :: ys=>eqv x y && eqvL xs ys
 | _,_=>false
end
mutual
@[simp] def shp:Nat→PV→Bool
 | _,.non=>true
 | _,.bl _=>true
 | _,.int _=>true
 | _,.str _=>true
 | 0,.tup _=>false
 | 0,.lst _=>false
 | n+1,.tup l=>shpL n l
 | n+1,.lst l=>shpL n l
 | _,.dic _ _=>false
 | _,.exo _ _=>false
@[simp] def shpL:Nat→List PV→Bool
 | _,[]=>true
 | n,x :: xs=>shp n x && shpL n xs
end
@[simp] def plainP:PV→Bool
 | .non=>true
 | .bl _=>true
 | .int _=>true
 | .str _=>true
 | _=>false
mutual
@[simp] def stab:PV→Bool
 | .non=>true
 | .bl _=>true
 | .int _=>true
 | .str _=>true
 | .tup l=>stabL l
 | _=>false
@[simp] def stabL:List PV→Bool
 | []=>true
 | x :: xs=>stab x && stabL xs
end
@[simp] def stabO:Nat→PV→Bool
 | 0,p=>stab p
 | d+1,.lst l=>l.all (stabO d)
 | d+1,.dic _ l=>l.all (stabO d)
 | _,_=>false
def vIxN(n:Nat)(i:Int):Option Nat:=if 0≤i then (if i < n then some i.toNat else none) else if -(n:Int)≤i then some (i+n).toNat else none
def vAt{α:Type}(xs:List α)(i:Int):Option α:=(vIxN xs.length i).bind fun j=>xs[j]?
def vSix(n d:Nat):Option Int→Nat
 | none=>d
 | some v=>if v < 0 then (v+(n:Int)).toNat else min v.toNat n
def cutL{α:Type}(xs:List α)(lo hi:Option Int):List α:=(xs.drop (vSix xs.length 0 lo)).take (vSix xs.length xs.length hi - vSix xs.length 0 lo)
@[simp] def En.get (Γ:En) (i:Nat):Sl:=Γ.getD i none
@[simp] def wipeE (Γ:En):List Nat→En
 | []=>Γ
 | v :: vs=>(wipeE Γ vs).set v none
@[simp] def putV:TV→Res PV
 | (.fz,p)=>.ok p
 | (.ow _,p)=>.ok p
 | (.bw 0,p)=>.ok p
 | (.bw _,_)=>.bad
abbrev EX:=En→Res TV
abbrev EXs:=En→Res (List TV)
@[simp] def fzv (p:PV):Res TV:=.ok (.fz,p)
@[simp] def eC (p:PV):EX:=fun _=>.ok (.fz,p)
@[simp] def eVar (i:Nat):EX:=fun Γ=>match Γ.get i with
 | some (.fz,p)=>.ok (.fz,p)
 | some (.bw d,p)=>.ok (.bw d,p)
 | some (.ow d,p)=>.ok (.bw d,p)
 | none=>.bad
@[simp] def eOp2 (op:PV→PV→Res PV) (a b:EX):EX:=fun Γ=>(a Γ).bind fun x=>(b Γ).bind fun y=>(op x.2 y.2).bind fzv
@[simp] def eOp1 (op:PV→Res PV) (a:EX):EX:=fun Γ=>(a Γ).bind fun x=>(op x.2).bind fzv
@[simp] def eNil:EXs:=fun _=>.ok []
@[simp] def eCons (a:EX) (as:EXs):EXs:=fun Γ=>(a Γ).bind fun x=>(as Γ).bind fun xs=>.ok (x :: xs)
@[simp] def putVs:List TV→Res (List PV)
 | []=>.ok []
 | x :: xs=>(putV x).bind fun p=>(putVs xs).bind fun ps=>.ok (p :: ps)
@[simp] def eTup (as:EXs):EX:=fun Γ=>(as Γ).bind fun xs=>(putVs xs).bind fun ps=>if ps.length≤16777216 then .ok (.fz,.tup ps) else .bad
@[simp] def eLst (as:EXs):EX:=fun Γ=>(as Γ).bind fun xs=>(putVs xs).bind fun ps=>if ps.length≤16777216 then .ok (.ow 1,.lst ps) else .bad
@[simp] def opAdd:PV→PV→Res PV
 | .int i,.int j=>.ok (.int (i+j))
 | .str a,.str b=>if a.length+b.length≤16777216 then .ok (.str (a++b)) else .bad
 | _,_=>.bad
@[simp] def opSub:PV→PV→Res PV
 | .int i,.int j=>.ok (.int (i - j))
 | _,_=>.bad
def mulOk(i j:Int):Bool:=decide (i.natAbs.log2+j.natAbs.log2 < 50000000)
@[simp] def opMul:PV→PV→Res PV
 | .int i,.int j=>if mulOk i j then .ok (.int (i * j)) else .bad
 | _,_=>.bad
@[simp] def opFdiv:PV→PV→Res PV
 | .int i,.int j=>if 0 < j∧j.natAbs.log2 < 9000 then .ok (.int (i / j)) else .bad
 | _,_=>.bad
@[simp] def opMod:PV→PV→Res PV
 | .int i,.int j=>if 0 < j then .ok (.int (i % j)) else .bad
 | _,_=>.bad
@[simp] def opPow:PV→PV→Res PV
 | .int i,.int j=>if 0≤j∧j≤1000∧i.natAbs < 2 ^ 64 then .ok (.int (i ^ j.toNat)) else .bad
 | _,_=>.bad
@[simp] def opNeg:PV→Res PV
 | .int i=>.ok (.int (-i))
 | _=>.bad
@[simp] def opLt:PV→PV→Res PV
 | .int i,.int j=>.ok (.bl (decide (i < j)))
 | _,_=>.bad
@[simp] def opLe:PV→PV→Res PV
 | .int i,.int j=>.ok (.bl (decide (i≤j)))
 | _,_=>.bad
@[simp] def opGt:PV→PV→Res PV
 | .int i,.int j=>.ok (.bl (decide (j < i)))
 | _,_=>.bad
@[simp] def opGe:PV→PV→Res PV
 | .int i,.int j=>.ok (.bl (decide (j≤i)))
 | _,_=>.bad
@[simp] def opEq (x y:PV):Res PV:=if shp 60 x && shp 60 y then .ok (.bl (eqv x y)) else .bad
@[simp] def opNe (x y:PV):Res PV:=if shp 60 x && shp 60 y then .ok (.bl (!eqv x y)) else .bad
@[simp] def isNon:PV→Bool
 | .non=>true
 | _=>false
@[simp] def opIsN (x:PV):Res PV:=.ok (.bl (isNon x))
@[simp] def opNotN (x:PV):Res PV:=.ok (.bl (!isNon x))
@[simp] def isBl (b:Bool):PV→Bool
 | .bl c=>c == b
 | _=>false
@[simp] def opIsB (b:Bool) (x:PV):Res PV:=.ok (.bl (isBl b x))
@[simp] def opNotB (b:Bool) (x:PV):Res PV:=.ok (.bl (!isBl b x))
@[simp] def opNot:PV→Res PV
 | .bl b=>.ok (.bl (!b))
 | _=>.bad
@[simp] def inB (x y:PV):Res Bool:=match y with
 | .str t=>match x with
  | .str [c]=>.ok (t.elem c)
  | _=>.bad
 | .lst l=>if shp 50 x && shpL 50 l then .ok (l.any fun z=>eqv z x) else .bad
 | .tup l=>if plainP x && l.all plainP then .ok (l.any fun z=>eqv z x) else .bad
 | _=>.bad
@[simp] def opIn (x y:PV):Res PV:=(inB x y).bind fun b=>.ok (.bl b)
@[simp] def opNotIn (x y:PV):Res PV:=(inB x y).bind fun b=>.ok (.bl (!b))
@[simp] def dn:Tg→Tg
 | .fz=>.fz
 | .bw 0=>.fz
 | .bw 1=>.fz
 | .bw (d+2)=>.bw (d+1)
 | .ow 0=>.fz
 | .ow 1=>.fz
 | .ow (d+2)=>.bw (d+1)
@[simp] def ixV (o:TV) (i:PV):Res TV:=match o,i with
 | (t,.lst l),.int k=>match vAt l k with
  | some x=>.ok (dn t,x)
  | none=>.bad
 | (_,.tup l),.int k=>match vAt l k with
  | some x=>.ok (.fz,x)
  | none=>.bad
 | (_,.str s),.int k=>match vAt s k with
  | some c=>.ok (.fz,.str [c])
  | none=>.bad
 | _,_=>.bad
@[simp] def eIdx (a b:EX):EX:=fun Γ=>(a Γ).bind fun x=>(b Γ).bind fun y=>ixV x y.2
abbrev OX:=En→Res (Option Int)
@[simp] def oNone:OX:=fun _=>.ok none
@[simp] def oSome (a:EX):OX:=fun Γ=>(a Γ).bind fun x=>match x.2 with
 | .int i=>.ok (some i)
 | _=>.bad
@[simp] def flat1:Tg→Bool
 | .fz=>true
 | .bw 0=>true
 | .bw 1=>true
 | .ow 0=>true
 | .ow 1=>true
 | _=>false
@[simp] def sliceV (o:TV) (lo hi:Option Int):Res TV:=match o with
 | (t,.lst l)=>if flat1 t then .ok (.ow 1,.lst (cutL l lo hi)) else .bad
 | (_,.tup l)=>.ok (.fz,.tup (cutL l lo hi))
 | (_,.str s)=>.ok (.fz,.str (cutL s lo hi))
 | _=>.bad
@[simp] def eSlice (a:EX) (lo hi:OX):EX:=fun Γ=>(a Γ).bind fun x=>(lo Γ).bind fun l=>(hi Γ).bind fun h=>sliceV x l h
@[simp] def addV (x y:TV):Res TV:=match x,y with
 | (t,.lst a),(u,.lst b)=>if flat1 t && flat1 u && decide (a.length+b.length≤16777216) then .ok (.ow 1,.lst (a++b)) else .bad
 | (_,.tup a),(_,.tup b)=>if a.length+b.length≤16777216 then .ok (.fz,.tup (a++b)) else .bad
 | x,y=>(opAdd x.2 y.2).bind fzv
@[simp] def eAdd (a b:EX):EX:=fun Γ=>(a Γ).bind fun x=>(b Γ).bind fun y=>addV x y
@[simp] def own1:Tg→Bool
 | .ow 1=>true
 | _=>false
def repOk(n:Nat):Int→Bool
 | .ofNat j=>Nat.ble j 1152921504606846975 && Nat.ble (n * j) 16777216
 | .negSucc j=>Nat.ble j 1152921504606846975
theorem repOk_iff{n:Nat}{k:Int}:repOk n k=true ↔ -(2 ^ 60)≤k∧k < 2 ^ 60∧n * k.toNat≤16777216:=by
 cases k with
 | ofNat j =>
  rw [repOk,Bool.and_eq_true,Nat.ble_eq,Nat.ble_eq]
  simp only [Int.ofNat_eq_natCast,Int.toNat_natCast]
  exact ⟨fun h=>⟨by omega,by omega,h.2⟩,fun h=>⟨by omega,h.2.2⟩⟩
 | negSucc j =>
  rw [repOk,Nat.ble_eq]
  have e:(Int.negSucc j).toNat=0:=rfl
  rw [e,Nat.mul_zero]
  exact ⟨fun h=>⟨by omega,by omega,by omega⟩,fun h=>by omega⟩
@[simp] def mulV (x y:TV):Res TV:=match x.2,y.2 with
 | .lst a,.int k=>if own1 x.1 && repOk a.length k then .ok (.ow 1,.lst (List.replicate k.toNat a).flatten) else .bad
 | p,q=>(opMul p q).bind fzv
@[simp] def eMul (a b:EX):EX:=fun Γ=>(a Γ).bind fun x=>(b Γ).bind fun y=>mulV x y
abbrev TX:=En→Res Bool
@[simp] def xVal (a:EX):TX:=fun Γ=>(a Γ).bind fun x=>match x.2 with
 | .bl b=>.ok b
 | _=>.bad
@[simp] def xAnd (a b:TX):TX:=fun Γ=>(a Γ).bind fun x=>if x then b Γ else .ok false
@[simp] def xOr (a b:TX):TX:=fun Γ=>(a Γ).bind fun x=>if x then .ok true else b Γ
@[simp] def xNot (a:TX):TX:=fun Γ=>(a Γ).bind fun x=>.ok (!x)
@[simp] def eTest (a:TX):EX:=fun Γ=>(a Γ).bind fun b=>.ok (.fz,.bl b)
@[simp] def eIf (t:TX) (a b:EX):EX:=fun Γ=>(t Γ).bind fun c=>if c then a Γ else b Γ
@[simp] def eAnd (a b:EX):EX:=fun Γ=>(a Γ).bind fun x=>match x.2 with
 | .bl true=>b Γ
 | .bl false=>.ok (.fz,.bl false)
 | _=>.bad
@[simp] def eOr (a b:EX):EX:=fun Γ=>(a Γ).bind fun x=>match x.2 with
 | .bl true=>.ok (.fz,.bl true)
 | .bl false=>b Γ
 | _=>.bad
abbrev FN:=List PV→Res TV
@[simp] def isBw:TV→Bool
 | (.bw 0,_)=>false
 | (.bw _,_)=>true
 | _=>false
@[simp] def stabR:TV→Bool
 | (.fz,p)=>stab p
 | (.bw _,_)=>false
 | (.ow d,p)=>stabO d p
@[simp] def eCall (f:FN) (as:EXs):EX:=fun Γ=>(as Γ).bind fun xs=>(f (xs.map (·.2))).bind fun r=>if xs.any isBw && !stabR r then .bad else .ok r
@[simp] def eLen (a:EX):EX:=fun Γ=>(a Γ).bind fun x=>match x.2 with
 | .lst l=>.ok (.fz,.int l.length)
 | .tup l=>.ok (.fz,.int l.length)
 | .str l=>.ok (.fz,.int l.length)
 | .dic _ _=>.bad
 | _=>.bad
@[simp] def eTuple (a:EX):EX:=fun Γ=>(a Γ).bind fun x=>match x with
 | (t,.lst l)=>if flat1 t then .ok (.fz,.tup l) else .bad
 | (_,.tup l)=>.ok (.fz,.tup l)
 | _=>.bad
@[simp] def eList (a:EX):EX:=fun Γ=>(a Γ).bind fun x=>match x with
 | (t,.lst l)=>if flat1 t then .ok (.ow 1,.lst l) else .bad
 | (_,.tup l)=>.ok (.ow 1,.lst l)
 | _=>.bad
def allBl:List PV→Res Bool
 | []=>.ok true
 | .bl b :: r=>(allBl r).bind fun c=>.ok (b && c)
 | _=>.bad
def anyBl:List PV→Res Bool
 | []=>.ok false
 | .bl b :: r=>(anyBl r).bind fun c=>.ok (b || c)
 | _=>.bad
def intsOf:List PV→Res (List Int)
 | []=>.ok []
 | .int i :: r=>(intsOf r).bind fun is=>.ok (i :: is)
 | _=>.bad
@[simp] def lstOf:PV→Res (List PV)
 | .lst l=>.ok l
 | _=>.bad
@[simp] def eAll (a:EX):EX:=fun Γ=>(a Γ).bind fun x=>match x.2 with
 | .lst l=>(allBl l).bind fun b=>.ok (.fz,.bl b)
 | _=>.bad
@[simp] def eAny (a:EX):EX:=fun Γ=>(a Γ).bind fun x=>match x.2 with
 | .lst l=>(anyBl l).bind fun b=>.ok (.fz,.bl b)
 | _=>.bad
@[simp] def eSum (a:EX):EX:=fun Γ=>(a Γ).bind fun x=>match x.2 with
 | .lst l=>(intsOf l).bind fun is=>.ok (.fz,.int is.sum)
 | _=>.bad
def minI:List Int→Option Int
 | []=>none
 | x :: xs=>some (xs.foldl (fun a b=>if b < a then b else a) x)
def maxI:List Int→Option Int
 | []=>none
 | x :: xs=>some (xs.foldl (fun a b=>if a < b then b else a) x)
@[simp] def eMin2 (a b:EX):EX:=eOp2 (fun x y=>match x,y with
 | .int i,.int j=>.ok (.int (if j < i then j else i))
 | _,_=>.bad) a b
@[simp] def eMax2 (a b:EX):EX:=eOp2 (fun x y=>match x,y with
 | .int i,.int j=>.ok (.int (if i < j then j else i))
 | _,_=>.bad) a b
@[simp] def eMin (a:EX):EX:=fun Γ=>(a Γ).bind fun x=>(lstOf x.2).bind fun l=>(intsOf l).bind fun is=>match minI is with
 | some m=>.ok (.fz,.int m)
 | none=>.bad
@[simp] def eMax (a:EX):EX:=fun Γ=>(a Γ).bind fun x=>(lstOf x.2).bind fun l=>(intsOf l).bind fun is=>match maxI is with
 | some m=>.ok (.fz,.int m)
 | none=>.bad
@[simp] def kindIs:String→PV→Bool
 | "tuple",.tup _=>true
 | "list",.lst _=>true
 | "str",.str _=>true
 | "int",.int _=>true
 | "int",.bl _=>true
 | "bool",.bl _=>true
 | "dict",.dic _ _=>true
 | _,_=>false
@[simp] def isExo:PV→Bool
 | .exo _ _=>true
 | _=>false
@[simp] def eIsI (a:EX) (t:String):EX:=fun Γ=>eOp1 (fun x=>if isExo x then .bad else .ok (.bl (kindIs t x))) a Γ
abbrev IX:=En→Res (Bool×List TV)
@[simp] def jSeq (a:EX):IX:=fun Γ=>(a Γ).bind fun x=>match x.2 with
 | .lst l=>match x.1 with
  | .bw d=>.ok (false,l.map fun p=>(dn (.bw d),p))
  | _=>.ok (true,l.map fun p=>(.fz,p))
 | .tup l=>.ok (true,l.map fun p=>(.fz,p))
 | .str l=>.ok (true,l.map fun c=>(.fz,.str [c]))
 | _=>.bad
def rngL(lo hi:Int):List PV:=(List.range (hi - lo).toNat).map fun (k:Nat)=>.int (lo+(k:Int))
def rngOk:Int→Bool
 | .ofNat n=>Nat.ble n 4611686018427387903
 | .negSucc n=>Nat.ble n 4611686018427387903
theorem rngOk_iff{i:Int}:rngOk i=true ↔ -(2 ^ 62)≤i∧i < 2 ^ 62:=by
 cases i with
 | ofNat n=>rw [rngOk,Nat.ble_eq]; exact ⟨fun h=>⟨by simp only [Int.ofNat_eq_natCast]; omega,by simp only [Int.ofNat_eq_natCast]; omega⟩,fun h=>by simp only [Int.ofNat_eq_natCast] at h; omega⟩
 | negSucc n=>rw [rngOk,Nat.ble_eq]; exact ⟨fun h=>⟨by omega,by omega⟩,fun h=>by omega⟩
theorem rngOk_of{i:Int}(a:-(2 ^ 62)≤i)(b:i < 2 ^ 62):rngOk i=true:=rngOk_iff.mpr ⟨a,b⟩
@[simp] def jRange (a:EX):IX:=fun Γ=>(a Γ).bind fun x=>match x.2 with
 | .int n=>if rngOk n then .ok (true,(rngL 0 n).map fun p=>(.fz,p)) else .bad
 | _=>.bad
@[simp] def jRange2 (a b:EX):IX:=fun Γ=>(a Γ).bind fun x=>(b Γ).bind fun y=>match x.2,y.2 with
 | .int m,.int n=>if rngOk m && rngOk n then .ok (true,(rngL m n).map fun p=>(.fz,p)) else .bad
 | _,_=>.bad
@[simp] def seqV (x:TV):Res (Bool×List PV):=match x.2 with
 | .lst l=>match x.1 with
  | .bw 0=>.ok (false,l)
  | .bw 1=>.ok (false,l)
  | .bw _=>.bad
  | _=>.ok (true,l)
 | .tup l=>.ok (true,l)
 | .str l=>.ok (true,l.map fun c=>.str [c])
 | _=>.bad
def enumL(l:List PV):List PV:=l.mapIdx fun i p=>.tup [.int (i:Nat),p]
def zipL(l m:List PV):List PV:=List.zipWith (fun p q=>.tup [p,q]) l m
@[simp] def jEnum (a:EX):IX:=fun Γ=>(a Γ).bind fun x=>(seqV x).bind fun y=>.ok (y.1,(enumL y.2).map fun p=>(.fz,p))
@[simp] def jZip (a b:EX):IX:=fun Γ=>(a Γ).bind fun x=>(b Γ).bind fun y=>(seqV x).bind fun l=>(seqV y).bind fun m=>.ok (l.1 && m.1,(zipL l.2 m.2).map fun p=>(.fz,p))
@[simp] def isStr:PV→Bool
 | .str _=>true
 | _=>false
@[simp] def jRev (a:EX):IX:=fun Γ=>(a Γ).bind fun x=>match isStr x.2 with
 | true=>.bad
 | false=>(seqV x).bind fun y=>.ok (y.1,y.2.reverse.map fun p=>(.fz,p))
@[simp] def jRevR (a:EX):IX:=fun Γ=>(a Γ).bind fun x=>match x.2 with
 | .int n=>if rngOk n then .ok (true,(rngL 0 n).reverse.map fun p=>(.fz,p)) else .bad
 | _=>.bad
inductive Pat where
 | v (i:Nat) | t (l:List Nat)
@[simp] def Pat.slots:Pat→List Nat
 | .v i=>[i]
 | .t l=>l
@[simp] def setAll:En→List Nat→List PV→Option En
 | Γ,[],[]=>some Γ
 | Γ,i :: is,p :: ps=>setAll (Γ.set i (some (.fz,p))) is ps
 | _,_,_=>none
@[simp] def seqP (x:TV):Option (List PV):=match x.2 with
 | .tup ps=>some ps
 | .lst ps=>if flat1 x.1 then some ps else none
 | _=>none
@[simp] def bindP (Γ:En) (x:TV):Pat→Res En
 | .v i=>match x with
  | (.bw 0,p)=>.ok (Γ.set i (some (.fz,p)))
  | (.ow d,p)=>.ok (Γ.set i (some (.bw d,p)))
  | (t,p)=>.ok (Γ.set i (some (t,p)))
 | .t is=>match seqP x with
  | some ps=>match setAll Γ is ps with
   | some Γ'=>.ok Γ'
   | none=>.bad
  | none=>.bad
def lcGo(Γ:En)(pat:Pat)(c:TX)(e:EX):List TV→Res (List PV)
 | []=>.ok []
 | x :: xs=>(bindP Γ x pat).bind fun Γ'=>(c Γ').bind fun b =>
   if b then (e Γ').bind fun y=>(putV y).bind fun p=>(lcGo Γ pat c e xs).bind fun ps=>.ok (p :: ps) else lcGo Γ pat c e xs
@[simp] def xYes:TX:=fun _=>.ok true
@[simp] def noExc {α:Type}:Res α→Res α
 | .exc _=>.bad
 | r=>r
@[simp] def eLC (own:List Nat) (it:IX) (pat:Pat) (c:TX) (e:EX):EX:=fun Γ=>(it Γ).bind fun xs =>
 (noExc (lcGo (wipeE Γ own) pat c e xs.2)).bind fun ps=>if ps.length≤16777216 then .ok (.ow 1,.lst ps) else .bad
@[simp] def opAddI:PV→PV→Res PV
 | .int i,.int j=>.ok (.int (i+j))
 | _,_=>.bad
@[simp] def intV (x:TV):Res TV:=match x.2 with
 | .int i=>.ok (.fz,.int i)
 | .bl b=>.ok (.fz,.int (if b then 1 else 0))
 | _=>.bad
@[simp] def eInt (a:EX):EX:=fun Γ=>(a Γ).bind intV
@[simp] def opMax2:PV→PV→Res PV
 | .int i,.int j=>.ok (.int (if j > i then j else i))
 | _,_=>.bad
@[simp] def opMin2:PV→PV→Res PV
 | .int i,.int j=>.ok (.int (if j < i then j else i))
 | _,_=>.bad
def strsOf:List PV→Option (List (List Nat))
 | []=>some []
 | .str l :: r=>(strsOf r).map (l :: ·)
 | _ :: _=>none
@[simp] theorem strsOf_map:∀ ws:List (List Nat),strsOf (ws.map PV.str)=some ws
 | []=>rfl
 | w :: ws=>by rw [List.map_cons,strsOf,strsOf_map ws]; rfl
def joinL(sep:List Nat):List (List Nat)→List Nat
 | []=>[]
 | [w]=>w
 | w :: v :: r=>w++sep++joinL sep (v :: r)
@[simp] def listOf:PV→Option (List PV)
 | .lst l=>some l
 | .tup l=>some l
 | _=>none
@[simp] def eTxt (f:List Nat→TV→Res TV) (a b:EX):EX:=fun Γ=>(a Γ).bind fun x=>match x.2 with
 | .str s=>(b Γ).bind fun y=>f s y
 | _=>.bad
@[simp] def joinV (s:List Nat) (y:TV):Res TV:=match listOf y.2 with
 | some l=>match strsOf l with
  | some ws=>if (ws.map (·.length)).sum+ws.length * s.length≤16777216 then .ok (.fz,.str (joinL s ws)) else .bad
  | none=>.bad
 | none=>.bad
def splS(Y:List Nat):List Nat→Nat→List Nat→List (List Nat)
 | [],_,acc=>[acc.reverse]
 | c :: S,0,acc=>if Y.isPrefixOf (c :: S) then acc.reverse :: splS Y S (Y.length - 1) [] else splS Y S 0 (c :: acc)
 | _ :: S,n+1,acc=>splS Y S n acc
@[simp] def splitV (s:List Nat) (y:TV):Res TV:=match y.2 with
 | .str (c :: Y)=>if s.length+2≤16777216 then .ok (.ow 1,.lst ((splS (c :: Y) s 0 []).map .str)) else .bad
 | _=>.bad
def firstIx{α:Type}(p:α→Bool):List α→Option Nat
 | []=>none
 | x :: xs=>if p x then some 0 else (firstIx p xs).map (· + 1)
@[simp] def indexSV (s:List Nat) (y:TV):Res TV:=match y.2 with
 | .str [c]=>match firstIx (· == c) s with
  | some k=>.ok (.fz,.int k)
  | none=>.bad
 | _=>.bad
@[simp] def eIndexL (a b:EX):EX:=fun Γ=>(a Γ).bind fun x=>match x.2 with
 | .lst l=>(b Γ).bind fun y=>match plainP y.2 && l.all plainP with
  | true=>match firstIx (fun z=>eqv z y.2) l with
   | some k=>.ok (.fz,.int k)
   | none=>.bad
  | false=>.bad
 | _=>.bad
inductive Out where
 | nx (Γ:En) | rt (t:Tg) (p:PV) (Γ:En) | bk (Γ:En) | ct (Γ:En) | exc (c:Nat) (Γ:En) | bad
abbrev ST:=En→Out
@[simp] def Out.then (o:Out) (f:ST):Out:=match o with
 | .nx Γ=>f Γ
 | o=>o
@[simp] def aft {α:Type} (r:Res α) (Γ:En) (f:α→Out):Out:=match r with
 | .ok a=>f a
 | .exc c=>.exc c Γ
 | .bad=>.bad
theorem after_ok{α:Type}(a:α)(Γ:En)(f:α→Out):aft (.ok a) Γ f=f a:=rfl
@[simp] def dNil:ST:=fun Γ=>.nx Γ
@[simp] def dSeq (a b:ST):ST:=fun Γ=>(a Γ).then b
@[simp] def dSet (i:Nat) (e:EX):ST:=fun Γ=>aft (e Γ) Γ fun x=>aft (putV x) Γ fun p=>.nx (Γ.set i (some (.fz,p)))
@[simp] def dSetO (i:Nat) (e:EX):ST:=fun Γ=>aft (e Γ) Γ fun x=>match x with
 | (.ow d,p)=>.nx (Γ.set i (some (.ow d,p)))
 | _=>.bad
@[simp] def dSetT (is:List Nat) (e:EX):ST:=fun Γ=>aft (e Γ) Γ fun x=>aft (putV x) Γ fun p=>aft (bindP Γ (.fz,p) (.t is)) Γ .nx
@[simp] def dAug (op:PV→PV→Res PV) (i:Nat) (e:EX):ST:=fun Γ=>match Γ.get i with
 | some (.fz,p)=>aft (e Γ) Γ fun x=>aft (op p x.2) Γ fun z=>.nx (Γ.set i (some (.fz,z)))
 | _=>.bad
@[simp] def dIf (t:TX) (a b:ST):ST:=fun Γ=>aft (t Γ) Γ fun c=>if c then a Γ else b Γ
@[simp] def dRet (e:EX):ST:=fun Γ=>aft (e Γ) Γ fun x=>match x with
 | (.bw 0,p)=>.rt .fz p Γ
 | (.bw _,_)=>.bad
 | (t,p)=>.rt t p Γ
@[simp] def dRetV (i:Nat):ST:=fun Γ=>match Γ.get i with
 | some (.bw _,_)=>.bad
 | some (t,p)=>.rt t p Γ
 | none=>.bad
@[simp] def dRetN:ST:=fun Γ=>.rt .fz .non Γ
@[simp] def dRaise (c:Nat):ST:=fun Γ=>.exc c Γ
@[simp] def dBreak:ST:=fun Γ=>.bk Γ
@[simp] def dCont:ST:=fun Γ=>.ct Γ
@[simp] def dEx (e:EX):ST:=fun Γ=>aft (e Γ) Γ fun _=>.nx Γ
@[simp] def dFrz (i:Nat) (rest:ST):ST:=fun Γ=>match Γ.get i with
 | some (.ow _,p)=>rest (Γ.set i (some (.fz,p)))
 | some (.fz,p)=>rest Γ
 | _=>.bad
@[simp] def dForget (is:List Nat) (rest:ST):ST:=fun Γ=>rest (wipeE Γ is)
@[simp] def dApp (i:Nat) (e:EX):ST:=fun Γ=>match Γ.get i with
 | some (.ow 1,.lst l)=>aft (e Γ) Γ fun x=>aft (putV x) Γ fun p=>if l.length < 16777216 then .nx (Γ.set i (some (.ow 1,.lst (l++[p])))) else .bad
 | _=>.bad
@[simp] def dExt (i:Nat) (e:EX):ST:=fun Γ=>match Γ.get i with
 | some (.ow 1,.lst l)=>aft (e Γ) Γ fun x=>match x.2 with
  | .lst m=>if flat1 x.1 && decide (l.length+m.length≤16777216) then .nx (Γ.set i (some (.ow 1,.lst (l++m)))) else .bad
  | .tup m=>if l.length+m.length≤16777216 then .nx (Γ.set i (some (.ow 1,.lst (l++m)))) else .bad
  | _=>.bad
 | _=>.bad
@[simp] def dSetIx (i:Nat) (j e:EX):ST:=fun Γ=>match Γ.get i with
 | some (.ow 1,.lst l)=>aft (e Γ) Γ fun x=>aft (j Γ) Γ fun y=>aft (putV x) Γ fun p=>match y.2 with
  | .int k=>match vIxN l.length k with
   | some n=>.nx (Γ.set i (some (.ow 1,.lst (l.set n p))))
   | none=>.bad
  | _=>.bad
 | _=>.bad
@[simp] def dRev (i:Nat):ST:=fun Γ=>match Γ.get i with
 | some (.ow 1,.lst l)=>.nx (Γ.set i (some (.ow 1,.lst l.reverse)))
 | _=>.bad
def forL(pat:Pat)(ws:List Nat)(body:ST):List TV→ST
 | [],Γ=>.nx Γ
 | x :: xs,Γ=>match bindP Γ x pat with
  | .ok Γ'=>match body Γ' with
   | .nx Γ2=>forL pat ws body xs (wipeE Γ2 ws)
   | .ct Γ2=>forL pat ws body xs (wipeE Γ2 ws)
   | .bk Γ2=>.nx (wipeE Γ2 ws)
   | o=>o
  | _=>.bad
@[simp] def dFor (it:IX) (pat:Pat) (ws:List Nat) (body:ST):ST:=fun Γ=>aft (it Γ) Γ fun xs=>if xs.1 then forL pat ws body xs.2 (wipeE Γ ws) else .bad
def whL(t:TX)(ws:List Nat)(body:ST):Nat→En→Option Out
 | 0,_=>none
 | n+1,Γ=>match t Γ with
  | .ok true=>match body Γ with
   | .nx Γ2=>whL t ws body n (wipeE Γ2 ws)
   | .ct Γ2=>whL t ws body n (wipeE Γ2 ws)
   | .bk Γ2=>some (.nx (wipeE Γ2 ws))
   | o=>some o
  | .ok false=>some (.nx Γ)
  | .exc c=>some (.exc c Γ)
  | .bad=>some .bad
open Classical in
noncomputable def dWhile(t:TX)(ws:List Nat)(body:ST):ST:=fun Γ=>if h:∃ n o,whL t ws body n (wipeE Γ ws)=some o then Classical.choose (Classical.choose_spec h) else .bad
theorem whL_mono(t:TX)(ws:List Nat)(body:ST):∀ (n:Nat) (Γ:En) (o:Out),whL t ws body n Γ=some o→∀ m,n≤m→whL t ws body m Γ=some o
 | 0,_,_,h,_,_=>by simp [whL] at h
 | n+1,Γ,o,h,m,hm=>by
  obtain ⟨k,rfl⟩:∃ k,m=k+1:=⟨m - 1,by omega⟩
  unfold whL at h ⊢
  split at h <;> (try exact h)
  split at h <;> (try exact h)
  ·exact whL_mono t ws body n _ _ h k (by omega)
  ·exact whL_mono t ws body n _ _ h k (by omega)
theorem dWhile_eq{t:TX}{ws:List Nat}{body:ST}{n:Nat}{Γ:En}{o:Out}(h:whL t ws body n (wipeE Γ ws)=some o):dWhile t ws body Γ=o:=by
 have h1:∃ n o,whL t ws body n (wipeE Γ ws)=some o:=⟨n,o,h⟩
 unfold dWhile
 rw [dif_pos h1]
 have h2:=Classical.choose_spec (Classical.choose_spec h1)
 have a:=whL_mono t ws body _ _ _ h2 (max n (Classical.choose h1)) (Nat.le_max_right _ _)
 have b:=whL_mono t ws body _ _ _ h (max n (Classical.choose h1)) (Nat.le_max_left _ _)
 rw [a] at b
 exact Option.some.inj b
def runFn(np ns:Nat)(body:ST):FN:=fun args=>if args.length=np then
  match body (args.map (fun p=>some (.fz,p))++List.replicate (ns - np) none) with
  | .nx _=>.ok (.fz,.non)
  | .rt t p _=>.ok (t,p)
  | .exc c _=>.exc c
  | _=>.bad
 else .bad
end Vm
end
section
set_option linter.all false
namespace Vm
abbrev Tk:=Int ⊕ List Nat
mutual
def toks:PV→List Tk
 | .bl b=>[.inl (if b then 1 else 0)]
 | .int n=>[.inl n]
 | .str l=>[.inr l]
 | .tup l=>toksL l
 | .lst l=>toksL l
 | _=>[]
def toksL:List PV→List Tk
 | []=>[.inl 0]
 | x :: xs=>.inl 1 :: (toks x++toksL xs)
end
def tkLt:Tk→Tk→Bool
 | .inl a,.inl b=>decide (a < b)
 | .inl _,.inr _=>true
 | .inr _,.inl _=>false
 | .inr a,.inr b=>decide (a < b)
def lexT:List Tk→List Tk→Bool
 | [],[]=>false
 | [],_ :: _=>true
 | _ :: _,[]=>false
 | x :: r,y :: t=>tkLt x y || (!tkLt y x && lexT r t)
def ltv(p q:PV):Bool:=lexT (toks p) (toks q)
mutual
def alk:PV→PV→Bool
 | .bl _,.bl _=>true
 | .int _,.int _=>true
 | .str _,.str _=>true
 | .lst xs,.lst ys=>alkL xs ys
 | .tup xs,.tup ys=>alkL xs ys
 | .non,.non=>true
 | _,_=>false
def alkL:List PV→List PV→Bool
 | x :: xs,y :: ys=>alk x y && alkL xs ys
 | [],_=>true
 | _ :: _,[]=>true
end
def ordOk(l:List PV):Bool:=l.all (fun x=>!isNon x && l.all (fun y=>alk x y)) && shpL 50 l
def minP(x:PV)(xs:List PV):PV:=xs.foldl (fun a y=>if ltv y a then y else a) x
def maxP(x:PV)(xs:List PV):PV:=xs.foldl (fun a y=>if ltv a y then y else a) x
@[simp] def itemsV (x:TV):Res (List PV):=match x with
 | (t,.lst l)=>if flat1 t then .ok l else .bad
 | (_,.tup l)=>.ok l
 | _=>.bad
@[simp] def bestV (f:PV→List PV→PV) (x:TV):Res TV:=(itemsV x).bind fun l=>match l with
 | y :: ys=>if ordOk (y :: ys) then .ok (.fz,f y ys) else .bad
 | []=>.bad
@[simp] def eMinD (a:EX):EX:=fun Γ=>(a Γ).bind (bestV minP)
@[simp] def eMaxD (a:EX):EX:=fun Γ=>(a Γ).bind (bestV maxP)
@[simp] def bestDV (f:PV→List PV→PV) (x:TV) (d:PV):Res TV:=(itemsV x).bind fun l=>match l with
 | y :: ys=>if ordOk (y :: ys) then .ok (.fz,f y ys) else .bad
 | []=>if plainP d then .ok (.fz,d) else .bad
@[simp] def eMinDf (a b:EX):EX:=fun Γ=>(a Γ).bind fun x=>(b Γ).bind fun d=>bestDV minP x d.2
@[simp] def eMaxDf (a b:EX):EX:=fun Γ=>(a Γ).bind fun x=>(b Γ).bind fun d=>bestDV maxP x d.2
def srtOk(l:List PV):Bool:=ordOk l && (l.all (fun x=>match x with | .tup (_ :: _)=>true | _=>false) || l.all (fun x=>match x with | .tup _=>false | _=>true))
def sortP(l:List PV):List PV:=l.mergeSort fun a b=>!ltv b a
@[simp] def sortV (x:TV):Res TV:=match x with
 | (t,.lst l)=>if flat1 t && srtOk l && decide (l.length≤16777216) then .ok (.ow 1,.lst (sortP l)) else .bad
 | _=>.bad
@[simp] def eSorted (a:EX):EX:=fun Γ=>(a Γ).bind sortV
@[simp] def eChain (op op':PV→PV→Res PV) (a b c:EX):EX:=fun Γ=>(a Γ).bind fun x=>(b Γ).bind fun y=>(op x.2 y.2).bind fun z=>match z with
 | .bl true=>(c Γ).bind fun w=>(op' y.2 w.2).bind fzv
 | .bl false=>.ok (.fz,.bl false)
 | _=>.bad
@[simp] def opShl:PV→PV→Res PV
 | .int i,.int j=>if 0≤j∧j≤1000∧i.natAbs < 2 ^ 64 then .ok (.int (i * 2 ^ j.toNat)) else .bad
 | _,_=>.bad
@[simp] def revV (o:TV):Res TV:=match o with
 | (t,.lst l)=>if flat1 t then .ok (.ow 1,.lst l.reverse) else .bad
 | (_,.tup l)=>.ok (.fz,.tup l.reverse)
 | _=>.bad
@[simp] def eRevS (a:EX):EX:=fun Γ=>(a Γ).bind revV
def stepN(i j c:Int):Nat:=((j - i+c - 1) / c).toNat
def stepL(i j c:Int):List PV:=(List.range (stepN i j c)).map fun (k:Nat)=>.int (i+(k:Int) * c)
@[simp] def jRange3 (a b c:EX):IX:=fun Γ=>(a Γ).bind fun x=>(b Γ).bind fun y=>(c Γ).bind fun z=>match x.2,y.2,z.2 with
 | .int i,.int j,.int k=>if 0 < k∧k < 1073741824∧0≤i∧i < 1073741824∧0≤j∧j < 1073741824 then .ok (true,(stepL i j k).map fun p=>(.fz,p)) else .bad
 | _,_,_=>.bad
def natS(n:Nat):List Nat:=(Nat.toDigits 10 n).map Char.toNat
@[simp] def strV (x:TV):Res TV:=match x.2 with
 | .int (.ofNat n)=>if n.log2 < 1920 then .ok (.fz,.str (natS n)) else .bad
 | .str s=>.ok (.fz,.str s)
 | _=>.bad
@[simp] def eStr (a:EX):EX:=fun Γ=>(a Γ).bind strV
def figN(l:List Nat):Nat:=l.foldl (fun n c=>n * 10+(c - 48)) 0
def isFig(c:Nat):Bool:=Nat.ble 48 c && Nat.ble c 57
@[simp] def intTV (x:TV):Res TV:=match x.2 with
 | .str s=>if s ≠ []∧s.all isFig∧s.length≤640 then .ok (.fz,.int (figN s)) else .bad
 | x=>intV (.fz,x)
@[simp] def eIntT (a:EX):EX:=fun Γ=>(a Γ).bind intTV
def partS(Y:List Nat):List Nat→List Nat→List (List Nat)
 | [],acc=>[acc.reverse,[],[]]
 | c :: S,acc=>if Y.isPrefixOf (c :: S) then [acc.reverse,Y,(c :: S).drop Y.length] else partS Y S (c :: acc)
@[simp] def partV (s:List Nat) (y:TV):Res TV:=match y.2 with
 | .str (c :: Y)=>if s.length≤16777216 then .ok (.fz,.tup ((partS (c :: Y) s []).map .str)) else .bad
 | _=>.bad
end Vm
end
section
set_option linter.all false
set_option maxHeartbeats 1000000
namespace Vm
@[simp] def stepOut (ws:List Nat):Out→Option En
 | .nx Γ=>some (wipeE Γ ws)
 | .ct Γ=>some (wipeE Γ ws)
 | _=>none
@[simp] def turn (pat:Pat) (ws:List Nat) (body:ST) (Γ:En) (x:TV):Option En:=match bindP Γ x pat with
 | .ok Γ1=>stepOut ws (body Γ1)
 | _=>none
theorem forL_turn{pat:Pat}{ws:List Nat}{body:ST}{Γ Γ':En}{x:TV}{xs:List TV}(h:turn pat ws body Γ x=some Γ'):forL pat ws body (x :: xs) Γ=forL pat ws body xs Γ':=by
 unfold turn at h
 conv=>lhs; unfold forL
 cases e:bindP Γ x pat with
 | ok Γ1 =>
  rw [e] at h
  simp only at h ⊢
  cases e2:body Γ1 with
  | nx Γ2=>rw [e2] at h; simp only [stepOut,Option.some.injEq] at h; rw [← h]
  | ct Γ2=>rw [e2] at h; simp only [stepOut,Option.some.injEq] at h; rw [← h]
  | _=>rw [e2] at h; cases h
 | _=>rw [e] at h; cases h
theorem forL_same{α:Type}{pat:Pat}{ws:List Nat}{body:ST}{Γ:En}(enc:α→TV):∀ (xs:List α),(∀ x∈xs,turn pat ws body Γ (enc x)=some Γ)→forL pat ws body (xs.map enc) Γ = .nx Γ
 | [],_=>rfl
 | x :: xs,h=>by
  show forL pat ws body (enc x :: xs.map enc) Γ=_
  rw [forL_turn (h x (by simp)),forL_same enc xs fun y hy=>h y (by simp [hy])]
@[simp] def lcOne (Γ:En) (pat:Pat) (c:TX) (e:EX) (x:TV):Option (Option PV):=match bindP Γ x pat with
 | .ok Γ1=>match c Γ1 with
  | .ok true=>match e Γ1 with
   | .ok y=>match putV y with
    | .ok p=>some (some p)
    | _=>none
   | _=>none
  | .ok false=>some none
  | _=>none
 | _=>none
theorem map_map{α:Type}(f:α→PV)(xs:List α):(xs.map f).map (fun p=>((.fz,p):TV))=xs.map fun x=>(.fz,f x):=by rw [List.map_map]; rfl
theorem rng0_eq(hi:Int):(rngL 0 hi).map (fun p=>((.fz,p):TV))=(List.range hi.toNat).map fun (k:Nat)=>(.fz,.int (k:Int)):=by unfold rngL; rw [List.map_map,Int.sub_zero]; exact List.map_congr_left fun k _=>by show ((Tg.fz,PV.int (0+(k:Int))):TV)=_; rw [Int.zero_add]
theorem vAt_int{α:Type}{xs:List α}{i:Int}(h0:0≤i)(h1:i < xs.length):vAt xs i=some (xs[i.toNat]'(by omega)):=by
 unfold vAt vIxN
 rw [if_pos h0,if_pos h1]
 simp [List.getElem?_eq_getElem (show i.toNat < xs.length by omega)]
theorem vAt_map{α β:Type}(f:α→β)(xs:List α)(i:Int):vAt (xs.map f) i=(vAt xs i).map f:=by
 unfold vAt
 rw [List.length_map]
 cases vIxN xs.length i with
 | none=>rfl
 | some j=>show (xs.map f)[j]? = (xs[j]?).map f; rw [List.getElem?_map]
theorem vSix_nat{n d:Nat}{i:Int}(h:0≤i):vSix n d (some i)=min i.toNat n:=by
 show (if i < 0 then _ else _)=_
 rw [if_neg (by omega)]
theorem cut_take{α:Type}{xs:List α}{i:Int}(h:0≤i):cutL xs none (some i)=xs.take i.toNat:=by
 show (xs.drop 0).take (vSix xs.length xs.length (some i) - 0)=_
 rw [vSix_nat h,List.drop_zero,Nat.sub_zero]
 by_cases hl:i.toNat≤xs.length
 ·rw [Nat.min_eq_left hl]
 ·rw [Nat.min_eq_right (by omega),List.take_length,List.take_of_length_le (by omega)]
theorem cut_drop{α:Type}{xs:List α}{i:Int}(h:0≤i):cutL xs (some i) none=xs.drop i.toNat:=by
 show (xs.drop (vSix xs.length 0 (some i))).take (xs.length - vSix xs.length 0 (some i))=_
 rw [vSix_nat h]
 by_cases hl:i.toNat≤xs.length
 ·rw [Nat.min_eq_left hl]; exact List.take_of_length_le (by rw [List.length_drop]; omega)
 ·rw [Nat.min_eq_right (by omega),List.drop_of_length_le (by omega:xs.length≤xs.length),List.drop_of_length_le (by omega)]; simp
theorem cut_map{α β:Type}(f:α→β)(xs:List α)(lo hi:Option Int):cutL (xs.map f) lo hi=(cutL xs lo hi).map f:=by
 unfold cutL
 rw [List.length_map,List.map_take,List.map_drop]
theorem log2_lt_pow{a n:Nat}(h:a < 2 ^ n):a.log2≤n:=by
 by_cases ha:a=0
 ·subst ha; rw [Nat.log2_zero]; exact Nat.zero_le _
 ·exact Nat.le_of_lt ((Nat.log2_lt ha).mpr h)
theorem mulOk_of{a b:Int}{m n:Nat}(ha:a.natAbs < 2 ^ m)(hb:b.natAbs < 2 ^ n)(h:m+n < 50000000):mulOk a b=true:=by
 have h1:=log2_lt_pow ha
 have h2:=log2_lt_pow hb
 exact decide_eq_true (by omega)
end Vm
end
section
set_option linter.all false
set_option maxHeartbeats 1000000
namespace Vm
@[simp] def stopOut:Out→Option Out
 | .rt t p Γ=>some (.rt t p Γ)
 | .exc c Γ=>some (.exc c Γ)
 | _=>none
@[simp] def halt (pat:Pat) (body:ST) (Γ:En) (x:TV):Option Out:=match bindP Γ x pat with
 | .ok Γ1=>stopOut (body Γ1)
 | _=>none
theorem rng0_eq'(m:Nat):(rngL 0 (m:Int)).map (fun p=>((.fz,p):TV))=(List.range m).map fun (k:Nat)=>(.fz,.int (k:Int)):=by rw [rng0_eq]; rfl
end Vm
end
section
set_option linter.all false
set_option maxHeartbeats 1000000
set_option maxRecDepth 10000
namespace Vm
def RefG{α β:Type}(f:α→β)(o:Res β):Res α→Prop
 | .ok a=>o = .ok (f a)
 | .exc c=>o = .exc c
 | .bad=>True
section
variable {α β γ δ ι κ σ τ ρ:Type} {f:α→β} {g:γ→δ} {o:Res β} {r:Res α}
theorem RefG.bind{F:β→Res δ}{k:α→Res γ}(h:RefG f o r)(q:∀ a,RefG g (F (f a)) (k a)):RefG g (o.bind F) (r.bind k):=by
 cases r with
 | ok a =>
  have h:o = .ok (f a):=h
  rw [h]; exact q a
 | exc c =>
  have h:o = .exc c:=h
  rw [h]; exact rfl
 | bad=>exact trivial
theorem RefG.self{o:Res β}:RefG id o o:=by cases o <;> first | exact rfl | exact trivial
theorem RefG.ok{a:α}{o:Res β}(h:o = .ok (f a)):RefG f o (.ok a):=h
theorem RefG.eq{a:α}(h:RefG f o r)(e:r = .ok a):o = .ok (f a):=by rw [e] at h; exact h
theorem RefG.bad{o:Res β}:RefG f o .bad:=trivial
@[simp] def Res.map (f:α→β) (r:Res α):Res β:=r.bind fun a=>.ok (f a)
theorem bind_assoc(r:Res α)(f:α→Res β)(g:β→Res γ):(r.bind f).bind g=r.bind fun a=>(f a).bind g:=by cases r <;> rfl
theorem RefG.co{f':γ→β}{c:α→γ}(h:RefG f o r)(e:∀ a,f' (c a)=f a):RefG f' o (r.map c):=by
 cases r with
 | ok a =>
  have h:o = .ok (f a):=h
  rw [h,← e a]; exact rfl
 | exc c=>exact h
 | bad=>exact trivial
end
@[simp] def kI:Int→PV:=.int
@[simp] def kB:Bool→PV:=.bl
@[simp] def kS:List Nat→PV:=.str
@[simp] def kN:Unit→PV:=fun _=>.non
@[simp] def kV:PV→PV:=fun p=>p
@[simp] def kO {α:Type} (k:α→PV):Option α→PV
 | none=>.non
 | some a=>k a
@[simp] def kL {α:Type} (k:α→PV) (l:List α):PV:=.lst (l.map k)
@[simp] def kT {α:Type} (k:α→PV) (l:List α):PV:=.tup (l.map k)
@[simp] def kP1 {α:Type} (a:α→PV) (x:α):PV:=.tup [a x]
@[simp] def kP2 {α β:Type} (a:α→PV) (b:β→PV) (x:α×β):PV:=.tup [a x.1,b x.2]
@[simp] def kP3 {α β γ:Type} (a:α→PV) (b:β→PV) (c:γ→PV) (x:α×β×γ):PV:=.tup [a x.1,b x.2.1,c x.2.2]
@[simp] def kP4 {α β γ δ:Type} (a:α→PV) (b:β→PV) (c:γ→PV) (d:δ→PV) (x:α×β×γ×δ):PV:=.tup [a x.1,b x.2.1,c x.2.2.1,d x.2.2.2]
@[simp] def kP5 {α β γ δ ε:Type} (a:α→PV) (b:β→PV) (c:γ→PV) (d:δ→PV) (e:ε→PV) (x:α×β×γ×δ×ε):PV:=.tup [a x.1,b x.2.1,c x.2.2.1,d x.2.2.2.1,e x.2.2.2.2]
@[simp] def kQ1 {α:Type} (a:α→PV) (x:α):PV:=.lst [a x]
@[simp] def kQ2 {α β:Type} (a:α→PV) (b:β→PV) (x:α×β):PV:=.lst [a x.1,b x.2]
@[simp] def kQ3 {α β γ:Type} (a:α→PV) (b:β→PV) (c:γ→PV) (x:α×β×γ):PV:=.lst [a x.1,b x.2.1,c x.2.2]
@[simp] def kQ4 {α β γ δ:Type} (a:α→PV) (b:β→PV) (c:γ→PV) (d:δ→PV) (x:α×β×γ×δ):PV:=.lst [a x.1,b x.2.1,c x.2.2.1,d x.2.2.2]
abbrev tv{α:Type}(t:Tg)(k:α→PV)(a:α):TV:=(t,k a)
class Enc {α:Type} [DecidableEq α] (k:α→PV) where
 d:Nat
 eq:∀ a b,eqv (k a) (k b)=decide (a=b)
 sh:∀ n,d≤n→∀ a,shp n (k a)=true
class NN {α:Type} (k:α→PV):Prop where
 n:∀ a,k a ≠ .non
theorem eqv_non_l{p:PV}(h:p ≠ .non):eqv .non p=false:=by cases p <;> first | rfl | exact absurd rfl h
theorem eqv_non_r{p:PV}(h:p ≠ .non):eqv p .non=false:=by cases p <;> first | rfl | exact absurd rfl h
theorem isNon_f{p:PV}(h:p ≠ .non):isNon p=false:=by cases p <;> first | rfl | exact absurd rfl h
instance:Enc kI where
 d:=0
 eq:=fun a b=>by simp only [kI,eqv]; rw [Bool.eq_iff_iff]; simp
 sh:=fun n _ a=>by cases n <;> rfl
instance:Enc kB where
 d:=0
 eq:=fun a b=>by cases a <;> cases b <;> rfl
 sh:=fun n _ a=>by cases n <;> rfl
instance:Enc kS where
 d:=0
 eq:=fun a b=>by simp only [kS,eqv]; rw [Bool.eq_iff_iff]; simp
 sh:=fun n _ a=>by cases n <;> rfl
instance:Enc kN where
 d:=0
 eq:=fun a b=>rfl
 sh:=fun n _ a=>by cases n <;> rfl
instance:NN kI:=⟨fun a h=>by cases h⟩
instance:NN kB:=⟨fun a h=>by cases h⟩
instance:NN kS:=⟨fun a h=>by cases h⟩
section
variable {α β γ δ ε:Type} [DecidableEq α] [DecidableEq β] [DecidableEq γ] [DecidableEq δ] [DecidableEq ε] {a:α→PV} {b:β→PV} {c:γ→PV} {d:δ→PV} {e:ε→PV}
instance {k:α→PV}:NN (kL k):=⟨fun a h=>by cases h⟩
instance {k:α→PV}:NN (kT k):=⟨fun a h=>by cases h⟩
instance:NN (kP1 a):=⟨fun a h=>by cases h⟩
instance:NN (kP2 a b):=⟨fun a h=>by cases h⟩
instance:NN (kP3 a b c):=⟨fun a h=>by cases h⟩
instance:NN (kP4 a b c d):=⟨fun a h=>by cases h⟩
instance:NN (kP5 a b c d e):=⟨fun a h=>by cases h⟩
instance:NN (kQ1 a):=⟨fun a h=>by cases h⟩
instance:NN (kQ2 a b):=⟨fun a h=>by cases h⟩
instance:NN (kQ3 a b c):=⟨fun a h=>by cases h⟩
instance [Enc a] [NN a]:Enc (kO a) where
 d:=Enc.d a
 eq:=fun x y=>by
  cases x <;> cases y <;> simp only [kO]
  ·rfl
  ·rw [eqv_non_l (NN.n _)]; simp
  ·rw [eqv_non_r (NN.n _)]; simp
  ·rw [Enc.eq]; simp
 sh:=fun n h x=>by
  cases x
  ·cases n <;> rfl
  ·exact Enc.sh n h _
theorem eqvL_enc[Enc a]:∀ l m:List α,eqvL (l.map a) (m.map a)=decide (l=m)
 | [],[]=>rfl
 | [],_ :: _=>rfl
 | _ :: _,[]=>rfl
 | x :: l,y :: m=>by
  rw [List.map_cons,List.map_cons,eqvL,Enc.eq,eqvL_enc l m,Bool.eq_iff_iff]
  simp
theorem shpL_enc[Enc a](n:Nat)(h:Enc.d a≤n):∀ l:List α,shpL n (l.map a)=true
 | []=>by rw [List.map_nil,shpL]
 | x :: l=>by rw [List.map_cons,shpL,Enc.sh n h,shpL_enc n h l]; rfl
instance [Enc a]:Enc (kL a) where
 d:=Enc.d a+1
 eq:=fun x y=>by simp only [kL,eqv]; exact eqvL_enc x y
 sh:=fun n h x=>by
  cases n with
  | zero=>omega
  | succ n=>simp only [kL,shp]; exact shpL_enc n (by omega) x
instance [Enc a]:Enc (kT a) where
 d:=Enc.d a+1
 eq:=fun x y=>by simp only [kT,eqv]; exact eqvL_enc x y
 sh:=fun n h x=>by
  cases n with
  | zero=>omega
  | succ n=>simp only [kT,shp]; exact shpL_enc n (by omega) x
instance [Enc a]:Enc (kP1 a) where
 d:=Enc.d a+1
 eq:=fun x y=>by simp only [kP1,eqv,eqvL,Enc.eq,Bool.and_true]
 sh:=fun n h x=>by
  cases n with
  | zero=>omega
  | succ n=>simp only [kP1,shp,shpL,Enc.sh (k:=a) n (by omega),Bool.and_true]
instance [Enc a] [Enc b]:Enc (kP2 a b) where
 d:=max (Enc.d a) (Enc.d b)+1
 eq:=fun x y=>by
  simp only [kP2,eqv,eqvL,Enc.eq,Bool.and_true]; rw [Bool.eq_iff_iff]; simp [Prod.ext_iff]
 sh:=fun n h x=>by
  cases n with
  | zero=>omega
  | succ n=>simp only [kP2,shp,shpL,Enc.sh (k:=a) n (by omega),Enc.sh (k:=b) n (by omega),Bool.and_true]
instance [Enc a] [Enc b] [Enc c]:Enc (kP3 a b c) where
 d:=max (Enc.d a) (max (Enc.d b) (Enc.d c))+1
 eq:=fun x y=>by
  simp only [kP3,eqv,eqvL,Enc.eq,Bool.and_true]; rw [Bool.eq_iff_iff]; simp [Prod.ext_iff]
 sh:=fun n h x=>by
  cases n with
  | zero=>omega
  | succ n=>simp only [kP3,shp,shpL,Enc.sh (k:=a) n (by omega),Enc.sh (k:=b) n (by omega),Enc.sh (k:=c) n (by omega),Bool.and_true]
instance [Enc a] [Enc b] [Enc c] [Enc d]:Enc (kP4 a b c d) where
 d:=max (Enc.d a) (max (Enc.d b) (max (Enc.d c) (Enc.d d)))+1
 eq:=fun x y=>by
  simp only [kP4,eqv,eqvL,Enc.eq,Bool.and_true]; rw [Bool.eq_iff_iff]; simp [Prod.ext_iff]
 sh:=fun n h x=>by
  cases n with
  | zero=>omega
  | succ n=>simp only [kP4,shp,shpL,Enc.sh (k:=a) n (by omega),Enc.sh (k:=b) n (by omega),Enc.sh (k:=c) n (by omega),Enc.sh (k:=d) n (by omega),Bool.and_true]
instance [Enc a]:Enc (kQ1 a) where
 d:=Enc.d a+1
 eq:=fun x y=>by simp only [kQ1,eqv,eqvL,Enc.eq,Bool.and_true]
 sh:=fun n h x=>by
  cases n with
  | zero=>omega
  | succ n=>simp only [kQ1,shp,shpL,Enc.sh (k:=a) n (by omega),Bool.and_true]
instance [Enc a] [Enc b]:Enc (kQ2 a b) where
 d:=max (Enc.d a) (Enc.d b)+1
 eq:=fun x y=>by
  simp only [kQ2,eqv,eqvL,Enc.eq,Bool.and_true]; rw [Bool.eq_iff_iff]; simp [Prod.ext_iff]
 sh:=fun n h x=>by
  cases n with
  | zero=>omega
  | succ n=>simp only [kQ2,shp,shpL,Enc.sh (k:=a) n (by omega),Enc.sh (k:=b) n (by omega),Bool.and_true]
end
end Vm
end
section
set_option linter.all false
set_option maxHeartbeats 1000000
set_option maxRecDepth 10000
namespace Vm
def ixR{α:Type}(l:List α)(i:Int):Res α:=match vAt l i with
 | some x=>.ok x
 | none=>.bad
def getO{α:Type}:Option α→Res α
 | some a=>.ok a
 | none=>.bad
def mulR(i j:Int):Res Int:=if mulOk i j then .ok (i * j) else .bad
def fdivR(i j:Int):Res Int:=if 0 < j∧j.natAbs.log2 < 9000 then .ok (i / j) else .bad
def modR(i j:Int):Res Int:=if 0 < j then .ok (i % j) else .bad
def szR{α:Type}(l:List α):Res (List α):=if l.length≤16777216 then .ok l else .bad
def appR{α:Type}(l:List α)(x:α):Res (List α):=if l.length < 16777216 then .ok (l++[x]) else .bad
def catR{α:Type}(l m:List α):Res (List α):=if l.length+m.length≤16777216 then .ok (l++m) else .bad
def rngI(lo hi:Int):List Int:=(List.range (hi - lo).toNat).map fun (k:Nat)=>lo+(k:Int)
def rngR(hi:Int):Res (List Int):=if rngOk hi then .ok (rngI 0 hi) else .bad
def rng2R(lo hi:Int):Res (List Int):=if rngOk lo && rngOk hi then .ok (rngI lo hi) else .bad
def rrngR(hi:Int):Res (List Int):=if rngOk hi then .ok (rngI 0 hi).reverse else .bad
def minR(l:List Int):Res Int:=match minI l with
 | some m=>.ok m
 | none=>.bad
def setR{α:Type}(l:List α)(i:Int)(x:α):Res (List α):=match vIxN l.length i with
 | some n=>.ok (l.set n x)
 | none=>.bad
def enumT{α:Type}(l:List α):List (Int×α):=l.mapIdx fun i x=>((i:Int),x)
def indexR{α:Type}[DecidableEq α](l:List α)(x:α):Res Int:=match firstIx (fun z=>decide (z=x)) l with
 | some k=>.ok (k:Int)
 | none=>.bad
def memB{α:Type}[DecidableEq α](x:α)(l:List α):Bool:=decide (x∈l)
def lcR{ι α:Type}(c:ι→Res Bool)(f:ι→Res α):List ι→Res (List α)
 | []=>.ok []
 | x :: xs=>(c x).bind fun b=>if b then (f x).bind fun y=>(lcR c f xs).bind fun r=>.ok (y :: r) else lcR c f xs
def mapR{ι α:Type}(f:ι→Res α):List ι→Res (List α)
 | []=>.ok []
 | x :: xs=>(f x).bind fun y=>(mapR f xs).bind fun r=>.ok (y :: r)
inductive Ctl (σ ρ:Type) where
 | nx (s:σ) | bk (s:σ) | rt (r:ρ)
def forT{σ ρ ι:Type}(F:σ→ι→Res (Ctl σ ρ)):List ι→σ→Res (Ctl σ ρ)
 | [],s=>.ok (.nx s)
 | x :: xs,s=>(F s x).bind fun
  | .nx s'=>forT F xs s'
  | .bk s'=>.ok (.nx s')
  | .rt r=>.ok (.rt r)
def forS{σ ι:Type}(F:σ→ι→Res σ):List ι→σ→Res σ
 | [],s=>.ok s
 | x :: xs,s=>(F s x).bind fun s'=>forS F xs s'
def Ctl.then{σ ρ β:Type}(c:Ctl σ ρ)(ret:ρ→Res β)(k:σ→Res β):Res β:=match c with
 | .nx s=>k s
 | .bk s=>k s
 | .rt r=>ret r
def whT{σ ρ:Type}(t:σ→Res Bool)(F:σ→Res (Ctl σ ρ)):Nat→σ→Option (Res (Ctl σ ρ))
 | 0,_=>none
 | n+1,s=>match t s with
  | .ok true=>match F s with
   | .ok (.nx s')=>whT t F n s'
   | .ok (.bk s')=>some (.ok (.nx s'))
   | .ok (.rt r)=>some (.ok (.rt r))
   | .exc c=>some (.exc c)
   | .bad=>some .bad
  | .ok false=>some (.ok (.nx s))
  | .exc c=>some (.exc c)
  | .bad=>some .bad
open Classical in
noncomputable def whR{σ ρ:Type}(t:σ→Res Bool)(F:σ→Res (Ctl σ ρ))(s:σ):Res (Ctl σ ρ):=if h:∃ n o,whT t F n s=some o then Classical.choose (Classical.choose_spec h) else .bad
theorem whT_mono{σ ρ:Type}(t:σ→Res Bool)(F:σ→Res (Ctl σ ρ)):∀ (n:Nat) (s:σ) (o:Res (Ctl σ ρ)),whT t F n s=some o→∀ m,n≤m→whT t F m s=some o
 | 0,_,_,h,_,_=>by simp [whT] at h
 | n+1,s,o,h,m,hm=>by
  obtain ⟨k,rfl⟩:∃ k,m=k+1:=⟨m - 1,by omega⟩
  unfold whT at h ⊢
  split at h <;> (try exact h)
  split at h <;> (try exact h)
  exact whT_mono t F n _ _ h k (by omega)
theorem whR_eq{σ ρ:Type}{t:σ→Res Bool}{F:σ→Res (Ctl σ ρ)}{n:Nat}{s:σ}{o:Res (Ctl σ ρ)}(h:whT t F n s=some o):whR t F s=o:=by
 have h1:∃ n o,whT t F n s=some o:=⟨n,o,h⟩
 unfold whR
 rw [dif_pos h1]
 have h2:=Classical.choose_spec (Classical.choose_spec h1)
 have a:=whT_mono t F _ _ _ h2 (max n (Classical.choose h1)) (Nat.le_max_right _ _)
 have b:=whT_mono t F _ _ _ h (max n (Classical.choose h1)) (Nat.le_max_left _ _)
 rw [a] at b
 exact Option.some.inj b
section
variable {Γ:En} {α β γ δ ε ι σ τ ρ κ:Type} {a b c:EX} {A B C:Res α}
theorem rV{e:EX}(t:Tg)(k:α→PV)(x:α)(h:e Γ = .ok (t,k x):=by rfl):RefG (tv t k) (e Γ) (.ok x):=h
variable {t u v:Tg} {ka:α→PV} {kb:β→PV} {kc:γ→PV} {kd:δ→PV}
theorem rAddI{A B:Res Int}(ha:RefG (tv t kI) (a Γ) A)(hb:RefG (tv u kI) (b Γ) B):RefG (tv .fz kI) (eAdd a b Γ) (A.bind fun x=>B.bind fun y=>.ok (x+y)) :=
 ha.bind fun x=>hb.bind fun y=>rfl
theorem rSub{A B:Res Int}(ha:RefG (tv t kI) (a Γ) A)(hb:RefG (tv u kI) (b Γ) B):RefG (tv .fz kI) (eOp2 opSub a b Γ) (A.bind fun x=>B.bind fun y=>.ok (x - y)) :=
 ha.bind fun x=>hb.bind fun y=>rfl
theorem rFdiv{A B:Res Int}(ha:RefG (tv t kI) (a Γ) A)(hb:RefG (tv u kI) (b Γ) B):RefG (tv .fz kI) (eOp2 opFdiv a b Γ) (A.bind fun x=>B.bind fun y=>fdivR x y) :=
 ha.bind fun x=>hb.bind fun y=>by
  unfold fdivR; by_cases h:0 < y∧y.natAbs.log2 < 9000
  ·rw [if_pos h]; simp [opFdiv,h,RefG]
  ·rw [if_neg h]; exact trivial
theorem rFdivC{A:Res Int}{n:Int}(ha:RefG (tv t kI) (a Γ) A)(h:(0 < n∧n.natAbs.log2 < 9000):=by decide):RefG (tv .fz kI) (eOp2 opFdiv a (eC (.int n)) Γ) (A.bind fun x=>.ok (x / n)) :=
 ha.bind fun x=>by show (opFdiv (.int x) (.int n)).bind fzv=_; rw [opFdiv,if_pos h]; rfl
theorem rMod{A B:Res Int}(ha:RefG (tv t kI) (a Γ) A)(hb:RefG (tv u kI) (b Γ) B):RefG (tv .fz kI) (eOp2 opMod a b Γ) (A.bind fun x=>B.bind fun y=>modR x y) :=
 ha.bind fun x=>hb.bind fun y=>by
  unfold modR; by_cases h:0 < y
  ·rw [if_pos h]; simp [opMod,h,RefG]
  ·rw [if_neg h]; exact trivial
theorem rModC{A:Res Int}{n:Int}(ha:RefG (tv t kI) (a Γ) A)(h:0 < n:=by decide):RefG (tv .fz kI) (eOp2 opMod a (eC (.int n)) Γ) (A.bind fun x=>.ok (x % n)) :=
 ha.bind fun x=>by show (opMod (.int x) (.int n)).bind fzv=_; rw [opMod,if_pos h]; rfl
theorem rPowC(m:Int)(n:Nat)(h:(0≤(n:Int)∧(n:Int)≤1000∧m.natAbs < 2 ^ 64):=by decide):RefG (tv .fz kI) (eOp2 opPow (eC (.int m)) (eC (.int n)) Γ) (.ok (m ^ n)):=by
 show (opPow (.int m) (.int n)).bind fzv=_; rw [opPow,if_pos h]; rfl
theorem rNeg{A:Res Int}(ha:RefG (tv t kI) (a Γ) A):RefG (tv .fz kI) (eOp1 opNeg a Γ) (A.bind fun x=>.ok (-x)):=ha.bind fun x=>rfl
theorem rLt{A B:Res Int}(ha:RefG (tv t kI) (a Γ) A)(hb:RefG (tv u kI) (b Γ) B):RefG (tv .fz kB) (eOp2 opLt a b Γ) (A.bind fun x=>B.bind fun y=>.ok (decide (x < y))) :=
 ha.bind fun x=>hb.bind fun y=>rfl
theorem rGt{A B:Res Int}(ha:RefG (tv t kI) (a Γ) A)(hb:RefG (tv u kI) (b Γ) B):RefG (tv .fz kB) (eOp2 opGt a b Γ) (A.bind fun x=>B.bind fun y=>.ok (decide (y < x))) :=
 ha.bind fun x=>hb.bind fun y=>rfl
theorem rGe{A B:Res Int}(ha:RefG (tv t kI) (a Γ) A)(hb:RefG (tv u kI) (b Γ) B):RefG (tv .fz kB) (eOp2 opGe a b Γ) (A.bind fun x=>B.bind fun y=>.ok (decide (y≤x))) :=
 ha.bind fun x=>hb.bind fun y=>rfl
theorem rEq[DecidableEq α][Enc ka](ha:RefG (tv t ka) (a Γ) A)(hb:RefG (tv u ka) (b Γ) B)(hd:Enc.d ka≤60:=by decide):RefG (tv .fz kB) (eOp2 opEq a b Γ) (A.bind fun x=>B.bind fun y=>.ok (decide (x=y))) :=
 ha.bind fun x=>hb.bind fun y=>by simp [opEq,Enc.sh (k:=ka) 60 hd,Enc.eq,RefG,tv]
theorem rNe[DecidableEq α][Enc ka](ha:RefG (tv t ka) (a Γ) A)(hb:RefG (tv u ka) (b Γ) B)(hd:Enc.d ka≤60:=by decide):RefG (tv .fz kB) (eOp2 opNe a b Γ) (A.bind fun x=>B.bind fun y=>.ok (!decide (x=y))) :=
 ha.bind fun x=>hb.bind fun y=>by simp [opNe,Enc.sh (k:=ka) 60 hd,Enc.eq,RefG,tv]
theorem rIsN[NN ka]{A:Res (Option α)}(ha:RefG (tv t (kO ka)) (a Γ) A):RefG (tv .fz kB) (eOp1 opIsN a Γ) (A.bind fun x=>.ok (Option.isNone x)):=ha.bind fun x=>by
 cases x with
 | none=>rfl
 | some x=>simp [opIsN,isNon_f (NN.n (k:=ka) x),RefG,tv,-isNon]
theorem rNotN[NN ka]{A:Res (Option α)}(ha:RefG (tv t (kO ka)) (a Γ) A):RefG (tv .fz kB) (eOp1 opNotN a Γ) (A.bind fun x=>.ok (Option.isSome x)):=ha.bind fun x=>by
 cases x with
 | none=>rfl
 | some x=>simp [opNotN,isNon_f (NN.n (k:=ka) x),RefG,tv,-isNon]
theorem rGetO{A:Res (Option α)}{e:EX}(ha:RefG (tv t (kO ka)) (e Γ) A):RefG (tv t ka) (e Γ) (A.bind getO):=by
 cases A with
 | ok x=>cases x with
  | none=>exact trivial
  | some x=>exact ha
 | exc c=>exact ha
 | bad=>exact trivial
theorem xV{A:Res Bool}(ha:RefG (tv t kB) (a Γ) A):RefG id (xVal a Γ) A:=by
 cases A with
 | ok b =>
  have h:a Γ = .ok (t,.bl b):=ha
  show (a Γ).bind _=_
  rw [h]; rfl
 | exc c =>
  have h:a Γ = .exc c:=ha
  show (a Γ).bind _=_
  rw [h]; rfl
 | bad=>exact trivial
variable {T U:TX} {D E:Res Bool}
theorem xA(ha:RefG id (T Γ) D)(hb:RefG id (U Γ) E):RefG id (xAnd T U Γ) (D.bind fun x=>if x then E else .ok false):=ha.bind fun x=>by cases x <;> first | exact hb | exact rfl
theorem xO(ha:RefG id (T Γ) D)(hb:RefG id (U Γ) E):RefG id (xOr T U Γ) (D.bind fun x=>if x then .ok true else E):=ha.bind fun x=>by cases x <;> first | exact hb | exact rfl
theorem xN(ha:RefG id (T Γ) D):RefG id (xNot T Γ) (D.bind fun x=>.ok (!x)):=ha.bind fun x=>rfl
theorem rAnd{A B:Res Bool}(ha:RefG (tv t kB) (a Γ) A)(hb:RefG (tv .fz kB) (b Γ) B):RefG (tv .fz kB) (eAnd a b Γ) (A.bind fun x=>if x then B else .ok false):=ha.bind fun x=>by cases x <;> first | exact hb | exact rfl
@[simp] def ixT:Tg→Tg:=dn
theorem rIxL{A:Res (List α)}{B:Res Int}(ha:RefG (tv t (kL ka)) (a Γ) A)(hb:RefG (tv u kI) (b Γ) B):RefG (tv (dn t) ka) (eIdx a b Γ) (A.bind fun x=>B.bind fun y=>ixR x y) :=
 ha.bind fun x=>hb.bind fun y=>by
  unfold ixR
  cases h:vAt x y with
  | none=>exact trivial
  | some z=>simp [ixV,vAt_map,h,RefG,tv]
theorem rIxT{A:Res (List α)}{B:Res Int}(ha:RefG (tv t (kT ka)) (a Γ) A)(hb:RefG (tv u kI) (b Γ) B):RefG (tv .fz ka) (eIdx a b Γ) (A.bind fun x=>B.bind fun y=>ixR x y) :=
 ha.bind fun x=>hb.bind fun y=>by
  unfold ixR
  cases h:vAt x y with
  | none=>exact trivial
  | some z=>simp [ixV,vAt_map,h,RefG,tv]
theorem rIxS{A:Res (List Nat)}{B:Res Int}(ha:RefG (tv t kS) (a Γ) A)(hb:RefG (tv u kI) (b Γ) B):RefG (tv .fz kS) (eIdx a b Γ) (A.bind fun x=>B.bind fun y=>(ixR x y).bind fun c=>.ok [c]) :=
 ha.bind fun x=>hb.bind fun y=>by
  unfold ixR
  cases h:vAt x y with
  | none=>exact trivial
  | some z=>simp [ixV,h,RefG,tv]
theorem rIxP{i:Int}{pr:α→β}(ha:RefG (tv t ka) (a Γ) A)(h:∀ x,ixV (t,ka x) (.int i) = .ok (u,kb (pr x)):=by intro _; rfl):RefG (tv u kb) (eIdx a (eC (.int i)) Γ) (A.bind fun x=>.ok (pr x)) :=
 ha.bind fun x=>h x
theorem oN:RefG id (oNone Γ) (.ok none):=rfl
theorem oS{A:Res Int}(ha:RefG (tv t kI) (a Γ) A):RefG id (oSome a Γ) (A.bind fun x=>.ok (some x)):=ha.bind fun x=>rfl
variable {lo hi:OX} {L H:Res (Option Int)}
theorem rSlL{A:Res (List α)}(ha:RefG (tv t (kL ka)) (a Γ) A)(hl:RefG id (lo Γ) L)(hh:RefG id (hi Γ) H)(hf:flat1 t=true:=by rfl):RefG (tv (.ow 1) (kL ka)) (eSlice a lo hi Γ) (A.bind fun x=>L.bind fun l=>H.bind fun h=>.ok (cutL x l h)) :=
 ha.bind fun x=>hl.bind fun l=>hh.bind fun h=>by simp [sliceV,hf,cut_map,RefG,tv,-flat1]
theorem rSlT{A:Res (List α)}(ha:RefG (tv t (kT ka)) (a Γ) A)(hl:RefG id (lo Γ) L)(hh:RefG id (hi Γ) H):RefG (tv .fz (kT ka)) (eSlice a lo hi Γ) (A.bind fun x=>L.bind fun l=>H.bind fun h=>.ok (cutL x l h)) :=
 ha.bind fun x=>hl.bind fun l=>hh.bind fun h=>by simp [sliceV,cut_map,RefG,tv]
theorem rSlS{A:Res (List Nat)}(ha:RefG (tv t kS) (a Γ) A)(hl:RefG id (lo Γ) L)(hh:RefG id (hi Γ) H):RefG (tv .fz kS) (eSlice a lo hi Γ) (A.bind fun x=>L.bind fun l=>H.bind fun h=>.ok (cutL x l h)) :=
 ha.bind fun x=>hl.bind fun l=>hh.bind fun h=>rfl
theorem rAddS{A B:Res (List Nat)}(ha:RefG (tv t kS) (a Γ) A)(hb:RefG (tv u kS) (b Γ) B):RefG (tv .fz kS) (eAdd a b Γ) (A.bind fun x=>B.bind fun y=>catR x y) :=
 ha.bind fun x=>hb.bind fun y=>by
  unfold catR
  by_cases h:x.length+y.length≤16777216
  ·rw [if_pos h]; simp [addV,h,RefG,tv]
  ·rw [if_neg h]; exact trivial
theorem rAddL{A B:Res (List α)}(ha:RefG (tv t (kL ka)) (a Γ) A)(hb:RefG (tv u (kL ka)) (b Γ) B)(h1:flat1 t=true:=by rfl)(h2:flat1 u=true:=by rfl):RefG (tv (.ow 1) (kL ka)) (eAdd a b Γ) (A.bind fun x=>B.bind fun y=>catR x y) :=
 ha.bind fun x=>hb.bind fun y=>by
  unfold catR
  by_cases h:x.length+y.length≤16777216
  ·rw [if_pos h]; simp [addV,h,h1,h2,RefG,tv,-flat1]
  ·rw [if_neg h]; exact trivial
theorem rAddT{A B:Res (List α)}(ha:RefG (tv t (kT ka)) (a Γ) A)(hb:RefG (tv u (kT ka)) (b Γ) B):RefG (tv .fz (kT ka)) (eAdd a b Γ) (A.bind fun x=>B.bind fun y=>catR x y) :=
 ha.bind fun x=>hb.bind fun y=>by
  unfold catR
  by_cases h:x.length+y.length≤16777216
  ·rw [if_pos h]; simp [addV,h,RefG,tv]
  ·rw [if_neg h]; exact trivial
theorem rLenL{A:Res (List α)}(ha:RefG (tv t (kL ka)) (a Γ) A):RefG (tv .fz kI) (eLen a Γ) (A.bind fun x=>.ok (x.length:Int)):=ha.bind fun x=>by simp [RefG,tv]
theorem rLenT{A:Res (List α)}(ha:RefG (tv t (kT ka)) (a Γ) A):RefG (tv .fz kI) (eLen a Γ) (A.bind fun x=>.ok (x.length:Int)):=ha.bind fun x=>by simp [RefG,tv]
theorem rLenS{A:Res (List Nat)}(ha:RefG (tv t kS) (a Γ) A):RefG (tv .fz kI) (eLen a Γ) (A.bind fun x=>.ok (x.length:Int)):=ha.bind fun x=>by simp [RefG,tv]
theorem rTupL{A:Res (List α)}(ha:RefG (tv t (kL ka)) (a Γ) A)(hf:flat1 t=true:=by rfl):RefG (tv .fz (kT ka)) (eTuple a Γ) A:=by
 have:=ha.bind (F:=fun x=>match x with
  | (t,.lst l)=>if flat1 t then .ok (.fz,.tup l) else .bad
  | (_,.tup l)=>.ok (.fz,.tup l)
  | _=>.bad) (g:=tv .fz (kT ka)) (k:=fun l=>.ok l) fun x=>by simp [hf,RefG,tv,-flat1]
 cases A <;> exact this
theorem intsOf_map:∀ l:List Int,intsOf (l.map .int) = .ok l
 | []=>rfl
 | i :: l=>by rw [List.map_cons,intsOf,intsOf_map l]; rfl
theorem rSum{A:Res (List Int)}(ha:RefG (tv t (kL kI)) (a Γ) A):RefG (tv .fz kI) (eSum a Γ) (A.bind fun x=>.ok x.sum):=ha.bind fun x=>by
 have:=intsOf_map x
 simp [kI,RefG,tv] at this ⊢
 rw [this]; rfl
theorem rMin2{A B:Res Int}(ha:RefG (tv t kI) (a Γ) A)(hb:RefG (tv u kI) (b Γ) B):RefG (tv .fz kI) (eOp2 opMin2 a b Γ) (A.bind fun x=>B.bind fun y=>.ok (if y < x then y else x)) :=
 ha.bind fun x=>hb.bind fun y=>rfl
theorem rMax2{A B:Res Int}(ha:RefG (tv t kI) (a Γ) A)(hb:RefG (tv u kI) (b Γ) B):RefG (tv .fz kI) (eOp2 opMax2 a b Γ) (A.bind fun x=>B.bind fun y=>.ok (if y > x then y else x)) :=
 ha.bind fun x=>hb.bind fun y=>rfl
theorem rIntB{A:Res Bool}(ha:RefG (tv t kB) (a Γ) A):RefG (tv .fz kI) (eInt a Γ) (A.bind fun b=>.ok (if b then 1 else 0)):=ha.bind fun x=>rfl
theorem any_eqv[DecidableEq α][Enc ka](x:α):∀ l:List α,((l.map ka).any fun z=>eqv z (ka x))=decide (x∈l)
 | []=>by simp
 | y :: l=>by
  rw [List.map_cons,List.any_cons,any_eqv x l,Enc.eq,Bool.eq_iff_iff,Bool.or_eq_true,decide_eq_true_eq,decide_eq_true_eq,decide_eq_true_eq,List.mem_cons]
  exact ⟨fun h=>h.elim (fun e=>.inl e.symm) .inr,fun h=>h.elim (fun e=>.inl e.symm) .inr⟩
theorem inB_L[DecidableEq α][Enc ka](hd:Enc.d ka≤50)(x:α)(l:List α):inB (ka x) (kL ka l) = .ok (decide (x∈l)):=by
 simp only [kL,inB]
 rw [Enc.sh (k:=ka) 50 hd,shpL_enc 50 hd,any_eqv]; rfl
class Pl (k:α→PV):Prop where
 p:∀ a,plainP (k a)=true
instance:Pl kI:=⟨fun _=>rfl⟩
instance:Pl kB:=⟨fun _=>rfl⟩
instance:Pl kS:=⟨fun _=>rfl⟩
instance [Pl ka]:Pl (kO ka):=⟨fun a=>by cases a with
 | none=>rfl
 | some a=>exact Pl.p (k:=ka) a⟩
theorem firstIx_enc[DecidableEq α][Enc ka](x:α):∀ l:List α,firstIx (fun z=>eqv z (ka x)) (l.map ka)=firstIx (fun z=>decide (z=x)) l
 | []=>rfl
 | y :: l=>by rw [List.map_cons,firstIx,firstIx,firstIx_enc x l,Enc.eq]
end
end Vm
end
section
set_option linter.all false
set_option maxHeartbeats 1000000
set_option maxRecDepth 10000
namespace Vm
section
variable {Γ:En} {α β γ δ ε ι σ τ ρ κ:Type} {a b c e:EX} {as:EXs} {A B C:Res α} {t u v:Tg} {ka:α→PV} {kb:β→PV} {kc:γ→PV} {kd:δ→PV}
theorem argsC{f:α→TV}{g:γ→δ}{F:List TV→Res δ}{K:α→Res γ}(ha:RefG f (a Γ) A)(h:∀ x,RefG g ((as Γ).bind fun xs=>F (f x :: xs)) (K x)):RefG g ((eCons a as Γ).bind F) (A.bind K):=by
 show RefG g (((a Γ).bind fun x=>(as Γ).bind fun xs=>.ok (x :: xs)).bind F) _
 rw [bind_assoc]
 refine ha.bind fun x=>?_
 rw [bind_assoc]
 exact h x
theorem argsN{g:γ→δ}{F:List TV→Res δ}{K:Res γ}(h:RefG g (F []) K):RefG g ((eNil Γ).bind F) K:=h
theorem argsE(g:γ→δ)(x:γ){F:List TV→Res δ}(h:F [] = .ok (g x)):RefG g ((eNil Γ).bind F) (.ok x):=h
theorem rCallB{f:FN}{xs:List TV}{g:γ→TV}{R:Res γ}(ps:List PV)(hf:RefG g (f ps) R)(hp:xs.map (·.2)=ps:=by rfl)(hb:xs.any isBw=false:=by rfl):RefG g ((f (xs.map (·.2))).bind fun r=>if xs.any isBw && !stabR r then .bad else .ok r) R:=by
 rw [hp,hb]
 have:=hf.bind (F:=fun r=>if false && !stabR r then .bad else .ok r) (g:=g) (k:=fun x=>.ok x) fun x=>rfl
 cases R <;> exact this
theorem rCallS{f:FN}{xs:List TV}{g:γ→TV}{R:Res γ}(ps:List PV)(hf:RefG g (f ps) R)(hs:∀ x,stabR (g x)=true)(hp:xs.map (·.2)=ps:=by rfl):RefG g ((f (xs.map (·.2))).bind fun r=>if xs.any isBw && !stabR r then .bad else .ok r) R:=by
 rw [hp]
 have:=hf.bind (F:=fun r=>if xs.any isBw && !stabR r then .bad else .ok r) (g:=g) (k:=fun x=>.ok x) fun x=>by rw [hs,Bool.not_true,Bool.and_false]; rfl
 cases R <;> exact this
class St (k:α→PV):Prop where
 s:∀ a,stab (k a)=true
instance:St kI:=⟨fun _=>rfl⟩
instance:St kB:=⟨fun _=>rfl⟩
instance:St kS:=⟨fun _=>rfl⟩
instance:St kN:=⟨fun _=>rfl⟩
instance [St ka]:St (kO ka):=⟨fun a=>by cases a with
 | none=>rfl
 | some a=>exact St.s (k:=ka) a⟩
theorem stabL_map[St ka]:∀ l:List α,stabL (l.map ka)=true
 | []=>rfl
 | x :: l=>by rw [List.map_cons,stabL,St.s,stabL_map l]; rfl
instance [St ka]:St (kT ka):=⟨fun l=>by simp only [kT,stab]; exact stabL_map l⟩
instance [St ka]:St (kP1 ka):=⟨fun x=>by simp only [kP1,stab,stabL,St.s]; rfl⟩
instance [St ka] [St kb]:St (kP2 ka kb):=⟨fun x=>by simp only [kP2,stab,stabL,St.s]; rfl⟩
instance [St ka] [St kb] [St kc]:St (kP3 ka kb kc):=⟨fun x=>by simp only [kP3,stab,stabL,St.s]; rfl⟩
instance [St ka] [St kb] [St kc] [St kd]:St (kP4 ka kb kc kd):=⟨fun x=>by simp only [kP4,stab,stabL,St.s]; rfl⟩
theorem st_fz[St ka](x:α):stabR (tv .fz ka x)=true:=St.s (k:=ka) x
theorem st_ow1[St ka](x:List α):stabR (tv (.ow 1) (kL ka) x)=true:=by
 show (x.map ka).all (stabO 0)=true
 rw [List.all_eq_true]
 intro p hp
 obtain ⟨y,_,rfl⟩:=List.mem_map.mp hp
 exact St.s (k:=ka) y
abbrev itv{α:Type}(fl:Bool)(f:α→TV)(xs:List α):Bool×List TV:=(fl,xs.map f)
@[simp] def noBw:Tg→Bool
 | .bw _=>false
 | _=>true
theorem iSeqL{A:Res (List α)}(ha:RefG (tv t (kL ka)) (a Γ) A)(ht:noBw t=true:=by rfl):RefG (itv true (tv .fz ka)) (jSeq a Γ) A:=by
 have:=ha.bind (F:=fun x=>match x.2 with
  | .lst l=>match x.1 with
   | .bw d=>.ok (false,l.map fun p=>(dn (.bw d),p))
   | _=>.ok (true,l.map fun p=>(.fz,p))
  | .tup l=>.ok (true,l.map fun p=>(.fz,p))
  | .str l=>.ok (true,l.map fun c=>(.fz,.str [c]))
  | _=>.bad) (g:=itv true (tv .fz ka)) (k:=fun l=>.ok l) fun x=>by
   cases t with
   | bw d=>cases ht
   | fz=>simp [RefG,itv,tv]
   | ow d=>simp [RefG,itv,tv]
 cases A <;> exact this
theorem iSeqT{A:Res (List α)}(ha:RefG (tv t (kT ka)) (a Γ) A):RefG (itv true (tv .fz ka)) (jSeq a Γ) A:=by
 have:=ha.bind (F:=fun x=>match x.2 with
  | .lst l=>match x.1 with
   | .bw d=>.ok (false,l.map fun p=>(dn (.bw d),p))
   | _=>.ok (true,l.map fun p=>(.fz,p))
  | .tup l=>.ok (true,l.map fun p=>(.fz,p))
  | .str l=>.ok (true,l.map fun c=>(.fz,.str [c]))
  | _=>.bad) (g:=itv true (tv .fz ka)) (k:=fun l=>.ok l) fun x=>by simp [RefG,itv,tv]
 cases A <;> exact this
def signs(l:List Nat):List (List Nat):=l.map fun c=>[c]
theorem rngL_I(lo hi:Int):rngL lo hi=(rngI lo hi).map .int:=by unfold rngL rngI; rw [List.map_map]; rfl
theorem iRng{A:Res Int}(ha:RefG (tv t kI) (a Γ) A):RefG (itv true (tv .fz kI)) (jRange a Γ) (A.bind fun n=>rngR n):=ha.bind fun n=>by
 unfold rngR
 by_cases h:rngOk n=true
 ·rw [if_pos h]
  show RefG _ (if rngOk n then _ else _) _
  rw [if_pos h,rngL_I]
  simp [RefG,itv,tv]
 ·rw [if_neg h]; exact trivial
theorem iRng2{A B:Res Int}(ha:RefG (tv t kI) (a Γ) A)(hb:RefG (tv u kI) (b Γ) B):RefG (itv true (tv .fz kI)) (jRange2 a b Γ) (A.bind fun m=>B.bind fun n=>rng2R m n):=ha.bind fun m=>hb.bind fun n=>by
 unfold rng2R
 by_cases h:(rngOk m && rngOk n)=true
 ·rw [if_pos h]
  show RefG _ (if rngOk m && rngOk n then _ else _) _
  rw [if_pos h,rngL_I]
  simp [RefG,itv,tv]
 ·rw [if_neg h]; exact trivial
theorem iRevR{A:Res Int}(ha:RefG (tv t kI) (a Γ) A):RefG (itv true (tv .fz kI)) (jRevR a Γ) (A.bind fun n=>rrngR n):=ha.bind fun n=>by
 unfold rrngR
 by_cases h:rngOk n=true
 ·rw [if_pos h]
  show RefG _ (if rngOk n then _ else _) _
  rw [if_pos h,rngL_I]
  simp [RefG,itv,tv,← List.map_reverse]
 ·rw [if_neg h]; exact trivial
def Sq(t:Tg)(k:α→PV)(fl:Bool)(ki:ι→PV)(el:α→List ι):Prop:=∀ x,seqV (t,k x) = .ok (fl,(el x).map ki)
theorem sqO{d:Nat}:Sq (.ow d) (kL ka) true ka id:=fun x=>rfl
theorem sqS:Sq t kS true kS signs:=fun x=>by simp [seqV,signs,Function.comp_def]
theorem zipL_map(l:List α)(m:List β):zipL (l.map ka) (m.map kb)=(l.zip m).map (kP2 ka kb):=by
 unfold zipL
 induction l generalizing m with
 | nil=>rfl
 | cons x l ih=>cases m with
  | nil=>rfl
  | cons y m=>simp only [List.map_cons,List.zipWith_cons_cons,List.zip_cons_cons,ih]; rfl
theorem iZip{A:Res α}{B:Res β}{fl fm:Bool}{ki:ι→PV}{kj:κ→PV}{el:α→List ι}{em:β→List κ}(ha:RefG (tv t ka) (a Γ) A)(hb:RefG (tv u kb) (b Γ) B)(hs:Sq t ka fl ki el)(hs2:Sq u kb fm kj em) :
  RefG (itv (fl && fm) (tv .fz (kP2 ki kj))) (jZip a b Γ) (A.bind fun x=>B.bind fun y=>.ok ((el x).zip (em y))):=ha.bind fun x=>hb.bind fun y=>by
 show RefG _ ((seqV (t,ka x)).bind fun l=>(seqV (u,kb y)).bind _) _
 rw [hs,hs2]
 show _=_
 simp only [bind_ok,zipL_map,List.map_map]
 rfl
theorem iRev{fl:Bool}{ki:ι→PV}{el:α→List ι}(ha:RefG (tv t ka) (a Γ) A)(hs:Sq t ka fl ki el)(hn:∀ x,isStr (ka x)=false:=by intro _; rfl):RefG (itv fl (tv .fz ki)) (jRev a Γ) (A.bind fun x=>.ok (el x).reverse):=ha.bind fun x=>by
 show RefG _ (match isStr (ka x) with
  | true=>.bad
  | false=>(seqV (t,ka x)).bind fun y=>Res.ok (y.1,y.2.reverse.map fun p=>((Tg.fz,p):TV))) _
 rw [hn,hs]
 show _=_
 simp only [bind_ok,← List.map_reverse,List.map_map]
 rfl
theorem lcGo_R{ki:ι→TV}{pat:Pat}{c:TX}{e:EX}{C:ι→Res Bool}{E:ι→Res α}{f:α→TV}(hp:∀ x,putV (f x) = .ok (f x).2)(hb:∀ x,∃ Γ',bindP Γ (ki x) pat = .ok Γ'∧RefG id (c Γ') (C x)∧RefG f (e Γ') (E x)) :
  ∀ xs:List ι,RefG (fun l:List α=>l.map fun x=>(f x).2) (lcGo Γ pat c e (xs.map ki)) (lcR C E xs)
 | []=>rfl
 | x :: xs=>by
  obtain ⟨Γ',h1,h2,h3⟩:=hb x
  rw [List.map_cons,lcGo,h1,bind_ok,lcR]
  refine h2.bind fun b=>?_
  cases b with
  | false=>exact lcGo_R hp hb xs
  | true =>
   refine h3.bind fun y=>?_
   rw [hp,bind_ok]
   exact (lcGo_R hp hb xs).bind fun r=>rfl
theorem noExc_R{f:α→β}{o:Res β}{r:Res α}(h:RefG f o r):RefG f (noExc o) (noExc r):=by
 cases r with
 | ok x =>
  have h:o = .ok (f x):=h
  rw [h]; exact rfl
 | exc c=>exact trivial
 | bad=>exact trivial
theorem rLC{it:IX}{X:Res (List ι)}{ki:ι→TV}{fl:Bool}{own:List Nat}{pat:Pat}{c:TX}{e:EX}{C:ι→Res Bool}{E:ι→Res α}(hi:RefG (itv fl ki) (it Γ) X)
  (hb:∀ x,∃ Γ',bindP (wipeE Γ own) (ki x) pat = .ok Γ'∧RefG id (c Γ') (C x)∧RefG (tv t ka) (e Γ') (E x))(hp:∀ p,putV (t,p) = .ok p:=by intro _; rfl) :
  RefG (tv (.ow 1) (kL ka)) (eLC own it pat c e Γ) (X.bind fun xs=>(noExc (lcR C E xs)).bind szR):=by
 refine hi.bind fun xs=>?_
 refine (noExc_R (lcGo_R (fun x=>hp _) hb xs)).bind fun l=>?_
 unfold szR
 by_cases h:l.length≤16777216
 ·rw [if_pos h,if_pos (by simpa using h)]; rfl
 ·rw [if_neg h]; exact trivial
theorem lcR_map{C:ι→Res Bool}{E:ι→Res α}(h:∀ x,C x = .ok true):∀ xs,lcR C E xs=mapR E xs
 | []=>rfl
 | x :: xs=>by rw [lcR,mapR,h,bind_ok,if_pos rfl,lcR_map h xs]
theorem rLM{it:IX}{X:Res (List ι)}{ki:ι→TV}{fl:Bool}{own:List Nat}{pat:Pat}{e:EX}{E:ι→Res α}(hi:RefG (itv fl ki) (it Γ) X)
  (hb:∀ x,∃ Γ',bindP (wipeE Γ own) (ki x) pat = .ok Γ'∧RefG (tv t ka) (e Γ') (E x))(hp:∀ p,putV (t,p) = .ok p:=by intro _; rfl) :
  RefG (tv (.ow 1) (kL ka)) (eLC own it pat xYes e Γ) (X.bind fun xs=>(noExc (mapR E xs)).bind szR):=by
 have:=rLC (C:=fun _=>.ok true) (E:=E) (c:=xYes) hi (fun x=>by
  obtain ⟨Γ',h1,h2⟩:=hb x
  exact ⟨Γ',h1,rfl,h2⟩) hp
 have e2:(fun xs=>(noExc (lcR (fun _=>.ok true) E xs)).bind szR)=fun xs=>(noExc (mapR E xs)).bind szR:=funext fun xs=>by rw [lcR_map fun _=>rfl]
 rw [e2] at this
 exact this
def RG(EP:En→Prop)(Post:Out→β→Prop)(o:Out):Res β→Prop
 | .ok x=>Post o x
 | .exc c=>∃ Γ',o = .exc c Γ'∧EP Γ'
 | .bad=>True
def NxP(P:σ→En→Prop):Out→σ→Prop:=fun o s=>∃ Γ',o = .nx Γ'∧P s Γ'
def RtP(f:ρ→TV):Out→ρ→Prop:=fun o x=>(∃ Γ',o = .rt (f x).1 (f x).2 Γ') ∨ ∃ Γ',o = .nx Γ'∧f x=(.fz,.non)
def LpP(ws:List Nat)(st:σ→En)(f:ρ→TV):Out→Ctl σ ρ→Prop:=fun o c=>match c with
 | .nx s=>∃ Γ',(o = .nx Γ' ∨ o = .ct Γ')∧wipeE Γ' ws=st s
 | .bk s=>∃ Γ',o = .bk Γ'∧wipeE Γ' ws=st s
 | .rt x=>∃ Γ',o = .rt (f x).1 (f x).2 Γ'
def LsP(ws:List Nat)(st:σ→En):Out→σ→Prop:=fun o s=>∃ Γ',(o = .nx Γ' ∨ o = .ct Γ')∧wipeE Γ' ws=st s
def CtlP(st:σ→En)(f:ρ→TV):Out→Ctl σ ρ→Prop:=fun o c=>match c with
 | .nx s=>o = .nx (st s)
 | .bk s=>o = .nx (st s)
 | .rt x=>∃ Γ',o = .rt (f x).1 (f x).2 Γ'
variable {EP:En→Prop} {Post:Out→β→Prop} {o:Out} {r:Res β} {d x y rest:ST} {S:Res σ} {u':σ→En} {K:σ→Res β}
abbrev Prim(EP:En→Prop)(d:ST)(Γ:En)(S:Res σ)(u:σ→En):Prop:=RG EP (NxP fun s Γ'=>Γ'=u s) (d Γ) S
theorem gPrim(h:Prim EP d Γ S u')(q:∀ s,RG EP Post (rest (u' s)) (K s)):RG EP Post (dSeq d rest Γ) (S.bind K):=by
 cases S with
 | ok s =>
  obtain ⟨Γ',h1,rfl⟩:=h
  show RG EP Post ((d Γ).then rest) _
  rw [h1]; exact q s
 | exc c =>
  obtain ⟨Γ',h1,h2⟩:=h
  show RG EP Post ((d Γ).then rest) _
  rw [h1]; exact ⟨Γ',rfl,h2⟩
 | bad=>exact trivial
theorem gPrim1(h:Prim EP d Γ S u')(q:∀ s,RG EP Post (.nx (u' s)) (K s)):RG EP Post (d Γ) (S.bind K):=by
 cases S with
 | ok s =>
  obtain ⟨Γ',h1,rfl⟩:=h
  rw [h1]; exact q s
 | exc c=>exact h
 | bad=>exact trivial
theorem gOk{s:β}(h:Post o s):RG EP Post o (.ok s):=h
theorem gNil(h:RG EP Post (rest Γ) r):RG EP Post (dSeq dNil rest Γ) r:=h
theorem gNil1(h:RG EP Post (.nx Γ) r):RG EP Post (dNil Γ) r:=h
theorem gAssoc(h:RG EP Post (dSeq x (dSeq y rest) Γ) r):RG EP Post (dSeq (dSeq x y) rest Γ) r:=by
 have e:(dSeq (dSeq x y) rest) Γ=dSeq x (dSeq y rest) Γ:=by
  show ((x Γ).then y).then rest=(x Γ).then (dSeq y rest)
  cases x Γ <;> rfl
 rw [e]; exact h
theorem gFrz(i:Nat){d:Nat}(p:PV)(hg:Γ.get i=some (.ow d,p))(h:RG EP Post (rest (Γ.set i (some (.fz,p)))) r):RG EP Post (dFrz i rest Γ) r:=by
 show RG EP Post (match Γ.get i with
  | some (.ow _,p)=>rest (Γ.set i (some (.fz,p)))
  | some (.fz,p)=>rest Γ
  | _=>.bad) r
 rw [hg]; exact h
variable {T:TX} {D:Res Bool} {R1 R2:Res β} {S1 S2:Res σ}
theorem gIf(ht:RefG id (T Γ) D)(h1:RG EP Post (x Γ) R1)(h2:RG EP Post (y Γ) R2)(hE:EP Γ):RG EP Post (dIf T x y Γ) (D.bind fun c=>if c then R1 else R2):=by
 cases D with
 | ok c =>
  have ht:T Γ = .ok c:=ht
  show RG EP Post (aft (T Γ) Γ _) _
  rw [ht]
  cases c <;> first | exact h1 | exact h2
 | exc c =>
  have ht:T Γ = .exc c:=ht
  show RG EP Post (aft (T Γ) Γ _) _
  rw [ht]
  exact ⟨Γ,rfl,hE⟩
 | bad=>exact trivial
theorem gIfD(ht:RefG id (T Γ) D)(h1:RG EP Post (dSeq x rest Γ) R1)(h2:RG EP Post (dSeq y rest Γ) R2)(hE:EP Γ):RG EP Post (dSeq (dIf T x y) rest Γ) (D.bind fun c=>if c then R1 else R2):=by
 cases D with
 | ok c =>
  have ht:T Γ = .ok c:=ht
  show RG EP Post ((aft (T Γ) Γ _).then rest) _
  rw [ht]
  cases c <;> first | exact h1 | exact h2
 | exc c =>
  have ht:T Γ = .exc c:=ht
  show RG EP Post ((aft (T Γ) Γ _).then rest) _
  rw [ht]
  exact ⟨Γ,rfl,hE⟩
 | bad=>exact trivial
theorem gSeq{P:σ→En→Prop}(h:RG EP (NxP P) (d Γ) S)(q:∀ s Γ',P s Γ'→RG EP Post (rest Γ') (K s)):RG EP Post (dSeq d rest Γ) (S.bind K):=by
 cases S with
 | ok s =>
  obtain ⟨Γ',h1,h2⟩:=h
  show RG EP Post ((d Γ).then rest) _
  rw [h1]; exact q s Γ' h2
 | exc c =>
  obtain ⟨Γ',h1,h2⟩:=h
  show RG EP Post ((d Γ).then rest) _
  rw [h1]; exact ⟨Γ',rfl,h2⟩
 | bad=>exact trivial
@[simp] def retT:Tg→Tg
 | .bw 0=>.fz
 | t=>t
@[simp] def retOk:Tg→Bool
 | .bw (_+1)=>false
 | _=>true
theorem ret_is(t:Tg)(p:PV)(Γ:En)(h:retOk t=true):(match ((t,p):TV) with
 | (.bw 0,p)=>Out.rt .fz p Γ
 | (.bw _,_)=>.bad
 | (t,p)=>.rt t p Γ) = .rt (retT t) p Γ:=by
 match t,h with
 | .fz,_=>rfl
 | .ow _,_=>rfl
 | .bw 0,_=>rfl
theorem gRet{E:Res α}{K:α→Res β}(h:RefG (tv t ka) (e Γ) E)(q:∀ x,RG EP Post (.rt (retT t) (ka x) Γ) (K x))(hE:EP Γ)(ht:retOk t=true:=by rfl):RG EP Post (dRet e Γ) (E.bind K):=by
 cases E with
 | ok x =>
  have h:e Γ = .ok (t,ka x):=h
  show RG EP Post (aft (e Γ) Γ _) _
  rw [h]
  show RG EP Post (match ((t,ka x):TV) with
   | (.bw 0,p)=>Out.rt .fz p Γ
   | (.bw _,_)=>.bad
   | (t,p)=>.rt t p Γ) _
  rw [ret_is _ _ _ ht]
  exact q x
 | exc c =>
  have h:e Γ = .exc c:=h
  show RG EP Post (aft (e Γ) Γ _) _
  rw [h]; exact ⟨Γ,rfl,hE⟩
 | bad=>exact trivial
theorem gRetS{E:Res α}{K:α→Res β}(h:RefG (tv t ka) (e Γ) E)(q:∀ x,RG EP Post (.rt (retT t) (ka x) Γ) (K x))(hE:EP Γ)(ht:retOk t=true:=by rfl):RG EP Post (dSeq (dRet e) rest Γ) (E.bind K):=by
 have:=gRet (K:=K) h q hE ht
 cases E with
 | ok x =>
  have h:e Γ = .ok (t,ka x):=h
  show RG EP Post ((aft (e Γ) Γ _).then rest) _
  rw [h]
  show RG EP Post (Out.then (match ((t,ka x):TV) with
   | (.bw 0,p)=>Out.rt .fz p Γ
   | (.bw _,_)=>.bad
   | (t,p)=>.rt t p Γ) rest) _
  rw [ret_is _ _ _ ht]
  exact q x
 | exc c =>
  have h:e Γ = .exc c:=h
  show RG EP Post ((aft (e Γ) Γ _).then rest) _
  rw [h]; exact ⟨Γ,rfl,hE⟩
 | bad=>exact trivial
theorem gRetV(i:Nat){p:PV}(hg:dRetV i Γ = .rt t p Γ)(q:RG EP Post (.rt t p Γ) r):RG EP Post (dRetV i Γ) r:=by rw [hg]; exact q
theorem gRetVS(i:Nat){p:PV}(hg:dRetV i Γ = .rt t p Γ)(q:RG EP Post (.rt t p Γ) r):RG EP Post (dSeq (dRetV i) rest Γ) r:=by
 show RG EP Post ((dRetV i Γ).then rest) r
 rw [hg]; exact q
theorem prim_of{d:ST}{F:TV→Out}{f:α→TV}{E:Res α}(h:RefG f (e Γ) E)(hE:EP Γ){S:α→Res σ}(hd:d Γ=aft (e Γ) Γ F)(q:∀ x,RG EP (NxP fun s Γ'=>Γ'=u' s) (F (f x)) (S x)):Prim EP d Γ (E.bind S) u':=by
 show RG EP _ (d Γ) _
 rw [hd]
 cases E with
 | ok x =>
  have h:e Γ = .ok (f x):=h
  rw [h]; exact q x
 | exc c =>
  have h:e Γ = .exc c:=h
  rw [h]; exact ⟨Γ,rfl,hE⟩
 | bad=>exact trivial
theorem bind_id(E:Res α):(E.bind fun x=>.ok x)=E:=by cases E <;> rfl
theorem pSet(i:Nat){E:Res α}(h:RefG (tv t ka) (e Γ) E)(hE:EP Γ)(hp:∀ p,putV (t,p) = .ok p:=by intro _; rfl):Prim EP (dSet i e) Γ E (fun x=>Γ.set i (some (.fz,ka x))):=by
 have:=prim_of (EP:=EP) (d:=dSet i e) (u':=fun x=>Γ.set i (some (.fz,ka x))) (S:=fun x=>.ok x) h hE rfl fun x=>by
  show RG EP _ (aft (putV (t,ka x)) Γ _) _
  rw [hp]; exact ⟨_,rfl,rfl⟩
 rw [bind_id] at this
 exact this
theorem pSetO(i:Nat){d:Nat}{E:Res α}(h:RefG (tv (.ow d) ka) (e Γ) E)(hE:EP Γ):Prim EP (dSetO i e) Γ E (fun x=>Γ.set i (some (.ow d,ka x))):=by
 have:=prim_of (EP:=EP) (d:=dSetO i e) (u':=fun x=>Γ.set i (some (.ow d,ka x))) (S:=fun x=>.ok x) h hE rfl fun x=>⟨_,rfl,rfl⟩
 rw [bind_id] at this
 exact this
theorem pSetU(is:List Nat)(un:α→Res γ){E:Res α}{u2:γ→En}(h:RefG (tv t ka) (e Γ) E)(hE:EP Γ)(hb:∀ x y,un x = .ok y→bindP Γ (.fz,ka x) (.t is) = .ok (u2 y))(hx:∀ x c,un x ≠ .exc c)(hp:∀ p,putV (t,p) = .ok p:=by intro _; rfl):Prim EP (dSetT is e) Γ (E.bind un) u2:=by
 refine prim_of (EP:=EP) (d:=dSetT is e) (u':=u2) h hE rfl fun x=>?_
 show RG EP _ (aft (putV (t,ka x)) Γ _) _
 rw [hp]
 show RG EP _ (aft (bindP Γ (.fz,ka x) (.t is)) Γ _) _
 cases hu:un x with
 | ok y=>rw [hb x y hu]; exact ⟨_,rfl,rfl⟩
 | exc c=>exact absurd hu (hx x c)
 | bad=>exact trivial
def un7:List α→Res (α×α×α×α×α×α×α)
 | [a,b,c,d,e,f,g]=>.ok (a,b,c,d,e,f,g)
 | _=>.bad
theorem pApp(i:Nat){E:Res α}{l:List α}(h:RefG (tv t ka) (e Γ) E)(hE:EP Γ)(hg:Γ.get i=some (.ow 1,kL ka l))(hp:∀ p,putV (t,p) = .ok p:=by intro _; rfl):Prim EP (dApp i e) Γ (E.bind fun x=>appR l x) (fun l=>Γ.set i (some (.ow 1,kL ka l))):=by
 refine prim_of (EP:=EP) (d:=dApp i e) (F:=fun x=>aft (putV x) Γ fun p=>if (l.map ka).length < 16777216 then .nx (Γ.set i (some (.ow 1,.lst (l.map ka++[p])))) else .bad) h hE ?_ fun x=>?_
 ·show (match Γ.get i with
   | some (.ow 1,.lst l)=>aft (e Γ) Γ fun x=>aft (putV x) Γ fun p=>if l.length < 16777216 then .nx (Γ.set i (some (.ow 1,.lst (l++[p])))) else .bad
   | _=>.bad)=_
  rw [hg]; rfl
 ·show RG EP _ (aft (putV (t,ka x)) Γ _) _
  rw [hp]
  show RG EP _ (if (l.map ka).length < 16777216 then _ else _) _
  unfold appR
  by_cases hz:l.length < 16777216
  ·rw [if_pos hz,if_pos (by simpa using hz)]; exact ⟨_,rfl,by simp⟩
  ·rw [if_neg hz]; exact trivial
theorem pExtL(i:Nat){E:Res (List α)}{l:List α}(h:RefG (tv t (kL ka)) (e Γ) E)(hE:EP Γ)(hg:Γ.get i=some (.ow 1,kL ka l))(hf:flat1 t=true:=by rfl):Prim EP (dExt i e) Γ (E.bind fun x=>catR l x) (fun l=>Γ.set i (some (.ow 1,kL ka l))):=by
 refine prim_of (EP:=EP) (d:=dExt i e) (F:=fun x=>match x.2 with
  | .lst m=>if flat1 x.1 && decide ((l.map ka).length+m.length≤16777216) then .nx (Γ.set i (some (.ow 1,.lst (l.map ka++m)))) else .bad
  | .tup m=>if (l.map ka).length+m.length≤16777216 then .nx (Γ.set i (some (.ow 1,.lst (l.map ka++m)))) else .bad
  | _=>.bad) h hE ?_ fun x=>?_
 ·show (match Γ.get i with
   | some (.ow 1,.lst l)=>aft (e Γ) Γ fun x=>match x.2 with
    | .lst m=>if flat1 x.1 && decide (l.length+m.length≤16777216) then .nx (Γ.set i (some (.ow 1,.lst (l++m)))) else .bad
    | .tup m=>if l.length+m.length≤16777216 then .nx (Γ.set i (some (.ow 1,.lst (l++m)))) else .bad
    | _=>.bad
   | _=>.bad)=_
  rw [hg]; rfl
 ·show RG EP _ (if flat1 t && decide ((l.map ka).length+(x.map ka).length≤16777216) then _ else _) _
  rw [hf,Bool.true_and]
  unfold catR
  by_cases hz:l.length+x.length≤16777216
  ·rw [if_pos hz,if_pos (by simpa using hz)]; exact ⟨_,rfl,by simp⟩
  ·rw [if_neg hz]; exact trivial
theorem pSetIx(i:Nat){j:EX}{J:Res Int}{E:Res α}{l:List α}(h:RefG (tv t ka) (e Γ) E)(hj:RefG (tv u kI) (j Γ) J)(hE:EP Γ)(hg:Γ.get i=some (.ow 1,kL ka l))(hp:∀ p,putV (t,p) = .ok p:=by intro _; rfl):Prim EP (dSetIx i j e) Γ (E.bind fun x=>J.bind fun n=>setR l n x) (fun l=>Γ.set i (some (.ow 1,kL ka l))):=by
 refine prim_of (EP:=EP) (d:=dSetIx i j e) (F:=fun x=>aft (j Γ) Γ fun y=>aft (putV x) Γ fun p=>match y.2 with
   | .int k=>match vIxN (l.map ka).length k with
    | some n=>.nx (Γ.set i (some (.ow 1,.lst ((l.map ka).set n p))))
    | none=>.bad
   | _=>.bad) h hE ?_ fun x=>?_
 ·show (match Γ.get i with
   | some (.ow 1,.lst l)=>aft (e Γ) Γ fun x=>aft (j Γ) Γ fun y=>aft (putV x) Γ fun p=>match y.2 with
    | .int k=>match vIxN l.length k with
     | some n=>.nx (Γ.set i (some (.ow 1,.lst (l.set n p))))
     | none=>.bad
    | _=>.bad
   | _=>.bad)=_
  rw [hg]; rfl
 ·cases J with
  | ok n =>
   have hj:j Γ = .ok (u,.int n):=hj
   show RG EP _ (aft (j Γ) Γ _) (setR l n x)
   rw [hj]
   show RG EP _ (aft (putV (t,ka x)) Γ _) _
   rw [hp]
   show RG EP _ (match vIxN (l.map ka).length n with
    | some n=>.nx (Γ.set i (some (.ow 1,.lst ((l.map ka).set n (ka x)))))
    | none=>.bad) _
   rw [List.length_map]
   unfold setR
   cases vIxN l.length n with
   | none=>exact trivial
   | some m=>exact ⟨_,rfl,by simp [kL,List.map_set]⟩
  | exc c =>
   have hj:j Γ = .exc c:=hj
   show RG EP _ (aft (j Γ) Γ _) _
   rw [hj]; exact ⟨Γ,rfl,hE⟩
  | bad=>exact trivial
theorem forL_T{ki:ι→TV}{pat:Pat}{ws:List Nat}{body:ST}{st:σ→En}{f:ρ→TV}{F:σ→ι→Res (Ctl σ ρ)}(hb:∀ s x,∃ Γ',bindP (st s) (ki x) pat = .ok Γ'∧RG EP (LpP ws st f) (body Γ') (F s x)) :
  ∀ (xs:List ι) (s:σ),RG EP (CtlP st f) (forL pat ws body (xs.map ki) (st s)) (forT F xs s)
 | [],s=>rfl
 | x :: xs,s=>by
  obtain ⟨Γ',h1,h2⟩:=hb s x
  rw [List.map_cons,forL,h1,forT]
  show RG EP _ (match body Γ' with
   | .nx Γ2=>forL pat ws body (xs.map ki) (wipeE Γ2 ws)
   | .ct Γ2=>forL pat ws body (xs.map ki) (wipeE Γ2 ws)
   | .bk Γ2=>.nx (wipeE Γ2 ws)
   | o=>o) _
  cases hF:F s x with
  | ok c =>
   rw [hF] at h2
   cases c with
   | nx s' =>
    obtain ⟨Γ2,h3,h4⟩:=h2
    rcases h3 with h3 | h3 <;> (rw [h3]; simp only [h4]; exact forL_T hb xs s')
   | bk s' =>
    obtain ⟨Γ2,h3,h4⟩:=h2
    rw [h3]; simp only [h4]; exact rfl
   | rt y =>
    obtain ⟨Γ2,h2⟩:=(h2:∃ Γ2,body Γ' = .rt (f y).1 (f y).2 Γ2)
    rw [h2]; exact ⟨_,rfl⟩
  | exc c =>
   rw [hF] at h2
   obtain ⟨Γ2,h3,h4⟩:=h2
   rw [h3]; exact ⟨Γ2,rfl,h4⟩
  | bad=>exact trivial
theorem gForT{it:IX}{X:Res (List ι)}{ki:ι→TV}{pat:Pat}{ws:List Nat}{body:ST}{f:ρ→TV}{F:σ→ι→Res (Ctl σ ρ)}(st:σ→En)(s0:σ)(hi:RefG (itv true ki) (it Γ) X)(h0:wipeE Γ ws=st s0)(hb:∀ s x,∃ Γ',bindP (st s) (ki x) pat = .ok Γ'∧RG EP (LpP ws st f) (body Γ') (F s x))(hE:EP Γ) :
  RG EP (CtlP st f) (dFor it pat ws body Γ) (X.bind fun xs=>forT F xs s0):=by
 cases X with
 | ok xs =>
  have hi:it Γ = .ok (true,xs.map ki):=hi
  show RG EP _ (aft (it Γ) Γ _) _
  rw [hi]
  show RG EP _ (forL pat ws body (xs.map ki) (wipeE Γ ws)) _
  rw [h0]
  exact forL_T hb xs s0
 | exc c =>
  have hi:it Γ = .exc c:=hi
  show RG EP _ (aft (it Γ) Γ _) _
  rw [hi]; exact ⟨Γ,rfl,hE⟩
 | bad=>exact trivial
theorem forL_S{ki:ι→TV}{pat:Pat}{ws:List Nat}{body:ST}{st:σ→En}{F:σ→ι→Res σ}(hb:∀ s x,∃ Γ',bindP (st s) (ki x) pat = .ok Γ'∧RG EP (LsP ws st) (body Γ') (F s x)) :
  ∀ (xs:List ι) (s:σ),RG EP (NxP fun s Γ'=>Γ'=st s) (forL pat ws body (xs.map ki) (st s)) (forS F xs s)
 | [],s=>⟨_,rfl,rfl⟩
 | x :: xs,s=>by
  obtain ⟨Γ',h1,h2⟩:=hb s x
  rw [List.map_cons,forL,h1,forS]
  show RG EP _ (match body Γ' with
   | .nx Γ2=>forL pat ws body (xs.map ki) (wipeE Γ2 ws)
   | .ct Γ2=>forL pat ws body (xs.map ki) (wipeE Γ2 ws)
   | .bk Γ2=>.nx (wipeE Γ2 ws)
   | o=>o) _
  cases hF:F s x with
  | ok s' =>
   rw [hF] at h2
   obtain ⟨Γ2,h3,h4⟩:=h2
   rcases h3 with h3 | h3 <;> (rw [h3]; simp only [h4]; exact forL_S hb xs s')
  | exc c =>
   rw [hF] at h2
   obtain ⟨Γ2,h3,h4⟩:=h2
   rw [h3]; exact ⟨Γ2,rfl,h4⟩
  | bad=>exact trivial
theorem pFor{it:IX}{X:Res (List ι)}{ki:ι→TV}{pat:Pat}{ws:List Nat}{body:ST}{F:σ→ι→Res σ}(st:σ→En)(s0:σ)(hi:RefG (itv true ki) (it Γ) X)(h0:wipeE Γ ws=st s0)(hb:∀ s x,∃ Γ',bindP (st s) (ki x) pat = .ok Γ'∧RG EP (LsP ws st) (body Γ') (F s x))(hE:EP Γ) :
  Prim EP (dFor it pat ws body) Γ (X.bind fun xs=>forS F xs s0) st:=by
 cases X with
 | ok xs =>
  have hi:it Γ = .ok (true,xs.map ki):=hi
  show RG EP _ (aft (it Γ) Γ _) _
  rw [hi]
  show RG EP _ (forL pat ws body (xs.map ki) (wipeE Γ ws)) _
  rw [h0]
  exact forL_S hb xs s0
 | exc c =>
  have hi:it Γ = .exc c:=hi
  show RG EP _ (aft (it Γ) Γ _) _
  rw [hi]; exact ⟨Γ,rfl,hE⟩
 | bad=>exact trivial
theorem gCtl{st:σ→En}{f:ρ→TV}{R:Res (Ctl σ ρ)}{ret:ρ→Res β}(h:RG EP (CtlP st f) (d Γ) R)(q:∀ s,RG EP Post (rest (st s)) (K s))(hr:∀ x Γ',RG EP Post (.rt (f x).1 (f x).2 Γ') (ret x)):RG EP Post (dSeq d rest Γ) (R.bind fun c=>c.then ret K):=by
 show RG EP Post ((d Γ).then rest) _
 cases R with
 | ok c =>
  cases c with
  | nx s =>
   have h:d Γ = .nx (st s):=h
   rw [h]; exact q s
  | bk s =>
   have h:d Γ = .nx (st s):=h
   rw [h]; exact q s
  | rt x =>
   obtain ⟨Γ2,h⟩:=(h:∃ Γ2,d Γ = .rt (f x).1 (f x).2 Γ2)
   rw [h]; exact hr x Γ2
 | exc c =>
  obtain ⟨Γ2,h3,h4⟩:=h
  rw [h3]; exact ⟨Γ2,rfl,h4⟩
 | bad=>exact trivial
theorem whL_T{T:TX}{ws:List Nat}{body:ST}{st:σ→En}{f:ρ→TV}{D:σ→Res Bool}{F:σ→Res (Ctl σ ρ)}(ht:∀ s,RefG id (T (st s)) (D s))(hb:∀ s,RG EP (LpP ws st f) (body (st s)) (F s))(hE:∀ s,EP (st s)) :
  ∀ (n:Nat) (s:σ) (o:Res (Ctl σ ρ)),whT D F n s=some o→o ≠ .bad→∃ o',whL T ws body n (st s)=some o'∧RG EP (CtlP st f) o' o
 | 0,_,_,h,_=>by cases h
 | n+1,s,o,h,hn=>by
  unfold whT at h
  unfold whL
  have h1:=ht s
  cases hD:D s with
  | ok b =>
   rw [hD] at h h1
   have h1:T (st s) = .ok b:=h1
   rw [h1]
   cases b with
   | false=>cases h; exact ⟨_,rfl,rfl⟩
   | true =>
    simp only at h ⊢
    have h2:=hb s
    cases hF:F s with
    | ok c =>
     rw [hF] at h h2
     cases c with
     | nx s' =>
      obtain ⟨Γ2,h3,h4⟩:=h2
      rcases h3 with h3 | h3 <;> (rw [h3]; simp only [h4]; exact whL_T ht hb hE n s' o h hn)
     | bk s' =>
      obtain ⟨Γ2,h3,h4⟩:=h2
      cases h
      rw [h3]; simp only [h4]; exact ⟨_,rfl,rfl⟩
     | rt y =>
      obtain ⟨Γ2,h2⟩:=(h2:∃ Γ2,body (st s) = .rt (f y).1 (f y).2 Γ2)
      cases h
      rw [h2]; exact ⟨_,rfl,⟨_,rfl⟩⟩
    | exc c =>
     rw [hF] at h h2
     obtain ⟨Γ2,h3,h4⟩:=h2
     cases h
     rw [h3]; exact ⟨_,rfl,Γ2,rfl,h4⟩
    | bad=>rw [hF] at h; cases h; exact absurd rfl hn
  | exc c =>
   rw [hD] at h h1
   have h1:T (st s) = .exc c:=h1
   cases h
   rw [h1]; exact ⟨_,rfl,_,rfl,hE s⟩
  | bad=>rw [hD] at h; cases h; exact absurd rfl hn
theorem gWhT{T:TX}{ws:List Nat}{body:ST}{f:ρ→TV}{D:σ→Res Bool}{F:σ→Res (Ctl σ ρ)}(st:σ→En)(s0:σ)(h0:wipeE Γ ws=st s0)(ht:∀ s,RefG id (T (st s)) (D s))(hb:∀ s,RG EP (LpP ws st f) (body (st s)) (F s))(hE:∀ s,EP (st s)) :
  RG EP (CtlP st f) (dWhile T ws body Γ) (whR D F s0):=by
 by_cases hx:∃ n o,whT D F n s0=some o
 ·obtain ⟨n,o,h⟩:=hx
  rw [whR_eq h]
  by_cases hn:o = .bad
  ·rw [hn]; exact trivial
  ·obtain ⟨o',h1,h2⟩:=whL_T ht hb hE n s0 o h hn
   rw [← h0] at h1
   rw [dWhile_eq h1]
   exact h2
 ·have:whR D F s0 = .bad:=by unfold whR; rw [dif_neg hx]
  rw [this]; exact trivial
theorem tFn{np ns:Nat}{body:ST}{args:List PV}{f:ρ→TV}{R:Res ρ}(h:RG (fun _=>True) (RtP f) (body (args.map (fun p=>some (.fz,p))++List.replicate (ns - np) none)) R)(hl:args.length=np:=by rfl):RefG f (runFn np ns body args) R:=by
 unfold runFn
 rw [if_pos hl]
 cases R with
 | ok x =>
  rcases h with ⟨Γ',h⟩ | ⟨Γ',h1,h2⟩
  ·rw [h]; exact rfl
  ·rw [h1]; show _=_; rw [h2]
 | exc c =>
  obtain ⟨Γ',h1,_⟩:=h
  rw [h1]; exact rfl
 | bad=>exact trivial
end
end Vm
end
section
set_option linter.all false
set_option maxHeartbeats 1000000
set_option maxRecDepth 10000
namespace Vm
section
variable {Γ:En} {α β γ δ ι σ ρ κ:Type} {a b c e:EX} {ka:α→PV} {kb:β→PV}
theorem coL{c:α→β}(h:∀ x,kb (c x)=ka x)(x:List α):kL kb (List.map c x)=kL ka x:=by
 simp only [kL,List.map_map]
 congr 1
 exact List.map_congr_left fun y _=>h y
def decI:TV→Res Int
 | (.fz,.int i)=>.ok i
 | _=>.bad
def decS:TV→Res (List Nat)
 | (.fz,.str i)=>.ok i
 | _=>.bad
theorem RefG.dec{o:Res TV}{r:Res TV}{f:α→TV}{D:TV→Res α}(h:RefG id o r)(hd:∀ x y,D x = .ok y→x=f y)(hx:∀ x c,D x ≠ .exc c):RefG f o (r.bind D):=by
 cases r with
 | ok x =>
  have h:o = .ok x:=h
  show RefG f o (D x)
  cases hD:D x with
  | ok y=>rw [h,hd x y hD]; exact rfl
  | exc c=>exact absurd hD (hx x c)
  | bad=>exact trivial
 | exc c=>exact h
 | bad=>exact trivial
theorem rDecI{A:Res TV}(h:RefG id (a Γ) A):RefG (tv .fz kI) (a Γ) (A.bind decI):=h.dec (by
 rintro ⟨t,p⟩ y h
 cases t <;> cases p <;> cases h
 rfl) (by
 rintro ⟨t,p⟩ c h
 cases t <;> cases p <;> cases h)
theorem rDecS{A:Res TV}(h:RefG id (a Γ) A):RefG (tv .fz kS) (a Γ) (A.bind decS):=h.dec (by
 rintro ⟨t,p⟩ y h
 cases t <;> cases p <;> cases h
 rfl) (by
 rintro ⟨t,p⟩ c h
 cases t <;> cases p <;> cases h)
theorem hx_un7(x:List α)(c:Nat):un7 x ≠ .exc c:=by intro h; unfold un7 at h; split at h <;> cases h
theorem hb_un7{P:List α→α×α×α×α×α×α×α→Prop}(h:∀ y:α×α×α×α×α×α×α,P [y.1,y.2.1,y.2.2.1,y.2.2.2.1,y.2.2.2.2.1,y.2.2.2.2.2.1,y.2.2.2.2.2.2] y)(x:List α)(y:α×α×α×α×α×α×α)(e:un7 x = .ok y):P x y:=by
 unfold un7 at e; split at e
 ·cases e; exact h (_,_,_,_,_,_,_)
 ·cases e
variable {EP:En→Prop} {Post:Out→β→Prop} {d rest:ST} {S:Res σ} {K:σ→Res β}
theorem gSeqJ{u:σ→κ→En}(h:RG EP (NxP fun s Γ'=>∃ g,Γ'=u s g) (d Γ) S)(q:∀ s g,RG EP Post (rest (u s g)) (K s)):RG EP Post (dSeq d rest Γ) (S.bind K) :=
 gSeq h fun s Γ' ⟨g,hg⟩=>by subst hg; exact q s g
end
end Vm
end
section
set_option linter.all false
set_option maxHeartbeats 1000000
set_option maxRecDepth 10000
namespace Vm
theorem tkLt_irr(x:Tk):tkLt x x=false:=by cases x <;> simp [tkLt]
theorem lexT_app:∀ (l a b:List Tk),lexT (l++a) (l++b)=lexT a b
 | [],_,_=>rfl
 | x :: l,a,b=>by rw [List.cons_append,List.cons_append,lexT,tkLt_irr,lexT_app l a b]; simp
class Ordk {α:Type} [DecidableEq α] (k:α→PV) where
 lt:α→α→Bool
 d:Nat
 tok:∀ a b l m,lexT (toks (k a)++l) (toks (k b)++m)=(lt a b || (decide (a=b) && lexT l m))
 irr:∀ a,lt a a=false
 al:∀ a b,alk (k a) (k b)=true
 sh:∀ n,d≤n→∀ a,shp n (k a)=true
 nn:∀ a,isNon (k a)=false
theorem ltv_k{α:Type}[DecidableEq α]{k:α→PV}[Ordk k](a b:α):ltv (k a) (k b)=Ordk.lt k a b:=by
 have:=Ordk.tok (k:=k) a b [] []
 rw [List.append_nil,List.append_nil] at this
 unfold ltv
 rw [this]
 have e:lexT [] []=false:=rfl
 rw [e,Bool.and_false,Bool.or_false]
instance:Ordk kI where
 lt:=fun a b=>decide (a < b)
 d:=0
 tok:=fun a b l m=>by
  simp only [kI,toks,List.cons_append,List.nil_append,lexT,tkLt]
  rw [Bool.eq_iff_iff]
  by_cases h:a < b
  ·simp [h]
  ·by_cases e:a=b
   ·simp [e]
   ·have:b < a:=by omega
    simp [h,e,this]
 irr:=fun a=>by simp
 al:=fun _ _=>rfl
 sh:=fun n _ a=>by cases n <;> rfl
 nn:=fun _=>rfl
instance:Ordk kS where
 lt:=fun a b=>decide (a < b)
 d:=0
 tok:=fun a b l m=>by
  simp only [kS,toks,List.cons_append,List.nil_append,lexT,tkLt]
  by_cases h:a < b
  ·simp [h]
  ·by_cases e:a=b
   ·simp [e,List.lt_irrefl]
   ·have:b < a:=by
     rcases List.le_iff_lt_or_eq.mp (List.not_lt.mp h) with z | z
     ·exact z
     ·exact absurd z.symm e
    simp [h,e,this]
 irr:=fun a=>by simp [List.lt_irrefl]
 al:=fun _ _=>rfl
 sh:=fun n _ a=>by cases n <;> rfl
 nn:=fun _=>rfl
section
variable {α β γ δ:Type} [DecidableEq α] [DecidableEq β] {a:α→PV} {b:β→PV}
instance [Ordk a] [Ordk b]:Ordk (kP2 a b) where
 lt:=fun x y=>Ordk.lt a x.1 y.1 || (decide (x.1=y.1) && Ordk.lt b x.2 y.2)
 d:=max (Ordk.d a) (Ordk.d b)+1
 tok:=fun x y l m=>by
  simp only [kP2,toks,toksL,List.cons_append,List.append_assoc,List.nil_append]
  have h1:lexT (Sum.inl 1 :: (toks (a x.1)++(Sum.inl 1 :: (toks (b x.2)++(Sum.inl 0 :: l))))) (Sum.inl 1 :: (toks (a y.1)++(Sum.inl 1 :: (toks (b y.2)++(Sum.inl 0 :: m)))))=lexT (toks (a x.1)++(Sum.inl 1 :: (toks (b x.2)++(Sum.inl 0 :: l)))) (toks (a y.1)++(Sum.inl 1 :: (toks (b y.2)++(Sum.inl 0 :: m)))):=lexT_app [Sum.inl 1] _ _
  rw [h1,Ordk.tok]
  have h2:lexT (Sum.inl 1 :: (toks (b x.2)++(Sum.inl 0 :: l))) (Sum.inl 1 :: (toks (b y.2)++(Sum.inl 0 :: m)))=lexT (toks (b x.2)++(Sum.inl 0 :: l)) (toks (b y.2)++(Sum.inl 0 :: m)):=lexT_app [Sum.inl 1] _ _
  rw [h2,Ordk.tok]
  have h3:lexT (Sum.inl 0 :: l) (Sum.inl 0 :: m)=lexT l m:=lexT_app [Sum.inl 0] _ _
  rw [h3]
  have e:decide (x=y)=(decide (x.1=y.1) && decide (x.2=y.2)):=by rw [Bool.eq_iff_iff]; simp [Prod.ext_iff]
  rw [e]
  cases Ordk.lt a x.1 y.1 <;> cases decide (x.1=y.1) <;> cases Ordk.lt b x.2 y.2 <;> cases decide (x.2=y.2) <;> simp
 irr:=fun x=>by simp [Ordk.irr]
 al:=fun x y=>by simp only [kP2,alk,alkL,Ordk.al,Bool.and_self]
 sh:=fun n h x=>by
  cases n with
  | zero=>omega
  | succ n=>simp only [kP2,shp,shpL,Ordk.sh (k:=a) n (by omega),Ordk.sh (k:=b) n (by omega),Bool.and_true]
 nn:=fun _=>rfl
def ltL(lt:α→α→Bool):List α→List α→Bool
 | [],[]=>false
 | [],_ :: _=>true
 | _ :: _,[]=>false
 | x :: xs,y :: ys=>lt x y || (decide (x=y) && ltL lt xs ys)
theorem ltL_irr{lt:α→α→Bool}(h:∀ a,lt a a=false):∀ l,ltL lt l l=false
 | []=>rfl
 | x :: l=>by rw [ltL,h,ltL_irr h l]; simp
theorem tokL[Ordk a]:∀ (x y:List α) (l m:List Tk),lexT (toksL (x.map a)++l) (toksL (y.map a)++m)=(ltL (Ordk.lt a) x y || (decide (x=y) && lexT l m))
 | [],[],l,m=>by
  have:lexT (Sum.inl 0 :: l) (Sum.inl 0 :: m)=lexT l m:=lexT_app [Sum.inl 0] _ _
  simp [toksL,ltL,this]
 | [],y :: ys,l,m=>by simp [toksL,ltL,lexT,tkLt]
 | x :: xs,[],l,m=>by simp [toksL,ltL,lexT,tkLt]
 | x :: xs,y :: ys,l,m=>by
  simp only [List.map_cons,toksL,List.cons_append,List.append_assoc]
  have h1:lexT (Sum.inl 1 :: (toks (a x)++(toksL (xs.map a)++l))) (Sum.inl 1 :: (toks (a y)++(toksL (ys.map a)++m)))=lexT (toks (a x)++(toksL (xs.map a)++l)) (toks (a y)++(toksL (ys.map a)++m)):=lexT_app [Sum.inl 1] _ _
  rw [h1,Ordk.tok,tokL xs ys l m,ltL]
  have e:decide (x :: xs=y :: ys)=(decide (x=y) && decide (xs=ys)):=by rw [Bool.eq_iff_iff]; simp
  rw [e]
  cases Ordk.lt a x y <;> cases decide (x=y) <;> cases ltL (Ordk.lt a) xs ys <;> cases decide (xs=ys) <;> simp
theorem alkL_map[Ordk a]:∀ x y:List α,alkL (x.map a) (y.map a)=true
 | [],[]=>rfl
 | [],_ :: _=>rfl
 | _ :: _,[]=>rfl
 | x :: xs,y :: ys=>by rw [List.map_cons,List.map_cons,alkL,Ordk.al,alkL_map xs ys]; rfl
theorem shpL_ord[Ordk a](n:Nat)(h:Ordk.d a≤n):∀ l:List α,shpL n (l.map a)=true
 | []=>by rw [List.map_nil,shpL]
 | x :: l=>by rw [List.map_cons,shpL,Ordk.sh n h,shpL_ord n h l]; rfl
instance [Ordk a]:Ordk (kT a) where
 lt:=ltL (Ordk.lt a)
 d:=Ordk.d a+1
 tok:=fun x y l m=>by simp only [kT,toks]; exact tokL x y l m
 irr:=ltL_irr Ordk.irr
 al:=fun x y=>by simp only [kT,alk]; exact alkL_map x y
 sh:=fun n h x=>by
  cases n with
  | zero=>omega
  | succ n=>simp only [kT,shp]; exact shpL_ord n (by omega) x
 nn:=fun _=>rfl
theorem ordOk_map[Ordk a](hd:Ordk.d a≤50)(l:List α):ordOk (l.map a)=true:=by
 unfold ordOk
 rw [shpL_ord 50 hd,Bool.and_true,List.all_eq_true]
 intro p hp
 obtain ⟨x,_,rfl⟩:=List.mem_map.mp hp
 rw [Ordk.nn,Bool.not_false,Bool.true_and,List.all_eq_true]
 intro q hq
 obtain ⟨y,_,rfl⟩:=List.mem_map.mp hq
 exact Ordk.al _ _
def minB(lt:α→α→Bool):List α→Option α
 | []=>none
 | x :: xs=>some (xs.foldl (fun a y=>if lt y a then y else a) x)
theorem minP_map[Ordk a]:∀ (xs:List α) (x:α),minP (a x) (xs.map a)=a (xs.foldl (fun a' y=>if Ordk.lt a y a' then y else a') x)
 | [],x=>rfl
 | y :: ys,x=>by
  show minP (if ltv (a y) (a x) then a y else a x) (ys.map a)=_
  rw [ltv_k,List.foldl_cons]
  by_cases h:Ordk.lt a y x=true
  ·rw [if_pos h,if_pos h]; exact minP_map ys y
  ·rw [if_neg h,if_neg h]; exact minP_map ys x
end
def optR{α:Type}:Option α→Res α
 | some x=>.ok x
 | none=>.bad
section
variable {Γ:En} {α β γ δ ε ι σ τ ρ κ:Type} {a b c e:EX} {as:EXs} {A:Res α} {t u v:Tg} {ka:α→PV} {kb:β→PV} {kc:γ→PV} {kd:δ→PV}
def Itm(t:Tg)(k:α→PV)(ki:ι→PV)(el:α→List ι):Prop:=∀ x,itemsV (t,k x) = .ok ((el x).map ki)
theorem imL(hf:flat1 t=true:=by rfl):Itm t (kL ka) ka id:=fun x=>by simp only [kL,itemsV,hf,if_true]; rfl
theorem best_R{f:PV→List PV→PV}{B:List ι→Option ι}{ki:ι→PV}{el:α→List ι}[DecidableEq ι][Ordk ki](hd:Ordk.d ki≤50)(hi:Itm t ka ki el)(h0:B []=none)(hb:∀ x xs,∃ m,B (x :: xs)=some m∧f (ki x) (xs.map ki)=ki m)(x:α):RefG (tv .fz ki) (bestV f (t,ka x)) (optR (B (el x))):=by
 unfold bestV
 rw [hi x,bind_ok]
 cases h:el x with
 | nil=>rw [h0]; exact trivial
 | cons y ys =>
  obtain ⟨m,h1,h2⟩:=hb y ys
  rw [h1]
  have ho:=ordOk_map (a:=ki) hd (y :: ys)
  simp only [List.map_cons] at ho ⊢
  rw [if_pos ho,h2]; exact rfl
theorem rMinG{ki:ι→PV}{el:α→List ι}[DecidableEq ι][Ordk ki](ha:RefG (tv t ka) (a Γ) A)(hi:Itm t ka ki el)(hd:Ordk.d ki≤50:=by decide):RefG (tv .fz ki) (eMinD a Γ) (A.bind fun x=>optR (minB (Ordk.lt ki) (el x))) :=
 ha.bind fun x=>best_R hd hi rfl (fun x xs=>⟨_,rfl,minP_map xs x⟩) x
theorem minI_B(l:List Int):minR l=optR (minB (Ordk.lt kI) l):=by
 unfold minR minI minB optR
 cases l with
 | nil=>rfl
 | cons x xs=>simp [Ordk.lt]
theorem rMinI{A:Res α}{el:α→List Int}(ha:RefG (tv t ka) (a Γ) A)(hi:Itm t ka kI el):RefG (tv .fz kI) (eMinD a Γ) (A.bind fun x=>minR (el x)):=by
 have:=rMinG ha hi
 simp only [← minI_B] at this
 exact this
def minDR(l:List Int)(d:Int):Int:=(minI l).getD d
theorem bestD_R{f:PV→List PV→PV}{B:List Int→Option Int}{el:α→List Int}(hi:Itm t ka kI el)(h0:B []=none)(hb:∀ x xs,∃ m,B (x :: xs)=some m∧f (kI x) (xs.map kI)=kI m)(x:α)(d:Int):RefG (tv .fz kI) (bestDV f (t,ka x) (.int d)) (.ok ((B (el x)).getD d)):=by
 unfold bestDV
 rw [hi x,bind_ok]
 cases h:el x with
 | nil=>rw [h0]; exact rfl
 | cons y ys =>
  obtain ⟨m,h1,h2⟩:=hb y ys
  rw [h1]
  have ho:=ordOk_map (a:=kI) (by decide) (y :: ys)
  simp only [List.map_cons] at ho ⊢
  rw [if_pos ho,h2]; exact rfl
theorem rMinDI{A:Res α}{B:Res Int}{el:α→List Int}(ha:RefG (tv t ka) (a Γ) A)(hb:RefG (tv u kI) (b Γ) B)(hi:Itm t ka kI el):RefG (tv .fz kI) (eMinDf a b Γ) (A.bind fun x=>B.bind fun d=>.ok (minDR (el x) d)) :=
 ha.bind fun x=>hb.bind fun d=>bestD_R (B:=minI) hi rfl (fun x xs=>⟨_,rfl,by rw [minP_map]; simp [Ordk.lt]⟩) x d
def sortB(lt:α→α→Bool)(l:List α):List α:=l.mergeSort fun a b=>!lt b a
theorem sortP_map[DecidableEq α][Ordk ka](l:List α):sortP (l.map ka)=(sortB (Ordk.lt ka) l).map ka:=by
 unfold sortP sortB
 rw [List.map_mergeSort]
 intro x _ y _
 rw [ltv_k]
class Srk (k:α→PV):Prop where
 s:(∀ a,∃ x r,k a = .tup (x :: r)) ∨ ∀ a x,k a ≠ .tup x
instance:Srk kI:=⟨.inr fun a x h=>by cases h⟩
instance:Srk kS:=⟨.inr fun a x h=>by cases h⟩
instance:Srk (kP2 ka kb):=⟨.inl fun a=>⟨_,_,rfl⟩⟩
theorem srtOk_map[DecidableEq α][Ordk ka][Srk ka](hd:Ordk.d ka≤50)(l:List α):srtOk (l.map ka)=true:=by
 unfold srtOk
 rw [ordOk_map hd,Bool.true_and,Bool.or_eq_true,List.all_eq_true,List.all_eq_true]
 rcases (Srk.s (k:=ka)) with h | h
 ·left
  intro p hp
  obtain ⟨x,_,rfl⟩:=List.mem_map.mp hp
  obtain ⟨y,r,e⟩:=h x
  rw [e]
 ·right
  intro p hp
  obtain ⟨x,_,rfl⟩:=List.mem_map.mp hp
  have:=h x
  cases e:ka x <;> first | rfl | exact absurd e (this _)
def sortR(lt:α→α→Bool)(l:List α):Res (List α):=if l.length≤16777216 then .ok (sortB lt l) else .bad
def sortTR[DecidableEq α](lt:List α→List α→Bool)(l:List (List α)):Res (List (List α)):=if l.length≤16777216∧l.all (fun x=>!x.isEmpty) then .ok (sortB lt l) else .bad
theorem rSortT[DecidableEq α][Ordk ka]{A:Res (List (List α))}(ha:RefG (tv t (kL (kT ka))) (a Γ) A)(hd:Ordk.d (kT ka)≤50:=by decide)(hf:flat1 t=true:=by rfl):RefG (tv (.ow 1) (kL (kT ka))) (eSorted a Γ) (A.bind fun x=>sortTR (Ordk.lt (kT ka)) x):=ha.bind fun x=>by
 unfold sortTR
 by_cases h:x.length≤16777216∧x.all (fun x=>!x.isEmpty)=true
 ·rw [if_pos h]
  show RefG _ (if flat1 t && srtOk (x.map (kT ka)) && decide ((x.map (kT ka)).length≤16777216) then _ else _) _
  have hs:srtOk (x.map (kT ka))=true:=by
   unfold srtOk
   rw [ordOk_map hd,Bool.true_and,Bool.or_eq_true,List.all_eq_true]
   left
   intro p hp
   obtain ⟨y,hy,rfl⟩:=List.mem_map.mp hp
   have:=List.all_eq_true.mp h.2 y hy
   cases y with
   | nil=>cases this
   | cons z r=>rfl
  rw [hf,hs,if_pos (by simpa using h.1),sortP_map]; exact rfl
 ·rw [if_neg h]; exact trivial
theorem rRevT{A:Res (List α)}(ha:RefG (tv t (kT ka)) (a Γ) A):RefG (tv .fz (kT ka)) (eRevS a Γ) (A.bind fun x=>.ok x.reverse):=ha.bind fun x=>by
 show (Res.ok (.fz,.tup (x.map ka).reverse):Res TV)=_
 simp [kT]
def stepI(i j c:Int):List Int:=(List.range (stepN i j c)).map fun (k:Nat)=>i+(k:Int) * c
def rng3R(i j c:Int):Res (List Int):=if 0 < c∧c < 1073741824∧0≤i∧i < 1073741824∧0≤j∧j < 1073741824 then .ok (stepI i j c) else .bad
theorem iRng3{A B C:Res Int}(ha:RefG (tv t kI) (a Γ) A)(hb:RefG (tv u kI) (b Γ) B)(hc:RefG (tv v kI) (c Γ) C):RefG (itv true (tv .fz kI)) (jRange3 a b c Γ) (A.bind fun x=>B.bind fun y=>C.bind fun z=>rng3R x y z) :=
 ha.bind fun i=>hb.bind fun j=>hc.bind fun k=>by
  unfold rng3R
  by_cases h:0 < k∧k < 1073741824∧0≤i∧i < 1073741824∧0≤j∧j < 1073741824
  ·rw [if_pos h]
   show RefG _ (if 0 < k∧k < 1073741824∧0≤i∧i < 1073741824∧0≤j∧j < 1073741824 then _ else _) _
   rw [if_pos h]
   simp [RefG,itv,tv,stepL,stepI,Function.comp_def]
  ·rw [if_neg h]; exact trivial
end
def asB:Res TV→Res Bool
 | .ok (.fz,.bl b)=>.ok b
 | .exc c=>.exc c
 | _=>.bad
theorem RefG.asB{o:Res TV}:RefG (tv .fz kB) o (asB o):=by
 unfold Vm.asB
 split
 ·exact rfl
 ·exact rfl
 ·exact trivial
section
variable {Γ:En} {a b:EX} {E E2:Res TV}
@[simp] def isiD (s:String) (x:TV):Res TV:=if isExo x.2 then .bad else .ok (tv .fz kB (kindIs s x.2))
end
end Vm
end
section
set_option linter.all false
set_option maxHeartbeats 1000000
namespace Vm
def repT(n:Nat)(k:Int):Bool:=decide (k≤1000) && decide (-1000≤k) && decide (n≤1000)
@[simp] def mulV2 (x y:TV):Res TV:=match x.2,y.2 with
 | .lst a,.int k=>if flat1 x.1 && repOk a.length k then .ok (.ow 1,.lst (List.replicate k.toNat a).flatten) else .bad
 | .tup a,.int k=>if repT a.length k then .ok (.fz,.tup (List.replicate k.toNat a).flatten) else .bad
 | p,q=>(opMul p q).bind fzv
@[simp] def eMul2 (a b:EX):EX:=fun Γ=>(a Γ).bind fun x=>(b Γ).bind fun y=>mulV2 x y
end Vm
end
section
set_option linter.all false
set_option maxHeartbeats 1000000
set_option maxRecDepth 10000
namespace Vm
section
variable {Γ:En} {α:Type} {a b:EX} {t u:Tg} {ka:α→PV}
theorem rMul2{A B:Res Int}(ha:RefG (tv t kI) (a Γ) A)(hb:RefG (tv u kI) (b Γ) B):RefG (tv .fz kI) (eMul2 a b Γ) (A.bind fun x=>B.bind fun y=>mulR x y) :=
 ha.bind fun x=>hb.bind fun y=>by
  unfold mulR; cases h:mulOk x y with
  | true=>simp [mulV2,h,RefG]
  | false=>exact trivial
end
end Vm
end
section
set_option linter.all false
set_option maxHeartbeats 1000000
namespace Vm
@[simp] def opShr:PV→PV→Res PV
 | .int i,.int j=>if 0≤j∧j≤1000 then .ok (.int (i / 2 ^ j.toNat)) else .bad
 | _,_=>.bad
@[simp] def opBit:PV→PV→Res PV
 | .int i,.int j=>if 0≤i∧0≤j then .ok (.int ((i.toNat &&& j.toNat:Nat):Int)) else .bad
 | _,_=>.bad
end Vm
end
section
set_option linter.all false
set_option maxHeartbeats 1000000
namespace Vm
def takesC(cs:List (Nat×Bool))(c:Nat):Option Bool:=(cs.find? fun x=>x.1 == c).map (·.2)
@[simp] def dTry1 (cs:List (Nat×Bool)) (b h:ST):ST:=fun Γ=>match b Γ with
 | .exc c Γ'=>match takesC cs c with
  | some true=>match h Γ' with
   | .exc _ _=>.bad
   | o=>o
  | some false=>.exc c Γ'
  | none=>.bad
 | o=>o
end Vm
end
section
set_option linter.all false
set_option maxHeartbeats 1000000
set_option maxRecDepth 10000
namespace Vm
section
variable {Γ:En} {a b:EX} {t u:Tg}
end
end Vm
end
section
set_option linter.all false
set_option maxHeartbeats 1000000
set_option maxRecDepth 10000
namespace Vm
end Vm
end
section
set_option linter.all false
set_option maxHeartbeats 1000000
set_option maxRecDepth 10000
namespace Vm
@[simp] theorem bind_ite {α β:Type} (c:Bool) (x y:Res α) (f:α→Res β):(if c then x else y).bind f=if c then x.bind f else y.bind f:=by cases c <;> rfl
@[simp] theorem then_nx' {σ ρ β:Type} (s:σ) (r:ρ→Res β) (k:σ→Res β):(Ctl.nx s).then r k=k s:=rfl
@[simp] theorem then_bk' {σ ρ β:Type} (s:σ) (r:ρ→Res β) (k:σ→Res β):(Ctl.bk s).then r k=k s:=rfl
@[simp] theorem then_rt' {σ ρ β:Type} (x:ρ) (r:ρ→Res β) (k:σ→Res β):(Ctl.rt x:Ctl σ ρ).then r k=r x:=rfl
@[simp] theorem noExc_ok {α:Type} (a:α):noExc (Res.ok a) = .ok a:=rfl
@[simp] theorem signs_length (l:List Nat):(signs l).length=l.length:=by simp [signs]
def gt{α:Type}[Inhabited α](l:List α)(i:Int):α:=l.getD i.toNat default
theorem gt_mem{α:Type}[Inhabited α]{l:List α}{i:Int}(h1:i.toNat < l.length):gt l i∈l:=by
 unfold gt; rw [List.getD,List.getElem?_eq_getElem h1]; exact List.getElem_mem h1
theorem ixR_gt{α:Type}[Inhabited α]{l:List α}{i:Int}(h0:0≤i)(h1:i < l.length):ixR l i = .ok (gt l i):=by
 unfold ixR
 rw [vAt_int h0 h1]
 have:i.toNat < l.length:=by omega
 simp [gt,List.getD,this]
theorem ixR_last{α:Type}[Inhabited α]{l:List α}(h:l ≠ []):ixR l (-1) = .ok (l.getLast h):=by
 unfold ixR vAt vIxN
 have:0 < l.length:=List.length_pos_iff.mpr h
 rw [if_neg (by omega),if_pos (by omega)]
 have e:((-1:Int)+(l.length:Int)).toNat=l.length - 1:=by omega
 rw [e,Option.bind_some,← List.getLast?_eq_getElem?,List.getLast?_eq_some_getLast h]
def rngN(n:Nat):List Int:=(List.range n).map fun (k:Nat)=>(k:Int)
@[simp] theorem rngN_length (n:Nat):(rngN n).length=n:=by simp [rngN]
theorem rngI0(n:Int):rngI 0 n=rngN n.toNat:=by unfold rngI rngN; rw [Int.sub_zero]; exact List.map_congr_left fun k _=>by omega
theorem mem_rngN{n:Nat}{x:Int}:x∈rngN n ↔ 0≤x∧x < n:=by
 unfold rngN
 rw [List.mem_map]
 constructor
 ·rintro ⟨k,hk,rfl⟩
  have:k < n:=by simpa using hk
  omega
 ·rintro ⟨a,b⟩
  exact ⟨x.toNat,by simp; omega,by omega⟩
theorem rngN_get{n i:Nat}{x:Int}(h:(rngN n)[i]? = some x):x=i∧i < n:=by
 unfold rngN at h
 rw [List.getElem?_map] at h
 have hi:i < n:=by
  cases e:(List.range n)[i]? with
  | none=>rw [e] at h; cases h
  | some k=>simpa using (List.getElem?_eq_some_iff.mp e).1
 rw [List.getElem?_range hi] at h
 exact ⟨by simpa using h.symm,hi⟩
theorem rngR_nat{n:Nat}(h:n≤1000000000):rngR (n:Int) = .ok (rngN n):=by
 unfold rngR
 rw [if_pos (rngOk_of (by omega) (by omega)),rngI0]; rfl
theorem rngR_int{n:Int}(h0:0≤n)(h:n≤1000000000):rngR n = .ok (rngN n.toNat):=by
 unfold rngR
 rw [if_pos (rngOk_of (by omega) (by omega)),rngI0]
theorem rrngR_nat{n:Nat}(h:n≤1000000000):rrngR (n:Int) = .ok (rngN n).reverse:=by
 unfold rrngR
 rw [if_pos (rngOk_of (by omega) (by omega)),rngI0]; rfl
theorem mem_rngI{lo hi x:Int}:x∈rngI lo hi ↔ lo≤x∧x < hi:=by
 unfold rngI
 rw [List.mem_map]
 constructor
 ·rintro ⟨k,hk,rfl⟩
  have:k < (hi - lo).toNat:=by simpa using hk
  omega
 ·rintro ⟨a,b⟩
  exact ⟨(x - lo).toNat,by simp; omega,by omega⟩
@[simp] theorem rngI_length (lo hi:Int):(rngI lo hi).length=(hi - lo).toNat:=by simp [rngI]
theorem rng2R_ok{lo hi:Int}(h0:-1000000000≤lo)(h1:lo≤1000000000)(h2:-1000000000≤hi)(h3:hi≤1000000000):rng2R lo hi = .ok (rngI lo hi):=by
 unfold rng2R
 rw [rngOk_of (by omega) (by omega),rngOk_of (by omega) (by omega)]; rfl
theorem appR_ok{α:Type}{l:List α}{x:α}(h:l.length < 16777216):appR l x = .ok (l++[x]):=if_pos h
theorem catR_ok{α:Type}{l m:List α}(h:l.length+m.length≤16777216):catR l m = .ok (l++m):=if_pos h
theorem szR_ok{α:Type}{l:List α}(h:l.length≤16777216):szR l = .ok l:=if_pos h
theorem setR_ok{α:Type}{l:List α}{i:Int}{x:α}(h0:0≤i)(h1:i < l.length):setR l i x = .ok (l.set i.toNat x):=by
 unfold setR vIxN; rw [if_pos h0,if_pos h1]
theorem modR_ok{i j:Int}(h:0 < j):modR i j = .ok (i % j):=if_pos h
theorem fdivR_ok{i j:Int}(h:0 < j)(h2:j < 2 ^ 200):fdivR i j = .ok (i / j):=by
 unfold fdivR
 rw [if_pos]
 have:=log2_lt_pow (a:=j.natAbs) (n:=200) (by omega)
 exact ⟨h,by omega⟩
theorem mulR_ok{i j:Int}{m n:Nat}(ha:i.natAbs < 2 ^ m)(hb:j.natAbs < 2 ^ n)(h:m+n < 50000000):mulR i j = .ok (i * j):=if_pos (mulOk_of ha hb h)
theorem mulR_big{i j:Int}{n:Nat}(ha:i.natAbs.log2≤2000000)(hb:j.natAbs < 2 ^ n)(h:n < 40000000):mulR i j = .ok (i * j):=if_pos (by
 have:=log2_lt_pow hb
 exact decide_eq_true (by omega))
@[simp] theorem getO_s {α:Type} (a:α):getO (some a) = .ok a:=rfl
theorem mapR_ok{ι α:Type}{f:ι→Res α}{g:ι→α}:∀ {l:List ι},(∀ x∈l,f x = .ok (g x))→mapR f l = .ok (l.map g)
 | [],_=>rfl
 | x :: l,h=>by rw [mapR,h x (by simp),bind_ok,mapR_ok fun y hy=>h y (by simp [hy])]; rfl
theorem mapR_sz{ι α:Type}{f:ι→Res α}(g:ι→α){l:List ι}(h:∀ x∈l,f x = .ok (g x))(hz:l.length≤16777216):(noExc (mapR f l)).bind szR = .ok (l.map g):=by
 rw [mapR_ok h]; exact szR_ok (by simpa using hz)
theorem mapR_ex{ι α:Type}{f:ι→Res α}(G:ι→α→Prop):∀ {l:List ι},(∀ x∈l,∃ y,f x = .ok y∧G x y)→∃ ys,mapR f l = .ok ys∧ys.length=l.length∧∀ (i:Nat) (x:ι),l[i]? = some x→∃ y,ys[i]? = some y∧G x y
 | [],_=>⟨[],rfl,rfl,fun i x h=>by simp at h⟩
 | x :: l,h=>by
  obtain ⟨y,h1,h2⟩:=h x (by simp)
  obtain ⟨ys,h3,h4,h5⟩:=mapR_ex G (l:=l) fun z hz=>h z (by simp [hz])
  refine ⟨y :: ys,by rw [mapR,h1,bind_ok,h3]; rfl,by simp [h4],fun i z hz=>?_⟩
  cases i with
  | zero=>simp at hz; subst hz; exact ⟨y,rfl,h2⟩
  | succ i=>exact h5 i z (by simpa using hz)
theorem mapR_all{ι α:Type}{f:ι→Res α}(G:α→Prop){l:List ι}(h:∀ x∈l,∃ y,f x = .ok y∧G y)(hz:l.length≤16777216):∃ ys,(noExc (mapR f l)).bind szR = .ok ys∧ys.length=l.length∧∀ y∈ys,G y:=by
 obtain ⟨ys,h1,h2,h3⟩:=mapR_ex (fun _ y=>G y) h
 refine ⟨ys,by rw [h1]; exact szR_ok (by omega),h2,fun y hy=>?_⟩
 obtain ⟨i,hi⟩:=List.getElem?_of_mem hy
 have hlt:i < l.length:=by rw [← h2]; exact (List.getElem?_eq_some_iff.mp hi).1
 obtain ⟨z,h4,h5⟩:=h3 i _ (List.getElem?_eq_getElem hlt)
 rw [hi] at h4; cases h4; exact h5
theorem lcR_ok{ι α:Type}{c:ι→Res Bool}{f:ι→Res α}{p:ι→Bool}{g:ι→α}:∀ {l:List ι},(∀ x∈l,c x = .ok (p x)∧(p x=true→f x = .ok (g x)))→lcR c f l = .ok ((l.filter p).map g)
 | [],_=>rfl
 | x :: l,h=>by
  obtain ⟨h1,h2⟩:=h x (by simp)
  have ih:=lcR_ok (l:=l) fun y hy=>h y (by simp [hy])
  rw [lcR,h1,bind_ok]
  cases e:p x with
  | true=>rw [if_pos rfl,h2 e,bind_ok,ih,List.filter_cons_of_pos e]; rfl
  | false=>rw [if_neg Bool.false_ne_true,ih,List.filter_cons_of_neg (by rw [e]; simp)]
theorem lcR_sz{ι α:Type}{c:ι→Res Bool}{f:ι→Res α}(p:ι→Bool)(g:ι→α){l:List ι}(h:∀ x∈l,c x = .ok (p x)∧(p x=true→f x = .ok (g x)))(hz:l.length≤16777216):(noExc (lcR c f l)).bind szR = .ok ((l.filter p).map g):=by
 rw [lcR_ok h]
 refine szR_ok ?_
 rw [List.length_map]
 exact Nat.le_trans (List.length_filter_le _ _) hz
theorem forS_inv{σ ι:Type}{F:σ→ι→Res σ}(I:Nat→σ→Prop)(l:List ι)(s:σ)(h0:I 0 s)(hs:∀ i x s,l[i]? = some x→I i s→∃ s',F s x = .ok s'∧I (i+1) s'):∃ s',forS F l s = .ok s'∧I l.length s':=by
 have go:∀ (m:List ι) (k:Nat) (s:σ),I k s→(∀ j,m[j]? = l[k+j]?)→∃ s',forS F m s = .ok s'∧I (k+m.length) s':=by
  intro m
  induction m with
  | nil=>intro k s hi _; exact ⟨s,rfl,hi⟩
  | cons y m ih =>
   intro k s hi hm
   obtain ⟨s',h1,h2⟩:=hs k y s (by have:=hm 0; simpa using this.symm) hi
   obtain ⟨s2,h3,h4⟩:=ih (k+1) s' h2 fun j=>by have:=hm (j+1); rw [List.getElem?_cons_succ] at this; rw [this]; congr 1; omega
   refine ⟨s2,by rw [forS,h1]; exact h3,?_⟩
   rw [List.length_cons,show k+(m.length+1)=k+1+m.length by omega]
   exact h4
 obtain ⟨s',h1,h2⟩:=go l 0 s h0 fun j=>by rw [Nat.zero_add]
 exact ⟨s',h1,by rw [Nat.zero_add] at h2; exact h2⟩
theorem forT_all{ρ ι:Type}{F:Unit→ι→Res (Ctl Unit ρ)}:∀ {l:List ι},(∀ x∈l,F () x = .ok (.nx ()))→forT F l () = .ok (.nx ())
 | [],_=>rfl
 | x :: l,h=>by rw [forT,h x (by simp),bind_ok]; exact forT_all fun y hy=>h y (by simp [hy])
theorem foldl_minI:∀ (l:List Int) (a:Int),(l.foldl (fun a b=>if b < a then b else a) a∈a :: l)∧∀ x∈a :: l,l.foldl (fun a b=>if b < a then b else a) a≤x:=by
 intro l
 induction l with
 | nil=>intro a; simp
 | cons b l ih =>
  intro a
  obtain ⟨h1,h2⟩:=ih (if b < a then b else a)
  rw [List.foldl_cons]
  refine ⟨?_,fun x hx=>?_⟩
  ·rcases List.mem_cons.mp h1 with e | e
   ·rw [e]
    split <;> simp
   ·exact List.mem_cons_of_mem _ (List.mem_cons_of_mem _ e)
  ·have h3:=h2 (if b < a then b else a) (by simp)
   have h4:(if b < a then b else a)≤a∧(if b < a then b else a)≤b:=by split <;> omega
   rcases List.mem_cons.mp hx with e | hx
   ·rw [e]; exact Int.le_trans h3 h4.1
   ·rcases List.mem_cons.mp hx with e | hx
    ·rw [e]; exact Int.le_trans h3 h4.2
    ·exact h2 x (by simp [hx])
theorem minI_ex{l:List Int}(h:l ≠ []):∃ m,minI l=some m∧m∈l∧∀ x∈l,m≤x:=by
 cases l with
 | nil=>exact absurd rfl h
 | cons a l=>exact ⟨_,rfl,(foldl_minI l a).1,(foldl_minI l a).2⟩
theorem minI_is'{l:List Int}{x:Int}(h1:x∈l)(h2:∀ y∈l,x≤y):minI l=some x:=by
 obtain ⟨m,a,b,c⟩:=minI_ex (l:=l) (fun e=>by rw [e] at h1; cases h1)
 have:=c x h1
 have:=h2 m b
 rw [a]
 congr 1
 omega
def least(l:List Int):Int:=(minI l).getD 0
theorem least_mem{l:List Int}(h:l ≠ []):least l∈l:=by
 obtain ⟨m,h1,h2,_⟩:=minI_ex h
 unfold least; rw [h1]; exact h2
theorem least_le{l:List Int}{x:Int}(h:x∈l):least l≤x:=by
 obtain ⟨m,h1,_,h2⟩:=minI_ex (l:=l) (fun e=>by rw [e] at h; cases h)
 unfold least; rw [h1]; exact h2 x h
@[simp] theorem enumT_length {α:Type} (l:List α):(enumT l).length=l.length:=by simp [enumT]
theorem gt_map{α β:Type}[Inhabited α][Inhabited β](f:α→β){l:List α}{i:Int}(h:i.toNat < l.length):gt (l.map f) i=f (gt l i):=by
 unfold gt
 simp [List.getD,h]
theorem gt_rngN{n:Nat}{i:Int}(h0:0≤i)(h:i < n):gt (rngN n) i=i:=by
 unfold gt rngN
 have:i.toNat < n:=by omega
 simp [List.getD,this]
 omega
end Vm
end
section
set_option Elab.async false
set_option linter.all false
set_option maxRecDepth 100000
set_option maxHeartbeats 1000000
namespace L2
open PySem PySem.Spec PyProof.Rows
theorem okD {P:Program} {w:World} {H:Hp} {h:Heap} {a:Addr} {its:List Value} {xs:List V} (hz:xs.length≤sizeLine) (r:Vals xs its) (e:h.get? a=some { cls:=.type "tuple",data:=.seq its.toArray }) :
  ObjOk P w H h a (.frz { cls:=.type "tuple",data:=.seq its.toArray } (.tup xs)):=⟨e,hz,its,r,_,e,rfl,_,rfl⟩
def NewT(xs:List V)(H:Hp)(Q:VK):Prop:=∀ (p:Addr) (o:Obj),H p=none→o.dict=none→Q (.ref p) (upd H p (.frz o (.tup xs)))
section
variable {X:Cx}
theorem newD{pins:List (Addr×Obj)}{σ:St}{H:Hp}{s:Shared}{Q:VK}{xs:List V}{its:List Value}(t':Nat)(I:Inv X pins σ H s)(hz:xs.length≤sizeLine)(r:Vals xs its)(q:NewT xs H Q) :
  EP X pins σ Q (.ref s.heap.objs.size) { s with heap:=s.heap.push { cls:=.type "tuple",data:=.seq its.toArray },toks:=t' } :=
 ⟨.ref s.heap.objs.size,upd H s.heap.objs.size (.frz { cls:=.type "tuple",data:=.seq its.toArray } (.tup xs)),I.laid (t':=t') (fun b u e=>Heap.get?_push_of_some _ e) (Nat.le_refl _) (okD hz r (Heap.get?_push_size _ rfl)),rfl,q _ _ (I.hok.fresh (Nat.le_refl _)) rfl⟩
def tTupD(t:TA):TE:=fun σ H Q=>t σ H fun xs H1=>xs.length≤sizeLine∧NewT xs H1 Q
theorem pe_tupD{es:List Expr}{t:TA}{pos:Pos}{x1}(h:PA X es t):PE X (.Tuple es x1 pos) (tTupD t):=by
 refine ⟨fun pins s σ H Q I hq=>?_⟩
 refine wpAny_Tuple_spliced (thn (h.run pos pins s σ H _ I hq) fun us s1 ⟨xs,H1,I1,r,z,q⟩=>⟨by rw [← r.length]; exact z,?_⟩)
 exact newD s1.toks I1 z r q
theorem call_tupleD:CallR X (.type "tuple") (fun xs H Q=>∃ p ys,xs=[.ref p]∧((SqL X.K H p ys∧NewT ys H Q) ∨ (SqT X.K H p ys∧Q (.ref p) H))):=by
 intro pins s σ H xs us Q I r h
 obtain ⟨p,ys,rfl,h⟩:=h
 obtain ⟨u,rfl,rx⟩:=vals1 r
 cases rx
 rcases h with ⟨hq,q⟩ | ⟨hq,q⟩
 ·obtain ⟨its,r',pl,hz⟩:=I.list hq
  have hlen:=r'.length
  refine call_tuple_list pl.isList (fun h' kp=>?_) (by simp only [List.size_toArray] <;> omega)
  have I1:Inv X pins σ H { s with heap:=h' }:=I.kept (t':=s.toks) kp
  have I2:Inv X pins σ (upd H h'.objs.size (.frz { cls:=.type "tuple",data:=.seq its.toArray } (.tup ys))) { s with heap:=h'.push { cls:=.type "tuple",data:=.seq its.toArray } } :=
   I1.laid (t':=s.toks) (fun b o e=>Heap.get?_push_of_some _ e) (Nat.le_refl _) (okD hz r' (Heap.get?_push_size _ rfl))
  exact ⟨.ref h'.objs.size,_,I2,rfl,q _ _ (I1.hok.fresh (Nat.le_refl _)) rfl⟩
 ·obtain ⟨its,r',pl,hz⟩:=I.tuple hq
  exact call_tuple_same pl ⟨.ref p,H,I,rfl,q⟩
def rSlD(K:PySem.W.Frag):V→Option Int→Option Int→Hp→VK→Prop:=fun x lo hi H Q=>∃ a xs,x = .ref a∧SqT K H a xs ∧
 (HT.sIx xs.length 0 lo=0∧HT.sIx xs.length xs.length hi=xs.length→Q (.ref a) H)∧(¬ (HT.sIx xs.length 0 lo=0∧HT.sIx xs.length xs.length hi=xs.length)→NewT (cutV xs lo hi) H Q)
theorem sl_tupD:SlR X (rSlD X.K):=by
 intro pins s σ H x v vl vu lo hi sl Q I rx hs pl pu h
 obtain ⟨a,xs,rfl,hx,q1,q2⟩:=h
 cases rx
 obtain ⟨its,r,ht,hz⟩:=I.tuple hx
 have hlen:its.toArray.size=xs.length:=by rw [List.size_toArray]; exact r.length.symm
 refine ⟨"tuple",_,PyProof.Rows.slot_tuple_getitem.lookup,ht.typeIs,?_⟩
 by_cases hw:HT.sIx xs.length 0 lo=0∧HT.sIx xs.length xs.length hi=xs.length
 ·exact getItem_tuple_whole ht hs pl pu (by rw [hlen]; exact hw) ⟨.ref a,H,I,rfl,q1 hw⟩
 ·refine HT.getItem_tuple_cut ht hs pl pu (by rw [hlen]; exact hw) ?_ (by rw [hlen]; exact hz)
  rw [hlen]
  exact newD s.toks I (Nat.le_trans (cutV_length xs lo hi) hz) ((r.drop (HT.sIx xs.length 0 lo)).take (HT.sIx xs.length xs.length hi - HT.sIx xs.length 0 lo)) (q2 hw)
def rCatD(K:PySem.W.Frag):R2:=fun x y H Q=>∃ a b xs ys,x = .ref a∧y = .ref b∧SqT K H a xs∧SqT K H b ys∧xs.length+ys.length≤sizeLine ∧
 (xs=[]→Q (.ref b) H)∧(xs ≠ []→ys=[]→Q (.ref a) H)∧(xs ≠ []→ys ≠ []→NewT (xs++ys) H Q)
theorem op_catD:OpR X (binaryOp .Add) (rCatD X.K):=by
 intro pins s σ H x y v u Q I rx ry h
 obtain ⟨a,b,xs,ys,rfl,rfl,ha,hb,hz,q0,q1,q2⟩:=h
 cases rx
 cases ry
 obtain ⟨its,r1,p1,_⟩:=I.tuple ha
 obtain ⟨its2,r2,p2,_⟩:=I.tuple hb
 by_cases hx:xs=[]
 ·subst hx
  cases r1
  exact cat_tup0 p1 p2 ⟨.ref b,H,I,rfl,q0 rfl⟩
 ·refine HT.cat_tup p1 p2 (fun z=>hx (r1.nil_iff.mp z)) (fun z=>⟨.ref a,H,I,rfl,q1 hx (r2.nil_iff.mp z)⟩) (fun z=>?_) (by rw [← r1.length,← r2.length]; exact hz)
  exact newD s.toks I (by rw [List.length_append]; exact hz) (r1.append r2) (q2 hx (fun w=>z (r2.nil_iff.mpr w)))
def rRepD(K:PySem.W.Frag):R2:=fun x y H Q=>∃ l k xs,x = .ref l∧y = .int k∧SqT K H l xs∧xs ≠ []∧2≤k∧k≤1000∧xs.length≤1000∧NewT (List.replicate k.toNat xs).flatten H Q
theorem op_repD:OpR X (binaryOp .Mult) (rRepD X.K):=by
 intro pins s σ H x y v u Q I rx ry h
 obtain ⟨l,k,xs,rfl,rfl,hT,hne,h1,h2,hz,q⟩:=h
 cases rx
 obtain ⟨t,rfl⟩:=ry
 obtain ⟨its,r,⟨⟨cls,dd,data,sl⟩,ho,hc,n,hd⟩,hs⟩:=I.tuple hT
 simp only at hc hd
 subst hc hd
 have hle:its.length=xs.length:=r.length.symm
 have hn:its ≠ []:=fun e=>hne (by
  rw [e] at hle
  exact List.eq_nil_of_length_eq_zero hle.symm)
 have hi:its.toArray.isEmpty=false:=by
  cases its with
  | nil=>exact absurd rfl hn
  | cons a b=>rfl
 have hsz0:its.toArray.size=xs.length:=by rw [List.size_toArray,hle]
 have hm:((its.toArray.size:Nat):Int) * k≤1000000:=by
  rw [hsz0]
  have a1:((xs.length:Nat):Int) * k≤1000 * k:=Int.mul_le_mul_of_nonneg_right (by omega) (by omega)
  omega
 have flen:(List.replicate k.toNat its).flatten.length≤sizeLine:=by
  rw [PyProof.Rows.lm_len_rep_flat,hle,sizeLine_eq]
  have a1:k.toNat * xs.length≤1000 * 1000:=Nat.mul_le_mul (by omega) hz
  omega
 have c0:(decide (k < -(2 ^ 63)) || decide (k ≥ 2 ^ 63))=false:=by
  rw [decide_eq_false (by omega),decide_eq_false (by omega)] <;> rfl
 have c1:(its.toArray.isEmpty || k == 1)=false:=by
  rw [hi,Bool.false_or]
  exact beq_eq_false_iff_ne.mpr (by omega)
 have c2:(decide (k≤0) || its.toArray.isEmpty)=false:=by
  rw [hi,Bool.or_false]
  exact decide_eq_false (by omega)
 have c4:Builtin.Tuple.tupleTooMany (((its.toArray.size:Nat):Int) * k)=false:=by
  unfold Builtin.Tuple.tupleTooMany
  rw [sizeLine_eq]
  exact decide_eq_false (by omega)
 refine wpAny_binaryOp_repeat_ref (T:="tuple") (U:="int") (by decide) ⟨_,ho,rfl⟩ (fun s'=>typeIs_int s' k t) noFill_tuple_mul F.fills_int_mul F.slot_int_rmul repeat_tuple F.slot_int_index.lookup
  (call_meets F.slot_int_rmul (typeIs_int s k t) F.entry_int_rmul (F.args_int_rmul_2 _ _) (int_rmul_tuple k t l its.toArray n dd sl)
   ⟨ho,rfl,⟨_,ho,rfl⟩,call_meets F.slot_tuple_mul ⟨_,ho,rfl⟩ F.entry_tuple_mul (F.args_tuple_mul_2 _ _) (tuple_mulW l its.toArray n dd sl k t c0 c1 c2 (by omega) c4 (by rw [size_rep,List.size_toArray]; exact flen)) ⟨ho,?_⟩⟩)
 rw [size_rep]
 exact newD s.toks I (by rw [PyProof.Rows.lm_len_rep_flat,sizeLine_eq]; have a1:k.toNat * xs.length≤1000 * 1000:=Nat.mul_le_mul (by omega) hz; omega) (r.rep k.toNat) q
end
theorem tyD_is{X:Cx}{pins:List (Addr×Obj)}{σ:St}{H:Hp}{s:Shared}{a:Addr}{o:Obj}{xs:List V}(I:Inv X pins σ H s)(h:H a=some (.frz o (.tup xs)))(hd:o.dict=none) :
  s.TypeIs (.ref a) "tuple"∧∀ b,Value.ref a = .ref b→∃ ob,s.heap.get? b=some ob∧ob.dict=none:=by
 obtain ⟨e,_,its,_,o',e',hc,_⟩:=I.hok a _ h
 exact ⟨⟨o',e',hc⟩,fun b q=>by cases q; exact ⟨o,e,hd⟩⟩
end L2
end
section
set_option Elab.async false
set_option linter.all false
set_option maxRecDepth 100000
set_option maxHeartbeats 1000000
namespace Vl
open PySem L2 Vm PyProof.Rows
abbrev tq(t:Obj×List V):HO:=.frz t.1 (.tup t.2)
def TupAt(F:Hp)(a:Addr)(vs:List V):Prop:=∃ o:Obj,o.dict=none∧F a=some (tq (o,vs))
theorem TupAt.up{F G:Hp}{a:Addr}{vs:List V}(h:TupAt F a vs)(g:∀ a xs,F a=some (tq xs)→G a=some (tq xs)):TupAt G a vs:=let ⟨o,d,e⟩:=h; ⟨o,d,g _ _ e⟩
theorem TupAt.mono{F G:Hp}{a:Addr}{vs:List V}(g:Same F G)(h:TupAt F a vs):TupAt G a vs:=h.up fun _ _=>g _ _
theorem TupAt.sq{K:PySem.W.Frag}{F:Hp}{a:Addr}{vs:List V}(h:TupAt F a vs):SqT K F a vs:=let ⟨o,_,e⟩:=h; .inl (.inr ⟨o,e⟩)
theorem TupAt.new{F:Hp}{a:Addr}{vs:List V}{o:Obj}(d:o.dict=none):TupAt (upd F a (tq (o,vs))) a vs:=⟨o,d,upd_same⟩
theorem same_new{H:Hp}{p:Addr}{o:HO}(h:H p=none):Same H (upd H p o):=fun b x e=>by
 rw [upd_ne (ne_of_none e h)]; exact e
structure KK where
 fr:PySem.W.Frag
 P:Program
 w:World
 mg:Str→Option Value
instance:Coe KK PySem.W.Frag:=⟨KK.fr⟩
def noBoolV:Value→Bool
 | .bool _=>false
 | _=>true
def plIs(k:Leaf)(v:Value):Bool:=Leaf.isOf k v && noBoolV v
theorem plIs_leaf{k:Leaf}{v:Value}(h:plIs k v=true):Leaf.isOf k v=true:=by unfold plIs at h; rw [Bool.and_eq_true] at h; exact h.1
def plK(prog:Program)(w:World):KeyKind prog w Leaf where
 is:=plIs
 hash:=fun k=>k.key.hash w
 inj:=fun v a b ha hb=>(leafKind prog w).inj v a b (plIs_leaf ha) (plIs_leaf hb)
 byValue:=fun k v h=>(leafKind prog w).byValue k v (plIs_leaf h)
 pyHash:=fun hv h=>(leafKind prog w).pyHash (plIs_leaf hv) h
 eqBool:=fun hu hv h=>(leafKind prog w).eqBool (plIs_leaf hu) (plIs_leaf hv) h
 «strs»:=fun k x t v h=>by
  have e:=(leafKind prog w).strs k x t v (plIs_leaf h)
  have e:Leaf.isOf k v=v.isStr x:=e
  unfold plIs
  rw [e]
  cases v <;> first | rfl | exact Bool.and_true _
mutual
def keyG:PV→Bool
 | .non=>true
 | .int _=>true
 | .str l=>strG l
 | .tup l=>keyGL l
 | _=>false
def keyGL:List PV→Bool
 | []=>true
 | p :: ps=>keyG p && keyGL ps
end
mutual
def nkOf:PV→NestedKey
 | .int i=>.num i
 | .str l=>.text ⟨l.toArray⟩
 | .tup l=>.tup (nkOfL l)
 | _=>.none
def nkOfL:List PV→List NestedKey
 | []=>[]
 | p :: ps=>nkOf p :: nkOfL ps
end
mutual
def KeyV (F:Hp):NestedKey→V→Prop
 | .none,v=>v = .non
 | .num i,v=>v = .int i
 | .text x,v=>v = .str x
 | .tup l,v=>∃ a vs,v = .ref a∧TupAt F a vs∧KeyVs F l vs
def KeyVs (F:Hp):List NestedKey→List V→Prop
 | [],vs=>vs=[]
 | p :: ps,vs=>∃ v r,vs=v :: r∧KeyV F p v∧KeyVs F ps r
end
mutual
theorem KeyV.tups {F G:Hp} (g:∀ a xs,F a=some (tq xs)→G a=some (tq xs)):∀ (p:NestedKey) (v:V),KeyV F p v→KeyV G p v
 | .none,v,h=>h
 | .num _,v,h=>h
 | .text _,v,h=>h
 | .tup l,v,h=>by
  unfold KeyV at h ⊢
  obtain ⟨a,vs,h1,h2,h3⟩:=h
  exact ⟨a,vs,h1,h2.up g,KeyVs.tups g l vs h3⟩
theorem KeyVs.tups {F G:Hp} (g:∀ a xs,F a=some (tq xs)→G a=some (tq xs)):∀ (p:List NestedKey) (v:List V),KeyVs F p v→KeyVs G p v
 | [],v,h=>h
 | p :: ps,v,h=>by
  unfold KeyVs at h ⊢
  obtain ⟨u,r,h1,h2,h3⟩:=h
  exact ⟨u,r,h1,KeyV.tups g p u h2,KeyVs.tups g ps r h3⟩
end
def dHO(a:Addr)(o:Obj):HO:=.ext fun h=>h.get? a=some o
def LeafK(K:KK)(o:Obj)(nks:List NestedKey)(vs:List V):Prop:=∃ (kvs:List (Leaf×V)) (rs:List (Leaf×Value)) (es:Array DictEntry) (ep:Nat),o.ExactDict∧o.data = .dict es ep∧nks=kvs.map (fun p=>p.1.key)∧vs=kvs.map (·.2) ∧
 L2.KV kvs rs∧KeysOf (plK K.P K.w) es∧Pairs (plK K.P K.w) es.toList rs∧(rs.map (·.1)).Nodup∧kvs.length≤sizeLine
abbrev KN(F:Hp):List (NestedKey×V)→List (NestedKey×Addr×Value)→Prop:=Paired fun p q=>p.1=q.1∧KeyV F p.1 (.ref q.2.1)∧p.1.depth≤8∧RelV p.2 q.2.2
def TupK(K:KK)(F:Hp)(o:Obj)(nks:List NestedKey)(vs:List V):Prop:=∃ (kvs:List (NestedKey×V)) (xs:List (NestedKey×Addr×Value)) (es:Array DictEntry) (ep:Nat),o.ExactDict∧o.data = .dict es ep∧nks=kvs.map (·.1)∧vs=kvs.map (·.2) ∧
 KN F kvs xs∧es.toList=xs.map (entryOfKey (nestedKind K.P K.w))∧(xs.map (·.1)).Nodup∧kvs.length≤sizeLine
def DicK(K:KK)(F:Hp)(o:Obj)(nks:List NestedKey)(vs:List V):Prop:=LeafK K o nks vs ∨ TupK K F o nks vs
theorem DicK.tups{K:KK}{F G:Hp}{o:Obj}{nks:List NestedKey}{vs:List V}(g:∀ a xs,F a=some (tq xs)→G a=some (tq xs))(h:DicK K F o nks vs):DicK K G o nks vs:=by
 rcases h with h | ⟨kvs,xs,es,ep,h1,h2,h3,h4,h5,h6⟩
 ·exact .inl h
 ·exact .inr ⟨kvs,xs,es,ep,h1,h2,h3,h4,Paired.mapP h5 fun p q z=>⟨z.1,KeyV.tups g _ _ z.2.1,z.2.2⟩,h6⟩
theorem DicK.len{K:KK}{F:Hp}{o:Obj}{nks:List NestedKey}{vs:List V}(h:DicK K F o nks vs):nks.length=vs.length:=by
 rcases h with ⟨kvs,_,_,_,_,_,rfl,rfl,_⟩ | ⟨kvs,_,_,_,_,_,rfl,rfl,_⟩ <;> simp
def xName:Nat→Str
 | 0=>"VellumError"
 | 1=>"NoRow"
 | 2=>"NoPrices"
 | 3=>"NoSlips"
 | 4=>"NoNotes"
 | 5=>"NoLine"
 | 6=>"NoName"
 | 7=>"TwiceNamed"
 | _=>"TooMany"
def KK.xc(K:KK)(c:Nat):Value:=(K.mg (xName c)).getD .none
def fldN:List Str:=["rows_kept","days_kept","prices_now","fresh_now"]
def fldZ(vs:List V):List (Str×V):=fldN.zip vs
def excHO(oe:Obj):HO:=.frz oe (.ext fun _=>True)
def ExcO(K:KK)(c:Nat)(oe:Obj):Prop:=oe.cls=K.xc c∧oe.dict=none∧∃ vs,oe.data = .fields vs
mutual
def Rep (K:KK) (F:Hp):PV→V→Prop
 | .non,v=>v = .non
 | .bl b,v=>v = .bl b
 | .int i,v=>v = .int i
 | .str l,v=>v = .str ⟨l.toArray⟩∧strG l=true
 | .tup l,v=>∃ a vs,v = .ref a∧TupAt F a vs∧RepL K F l vs
 | .lst l,v=>∃ a vs,v = .ref a∧SqL K F a vs∧RepL K F l vs
 | .dic ks l,v=>∃ a o vs,v = .ref a∧F a=some (dHO a o)∧(a == sysModules)=false∧DicK K F o (ks.map nkOf) vs∧ks.all keyG=true∧RepL K F l vs
 | .exo 0 l,v=>∃ a Ch dx vs,v = .ref a∧F a=some (.ins Ch dx (fldZ vs))∧K.mg "House" = some (.ref Ch)∧l.length≤4∧RepL K F l vs
 | .exo 1 l,v=>∃ s a,l=[.str s]∧v = .ref a∧K.mg ⟨s.toArray⟩=some (.ref a)
 | .exo (c+2) _,v=>∃ a oe,v = .ref a∧F a=some (excHO oe)∧ExcO K c oe
def RepL (K:KK) (F:Hp):List PV→List V→Prop
 | [],vs=>vs=[]
 | p :: ps,vs=>∃ v r,vs=v :: r∧Rep K F p v∧RepL K F ps r
end
section
variable {K:KK} {F F' H H':Hp}
mutual
theorem Rep.mono (e:Same F F'):∀ (p:PV) (v:V),Rep K F p v→Rep K F' p v
 | .non,v,h=>h
 | .bl b,v,h=>h
 | .int i,v,h=>h
 | .str l,v,h=>h
 | .tup l,v,h=>by
  unfold Rep at h ⊢
  obtain ⟨a,vs,h1,h2,h3⟩:=h
  exact ⟨a,vs,h1,h2.mono e,RepL.mono e l vs h3⟩
 | .lst l,v,h=>by
  unfold Rep at h ⊢
  obtain ⟨a,vs,h1,h2,h3⟩:=h
  exact ⟨a,vs,h1,e.seq h2,RepL.mono e l vs h3⟩
 | .dic _ l,v,h=>by
  unfold Rep at h ⊢
  obtain ⟨a,o,vs,h1,h2,h3,h4,h5,h6⟩:=h
  exact ⟨a,o,vs,h1,e _ _ h2,h3,h4.tups fun _ _=>e _ _,h5,RepL.mono e l vs h6⟩
 | .exo 0 l,v,h=>by
  unfold Rep at h ⊢
  obtain ⟨a,Ch,dx,vs,h1,h2,h3,h4,h5⟩:=h
  exact ⟨a,Ch,dx,vs,h1,e _ _ h2,h3,h4,RepL.mono e l vs h5⟩
 | .exo 1 _,v,h=>by
  unfold Rep at h ⊢
  exact h
 | .exo (c+2) _,v,h=>by
  unfold Rep at h ⊢
  obtain ⟨a,oe,h1,h2,h3⟩:=h
  exact ⟨a,oe,h1,e _ _ h2,h3⟩
theorem RepL.mono (e:Same F F'):∀ (ps:List PV) (vs:List V),RepL K F ps vs→RepL K F' ps vs
 | [],vs,h=>h
 | p :: ps,vs,h=>by
  unfold RepL at h ⊢
  obtain ⟨v,r,h1,h2,h3⟩:=h
  exact ⟨v,r,h1,Rep.mono e p v h2,RepL.mono e ps r h3⟩
end
theorem RepL.len:∀ {ps:List PV} {vs:List V},RepL K F ps vs→vs.length=ps.length
 | [],vs,h=>by unfold RepL at h; rw [h]; rfl
 | p :: ps,vs,h=>by
  unfold RepL at h
  obtain ⟨v,r,rfl,_,h3⟩:=h
  simp [RepL.len h3]
theorem RepL.get:∀ {ps:List PV} {vs:List V} {i:Nat} {p:PV},RepL K F ps vs→ps[i]? = some p→∃ v,vs[i]? = some v∧Rep K F p v
 | [],vs,i,p,h,e=>by simp at e
 | q :: ps,vs,0,p,h,e=>by
  unfold RepL at h
  obtain ⟨v,r,rfl,h2,_⟩:=h
  simp at e; subst e
  exact ⟨v,rfl,h2⟩
 | q :: ps,vs,i+1,p,h,e=>by
  unfold RepL at h
  obtain ⟨v,r,rfl,_,h3⟩:=h
  simp at e
  obtain ⟨u,h4,h5⟩:=RepL.get h3 e
  exact ⟨u,by simpa using h4,h5⟩
theorem RepL.getV:∀ {ps:List PV} {vs:List V} {i:Nat} {v:V},RepL K F ps vs→vs[i]? = some v→∃ p,ps[i]? = some p∧Rep K F p v
 | [],vs,i,p,h,e=>by unfold RepL at h; subst h; simp at e
 | q :: ps,vs,0,p,h,e=>by
  unfold RepL at h
  obtain ⟨v,r,rfl,h2,_⟩:=h
  simp at e; subst e
  exact ⟨q,rfl,h2⟩
 | q :: ps,vs,i+1,p,h,e=>by
  unfold RepL at h
  obtain ⟨v,r,rfl,_,h3⟩:=h
  simp at e
  obtain ⟨u,h4,h5⟩:=RepL.getV h3 e
  exact ⟨u,by simpa using h4,h5⟩
theorem RepL.append:∀ {ps qs:List PV} {vs us:List V},RepL K F ps vs→RepL K F qs us→RepL K F (ps++qs) (vs++us)
 | [],qs,vs,us,h,g=>by unfold RepL at h; subst h; exact g
 | p :: ps,qs,vs,us,h,g=>by
  unfold RepL at h
  obtain ⟨v,r,rfl,h2,h3⟩:=h
  show RepL K F (p :: (ps++qs)) (v :: (r++us))
  unfold RepL
  exact ⟨v,r++us,rfl,h2,RepL.append h3 g⟩
theorem RepL.nil:RepL K F [] []:=by unfold RepL; rfl
theorem RepL.cons{p:PV}{ps:List PV}{v:V}{vs:List V}(h:Rep K F p v)(g:RepL K F ps vs):RepL K F (p :: ps) (v :: vs):=by
 unfold RepL; exact ⟨v,vs,rfl,h,g⟩
theorem RepL.drop:∀ {ps:List PV} {vs:List V} (n:Nat),RepL K F ps vs→RepL K F (ps.drop n) (vs.drop n)
 | _,_,0,h=>h
 | [],vs,n+1,h=>by unfold RepL at h; subst h; exact RepL.nil
 | p :: ps,vs,n+1,h=>by
  unfold RepL at h
  obtain ⟨v,r,rfl,_,h3⟩:=h
  exact RepL.drop n h3
theorem RepL.take:∀ {ps:List PV} {vs:List V} (n:Nat),RepL K F ps vs→RepL K F (ps.take n) (vs.take n)
 | _,_,0,h=>RepL.nil
 | [],vs,n+1,h=>by unfold RepL at h; subst h; exact RepL.nil
 | p :: ps,vs,n+1,h=>by
  unfold RepL at h
  obtain ⟨v,r,rfl,h2,h3⟩:=h
  exact RepL.cons h2 (RepL.take n h3)
theorem RepL.set{q:PV}{u:V}(g:Rep K F q u):∀ {ps:List PV} {vs:List V} (n:Nat),RepL K F ps vs→RepL K F (ps.set n q) (vs.set n u)
 | [],vs,n,h=>by unfold RepL at h; subst h; exact RepL.nil
 | p :: ps,vs,0,h=>by
  unfold RepL at h
  obtain ⟨v,r,rfl,h2,h3⟩:=h
  exact RepL.cons g h3
 | p :: ps,vs,n+1,h=>by
  unfold RepL at h
  obtain ⟨v,r,rfl,h2,h3⟩:=h
  exact RepL.cons h2 (RepL.set g n h3)
theorem RepL.reverse:∀ {ps:List PV} {vs:List V},RepL K F ps vs→RepL K F ps.reverse vs.reverse
 | [],vs,h=>by unfold RepL at h; subst h; exact RepL.nil
 | p :: ps,vs,h=>by
  unfold RepL at h
  obtain ⟨v,r,rfl,h2,h3⟩:=h
  rw [List.reverse_cons,List.reverse_cons]
  exact RepL.append (RepL.reverse h3) (RepL.cons h2 RepL.nil)
def toV:PV→V
 | .bl b=>.bl b
 | .int i=>.int i
 | .str l=>.str ⟨l.toArray⟩
 | _=>.non
theorem rep_int{i:Int}:Rep K F (.int i) (.int i):=by unfold Rep; rfl
theorem rep_bl{b:Bool}:Rep K F (.bl b) (.bl b):=by unfold Rep; rfl
theorem rep_non:Rep K F .non .non:=by unfold Rep; rfl
theorem rep_str{l:List Nat}(h:strG l=true):Rep K F (.str l) (.str ⟨l.toArray⟩):=by unfold Rep; exact ⟨rfl,h⟩
def OwnL(Q:List Addr→PV→V→Prop):List (List Addr)→List PV→List V→Prop
 | [],[],[]=>True
 | f :: fs,p :: ps,v :: vs=>Q f p v∧OwnL Q fs ps vs
 | _,_,_=>False
def Hold(K:KK)(F:Hp)(ho:Option HO)(a:Addr)(p:PV)(l:List PV)(vs:List V):Prop :=
 (p = .lst l∧ho=some (.lst vs)) ∨ (∃ ks o,p = .dic ks l∧ho=some (dHO a o)∧(a == sysModules)=false∧DicK K F o (ks.map nkOf) vs∧ks.all keyG=true) ∨
 ∃ Ch dx,p = .exo 0 l∧ho=some (.ins Ch dx (fldZ vs))∧K.mg "House" = some (.ref Ch)∧l.length≤4
theorem Hold.tups{K:KK}{F G:Hp}{ho:Option HO}{a:Addr}{p:PV}{l:List PV}{vs:List V}(g:∀ a xs,F a=some (tq xs)→G a=some (tq xs))(h:Hold K F ho a p l vs):Hold K G ho a p l vs:=by
 rcases h with h | ⟨ks,o,h1,h2,h3,h4,h5⟩ | h
 ·exact .inl h
 ·exact .inr (.inl ⟨ks,o,h1,h2,h3,h4.tups g,h5⟩)
 ·exact .inr (.inr h)
theorem Hold.there{K:KK}{F:Hp}{ho:Option HO}{a:Addr}{p:PV}{l:List PV}{vs:List V}(h:Hold K F ho a p l vs):∃ o,ho=some o∧∀ xs,o ≠ tq xs:=by
 rcases h with ⟨_,h⟩ | ⟨_,_,_,h,_⟩ | ⟨_,_,_,h,_⟩
 ·exact ⟨_,h,fun _ z=>by cases z⟩
 ·exact ⟨_,h,fun _ z=>by cases z⟩
 ·exact ⟨_,h,fun _ z=>by cases z⟩
def Own(K:KK)(F H:Hp):Nat→List Addr→PV→V→Prop
 | 0,fp,p,v=>fp=[]∧Rep K F p v
 | d+1,fp,p,v=>(∃ l a vs fps,v = .ref a∧Hold K F (H a) a p l vs∧fp=a :: fps.flatten∧OwnL (Own K F H d) fps l vs) ∨ (fp=[]∧boxed p=false∧Rep K F p v)
theorem Own.lst{K:KK}{F H:Hp}{d:Nat}{fp:List Addr}{l:List PV}{v:V}(h:Own K F H (d+1) fp (.lst l) v):∃ l' a vs fps,PV.lst l = .lst l'∧v = .ref a∧H a=some (.lst vs)∧fp=a :: fps.flatten∧OwnL (Own K F H d) fps l' vs:=by
 rcases h with ⟨l',a,vs,fps,h1,h2,h3,h4⟩ | ⟨_,h,_⟩
 ·rcases h2 with ⟨e,h2⟩ | ⟨_,_,e,_⟩ | ⟨_,_,e,_⟩
  ·exact ⟨l',a,vs,fps,e,h1,h2,h3,h4⟩
  ·cases e
  ·cases e
 ·cases h
theorem Own.mkL{K:KK}{F H:Hp}{d:Nat}{fp:List Addr}{p:PV}{v:V}(h:∃ l' a vs fps,p = .lst l'∧v = .ref a∧H a=some (.lst vs)∧fp=a :: fps.flatten∧OwnL (Own K F H d) fps l' vs):Own K F H (d+1) fp p v:=by
 obtain ⟨l',a,vs,fps,e,h1,h2,h3,h4⟩:=h
 exact .inl ⟨l',a,vs,fps,h1,.inl ⟨e,h2⟩,h3,h4⟩
theorem Own.unbox{K:KK}{F H:Hp}{p:PV}(hp:boxed p=false):∀ {d:Nat} {fp:List Addr} {v:V},Own K F H d fp p v→fp=[]∧Rep K F p v
 | 0,fp,v,h=>h
 | d+1,fp,v,h=>by
  rcases h with ⟨_,_,_,_,_,⟨e,_⟩ | ⟨_,_,e,_⟩ | ⟨_,_,e,_⟩,_⟩ | ⟨h1,_,h2⟩
  ·rw [e] at hp; cases hp
  ·rw [e] at hp; cases hp
  ·rw [e] at hp; cases hp
  ·exact ⟨h1,h2⟩
theorem OwnL.imp{Q R:List Addr→PV→V→Prop}:∀ {fs:List (List Addr)} {ps:List PV} {vs:List V},OwnL Q fs ps vs→(∀ f∈fs,∀ p v,Q f p v→R f p v)→OwnL R fs ps vs
 | [],[],[],h,_=>trivial
 | f :: fs,p :: ps,v :: vs,h,g=>⟨g f (by simp) p v h.1,OwnL.imp h.2 fun f hf=>g f (by simp [hf])⟩
 | [],[],_ :: _,h,_=>h.elim
 | [],_ :: _,_,h,_=>h.elim
 | _ :: _,[],_,h,_=>h.elim
 | _ :: _,_ :: _,[],h,_=>h.elim
theorem Own.mono(e:Same F F'):∀ (d:Nat) {fp:List Addr} {p:PV} {v:V},Own K F H d fp p v→(∀ a∈fp,H' a=H a)→Own K F' H' d fp p v
 | 0,fp,p,v,h,_=>⟨h.1,Rep.mono e p v h.2⟩
 | d+1,fp,p,v,h,g=>by
  rcases h with ⟨l,a,vs,fps,h1,h2,h3,h4⟩ | ⟨h1,h2,h3⟩
  rotate_left
  ·exact .inr ⟨h1,h2,Rep.mono e _ _ h3⟩
  refine .inl ⟨l,a,vs,fps,h1,by rw [g a (by simp [h3])]; exact h2.tups fun _ _=>e _ _,h3,h4.imp fun f hf p v q=>Own.mono e d q fun b hb=>g b ?_⟩
  rw [h3]
  exact List.mem_cons_of_mem _ (List.mem_flatten.mpr ⟨f,hf,hb⟩)
theorem Own.there:∀ (d:Nat) {fp:List Addr} {p:PV} {v:V},Own K F H d fp p v→∀ a∈fp,∃ o,H a=some o∧∀ xs,o ≠ tq xs
 | 0,fp,p,v,h,a,ha=>by rw [h.1] at ha; simp at ha
 | d+1,fp,p,v,h,b,hb=>by
  rcases h with ⟨l,a,vs,fps,h1,h2,h3,h4⟩ | ⟨h1,_⟩
  rotate_left
  ·rw [h1] at hb; simp at hb
  rw [h3] at hb
  rcases List.mem_cons.mp hb with rfl | hb
  ·exact h2.there
  ·obtain ⟨f,hf,hb⟩:=List.mem_flatten.mp hb
   clear h3 h2
   have:∀ {fs:List (List Addr)} {ps:List PV} {vs:List V},OwnL (Own K F H d) fs ps vs→f∈fs→∃ o,H b=some o∧∀ xs,o ≠ tq xs:=by
    intro fs
    induction fs with
    | nil=>intro ps vs _ hm; simp at hm
    | cons g gs ih =>
     intro ps vs ho hm
     cases ps with
     | nil=>exact ho.elim
     | cons p ps =>
      cases vs with
      | nil=>exact ho.elim
      | cons v vs =>
       rcases List.mem_cons.mp hm with e | hm
       ·subst e; exact Own.there d ho.1 b hb
       ·exact ih ho.2 hm
   exact this h4 hf
theorem Own.same(hf:Same F F')(hh:Same H H'){d:Nat}{fp:List Addr}{p:PV}{v:V}(h:Own K F H d fp p v):Own K F' H' d fp p v :=
 Own.mono hf d h fun a ha=>by
  obtain ⟨o,e,_⟩:=Own.there d h a ha
  rw [e]; exact hh _ _ e
theorem Own.rep(hf:Same F H):∀ (d:Nat) {fp:List Addr} {p:PV} {v:V},Own K F H d fp p v→Rep K H p v
 | 0,fp,p,v,h=>Rep.mono hf p v h.2
 | d+1,fp,p,v,h=>by
  rcases h with ⟨l,a,vs,fps,rfl,h2,h3,h4⟩ | ⟨_,_,h3⟩
  rotate_left
  ·exact Rep.mono hf _ _ h3
  have rl:RepL K H l vs:=by
   clear h3 h2
   have:∀ {fs:List (List Addr)} {ps:List PV} {vs:List V},OwnL (Own K F H d) fs ps vs→RepL K H ps vs:=by
    intro fs
    induction fs with
    | nil =>
     intro ps vs ho
     cases ps with
     | nil=>cases vs with
      | nil=>exact RepL.nil
      | cons v vs=>exact ho.elim
     | cons p ps=>exact ho.elim
    | cons g gs ih =>
     intro ps vs ho
     cases ps with
     | nil=>exact ho.elim
     | cons p ps =>
      cases vs with
      | nil=>exact ho.elim
      | cons v vs=>exact RepL.cons (Own.rep hf d ho.1) (ih ho.2)
   exact this h4
  rcases h2 with ⟨rfl,h2⟩ | ⟨ks,o,rfl,h2,h5,h6,h7⟩ | ⟨Ch,dx,rfl,h2,h5,h6⟩
  ·unfold Rep
   exact ⟨a,vs,rfl,SqL.of h2,rl⟩
  ·unfold Rep
   exact ⟨a,o,vs,rfl,h2,h5,h6.tups fun _ _=>hf _ _,h7,rl⟩
  ·unfold Rep
   exact ⟨a,Ch,dx,vs,rfl,h2,h5,h6,rl⟩
def frzF(F H:Hp)(fp:List Addr):Hp:=fun a=>if a∈fp then H a else F a
theorem frzF_same(h:∀ a∈fp,F a=none):Same F (frzF F H fp):=fun a o e=>by
 unfold frzF
 rw [if_neg fun ha=>by rw [h a ha] at e; cases e]
 exact e
theorem frzF_in(h:Same F H):Same (frzF F H fp) H:=fun a o e=>by
 unfold frzF at e
 by_cases ha:a∈fp
 ·rw [if_pos ha] at e; exact e
 ·rw [if_neg ha] at e; exact h _ _ e
theorem Own.frz(hs:Same F H){d:Nat}{fp fp':List Addr}{p:PV}{v:V}(h:Own K F H d fp p v)(hn:∀ a∈fp',F a=none)(hsub:∀ a∈fp,a∈fp'):Rep K (frzF F H fp') p v:=by
 have h1:Own K (frzF F H fp') (frzF F H fp') d fp p v:=Own.mono (frzF_same hn) d h fun a ha=>by unfold frzF; rw [if_pos (hsub a ha)]
 exact Own.rep (Same.refl _) d h1
end
def Tups(F H:Hp):Prop:=∀ a xs,H a=some (tq xs)→F a=some (tq xs)
structure Ext (F H F' H':Hp):Prop where
 ff:Same F F'
 hh:Same H H'
 fh:Same F' H'
 tp:Tups F' H'
 nw:∀ a,F' a ≠ none→F a ≠ none ∨ H a=none
section
variable {K:KK} {F H F1 H1 F2 H2:Hp}
theorem Ext.refl(h:Same F H)(t:Tups F H):Ext F H F H:=⟨Same.refl _,Same.refl _,h,t,fun _ q=>.inl q⟩
theorem Ext.trans(a:Ext F H F1 H1)(b:Ext F1 H1 F2 H2):Ext F H F2 H2 :=
 ⟨a.ff.trans b.ff,a.hh.trans b.hh,b.fh,b.tp,fun x q=>by
  rcases b.nw x q with q | q
  ·exact a.nw x q
  ·exact .inr (a.hh.free q)⟩
theorem tups_new{p:Addr}{o:HO}(t:Tups F H)(ho:∀ xs,o ≠ tq xs)(hf:F p=none):Tups F (upd H p o):=fun a xs e=>by
 by_cases ha:a=p
 ·subst ha; rw [upd_same] at e; cases e; exact (ho _ rfl).elim
 ·rw [upd_ne ha] at e; exact t a xs e
theorem Ext.tup(h:Same F H)(t:Tups F H){p:Addr}{o:Obj}{vs:List V}(hp:H p=none):Ext F H (upd F p (tq (o,vs))) (upd H p (tq (o,vs))):=by
 have fp:F p=none:=h.free hp
 refine ⟨same_new fp,same_new hp,fun a o e=>?_,fun a xs e=>?_,fun a q=>?_⟩
 ·by_cases ha:a=p
  ·subst ha; rw [upd_same] at e ⊢; exact e
  ·rw [upd_ne ha] at e ⊢; exact h _ _ e
 ·by_cases ha:a=p
  ·subst ha; rw [upd_same] at e ⊢; exact e
  ·rw [upd_ne ha] at e ⊢; exact t _ _ e
 ·by_cases ha:a=p
  ·subst ha; exact .inr hp
  ·rw [upd_ne ha] at q; exact .inl q
theorem Ext.lst(h:Same F H)(t:Tups F H){p:Addr}{vs:List V}(hp:H p=none):Ext F H F (upd H p (.lst vs)) :=
 ⟨Same.refl _,same_new hp,h.trans (same_new hp),tups_new t (fun _ e=>by cases e) (h.free hp),fun _ q=>.inl q⟩
theorem Ext.frz(e:Ext F H F1 H1){fp:List Addr}(hn:∀ a∈fp,F1 a=none∧H a=none):Ext F H (frzF F1 H1 fp) H1:=by
 refine ⟨e.ff.trans (frzF_same fun a ha=>(hn a ha).1),e.hh,frzF_in e.fh,fun a xs q=>?_,fun a q=>?_⟩
 ·exact frzF_same (fun a ha=>(hn a ha).1) _ _ (e.tp a xs q)
 ·by_cases ha:a∈fp
  ·exact .inr (hn a ha).2
  ·unfold frzF at q; rw [if_neg ha] at q; exact e.nw a q
def RVf(K:KK)(F H Hs:Hp):TV→V→List Addr→Prop
 | (.fz,p),v,_=>Rep K F p v
 | (.bw d,p),v,_=>∃ fp,Own K F H d fp p v
 | (.ow d,p),v,fp=>Own K F H d fp p v∧fp.Nodup∧∀ a∈fp,F a=none∧Hs a=none
def RV(K:KK)(F H Hs:Hp)(x:TV)(v:V):Prop:=∃ fp,RVf K F H Hs x v fp
theorem RVf.ext{Hs:Hp}(e:Ext F H F1 H1):∀ {x:TV} {v:V} {fp:List Addr},RVf K F H Hs x v fp→RVf K F1 H1 Hs x v fp
 | (.fz,p),v,_,h=>Rep.mono e.ff p v h
 | (.bw d,p),v,_,⟨fp,h⟩=>⟨fp,h.same e.ff e.hh⟩
 | (.ow d,p),v,fp,⟨h1,h2,h3⟩=>by
  refine ⟨h1.same e.ff e.hh,h2,fun a ha=>⟨?_,(h3 a ha).2⟩⟩
  cases q:F1 a with
  | none=>rfl
  | some o =>
   rcases e.nw a (by rw [q]; simp) with z | z
   ·exact (z (h3 a ha).1).elim
   ·obtain ⟨vs,z',_⟩:=h1.there d a ha
    rw [z] at z'
    cases z'
theorem RV.ext{Hs:Hp}(e:Ext F H F1 H1){x:TV}{v:V}(h:RV K F H Hs x v):RV K F1 H1 Hs x v:=let ⟨fp,h⟩:=h; ⟨fp,h.ext e⟩
theorem RVf.start{Hs Hs':Hp}(e:Same Hs Hs'):∀ {x:TV} {v:V} {fp:List Addr},RVf K F H Hs' x v fp→RVf K F H Hs x v fp
 | (.fz,p),v,_,h=>h
 | (.bw d,p),v,_,h=>h
 | (.ow d,p),v,fp,⟨h1,h2,h3⟩=>⟨h1,h2,fun a ha=>⟨(h3 a ha).1,e.free (h3 a ha).2⟩⟩
theorem RV.start{Hs Hs':Hp}(e:Same Hs Hs'){x:TV}{v:V}(h:RV K F H Hs' x v):RV K F H Hs x v:=let ⟨fp,h⟩:=h; ⟨fp,h.start e⟩
theorem RV.rep{Hs:Hp}(hf:Same F H):∀ {x:TV} {v:V},RV K F H Hs x v→Rep K H x.2 v
 | (.fz,p),v,⟨_,h⟩=>Rep.mono hf p v h
 | (.bw d,p),v,⟨_,fp,h⟩=>h.rep hf
 | (.ow d,p),v,⟨fp,h,_⟩=>h.rep hf
theorem RV.fz{Hs:Hp}{p:PV}{v:V}(h:Rep K F p v):RV K F H Hs (.fz,p) v:=⟨[],h⟩
theorem RVf.put{Hs:Hp}(e:Ext F1 Hs F H){x:TV}{v:V}{fp:List Addr}{p:PV}(h:RVf K F H Hs x v fp)(hp:putV x = .ok p):∃ F',Ext F1 Hs F' H∧Same F F'∧Rep K F' p v∧∀ a,F' a ≠ none→F a ≠ none ∨ a∈fp:=by
 obtain ⟨t,q⟩:=x
 cases t with
 | fz=>cases hp; exact ⟨F,e,Same.refl _,h,fun _ z=>.inl z⟩
 | bw d =>
  cases d with
  | zero=>cases hp; obtain ⟨fp,h⟩:=h; exact ⟨F,e,Same.refl _,h.2,fun _ z=>.inl z⟩
  | succ d=>cases hp
 | ow d =>
  cases hp
  obtain ⟨h1,h2,h3⟩:=h
  refine ⟨frzF F H fp,e.frz h3,frzF_same fun a ha=>(h3 a ha).1,h1.frz e.fh (fun a ha=>(h3 a ha).1) fun a ha=>ha,fun a z=>?_⟩
  by_cases ha:a∈fp
  ·exact .inr ha
  ·unfold frzF at z; rw [if_neg ha] at z; exact .inl z
theorem RV.put{Hs:Hp}(e:Ext F1 Hs F H){x:TV}{v:V}{p:PV}(h:RV K F H Hs x v)(hp:putV x = .ok p):∃ F',Ext F1 Hs F' H∧Rep K F' p v :=
 let ⟨_,h⟩:=h
 let ⟨F',h1,_,h2,_⟩:=h.put e hp
 ⟨F',h1,h2⟩
def RVs(K:KK)(F H Hs:Hp):List TV→List V→List Addr→Prop
 | [],vs,fp=>vs=[]∧fp=[]
 | x :: xs,vs,fp=>∃ v r f g,vs=v :: r∧fp=f++g∧RVf K F H Hs x v f∧RVs K F H Hs xs r g∧(∀ a∈f,a ∉ g)∧∀ a∈f,Hs a=none∧H a ≠ none
theorem RVs.ext{Hs:Hp}(e:Ext F H F1 H1):∀ {xs:List TV} {vs:List V} {fp:List Addr},RVs K F H Hs xs vs fp→RVs K F1 H1 Hs xs vs fp
 | [],_,_,h=>h
 | x :: xs,vs,fp,h=>by
  obtain ⟨v,r,f,g,h1,h2,h3,h4,h5,h6⟩:=h
  exact ⟨v,r,f,g,h1,h2,h3.ext e,RVs.ext e h4,h5,fun a ha=>⟨(h6 a ha).1,fun z=>(h6 a ha).2 (e.hh.free z)⟩⟩
theorem RVs.reps{Hs:Hp}(hf:Same F H):∀ {xs:List TV} {vs:List V} {fp:List Addr},RVs K F H Hs xs vs fp→RepL K H (xs.map (·.2)) vs
 | [],_,_,h=>by unfold RVs at h; rw [h.1]; exact RepL.nil
 | x :: xs,vs,fp,h=>by
  obtain ⟨v,r,f,g,h1,h2,h3,h4,h5,h6⟩:=h
  subst h1
  exact RepL.cons (RV.rep hf ⟨f,h3⟩) (RVs.reps hf h4)
theorem RVs.put{Hs:Hp}:∀ {xs:List TV} {vs:List V} {fp:List Addr} {ps:List PV} {F:Hp},Ext F1 Hs F H→RVs K F H Hs xs vs fp→putVs xs = .ok ps→∃ F',Ext F1 Hs F' H∧Same F F'∧RepL K F' ps vs∧∀ a,F' a ≠ none→F a ≠ none ∨ a∈fp
 | [],vs,fp,ps,F,e,h,hp=>by
  cases hp
  unfold RVs at h
  rw [h.1]
  exact ⟨F,e,Same.refl _,RepL.nil,fun _ z=>.inl z⟩
 | x :: xs,vs,fp,ps,F,e,h,hp=>by
  obtain ⟨v,r,f,g,h1,h2,h3,h4,h5,h6⟩:=h
  subst h1 h2
  unfold putVs at hp
  cases q:putV x with
  | ok p =>
   rw [q,bind_ok] at hp
   cases q2:putVs xs with
   | ok qs =>
    rw [q2,bind_ok] at hp
    cases hp
    obtain ⟨Fa,e1,s1,r1,n1⟩:=h3.put e q
    have h4':RVs K Fa H Hs xs r g:=by
     have go:∀ {xs:List TV} {vs:List V} {g:List Addr},RVs K F H Hs xs vs g→(∀ a∈f,a ∉ g)→RVs K Fa H Hs xs vs g:=by
      intro xs
      induction xs with
      | nil=>intro vs g h _; exact h
      | cons y ys ih =>
       intro vs g h hd
       obtain ⟨v,r,f',g',h1,h2,h3',h4',h5',h6'⟩:=h
       subst h2
       refine ⟨v,r,f',g',h1,rfl,?_,ih h4' fun a ha hm=>hd a ha (List.mem_append_right _ hm),h5',h6'⟩
       obtain ⟨t,pp⟩:=y
       cases t with
       | fz=>exact Rep.mono s1 _ _ h3'
       | bw d=>obtain ⟨fp',z⟩:=h3'; exact ⟨fp',z.same s1 (Same.refl _)⟩
       | ow d =>
        obtain ⟨z1,z2,z3⟩:=h3'
        refine ⟨z1.same s1 (Same.refl _),z2,fun a ha=>⟨?_,(z3 a ha).2⟩⟩
        cases qa:Fa a with
        | none=>rfl
        | some o =>
         rcases n1 a (by rw [qa]; simp) with z | z
         ·exact (z (z3 a ha).1).elim
         ·exact (hd a z (List.mem_append_left _ ha)).elim
     exact go h4 h5
    obtain ⟨Fb,e2,s2,r2,n2⟩:=RVs.put e1 h4' q2
    refine ⟨Fb,e2,s1.trans s2,RepL.cons (Rep.mono s2 _ _ r1) r2,fun a z=>?_⟩
    rcases n2 a z with z | z
    ·rcases n1 a z with z | z
     ·exact .inl z
     ·exact .inr (List.mem_append_left _ z)
    ·exact .inr (List.mem_append_right _ z)
   | exc c=>rw [q2] at hp; cases hp
   | bad=>rw [q2] at hp; cases hp
  | exc c=>rw [q] at hp; cases hp
  | bad=>rw [q] at hp; cases hp
theorem RVs.news{Hs:Hp}:∀ {xs:List TV} {vs:List V} {fp:List Addr},RVs K F H Hs xs vs fp→∀ a∈fp,Hs a=none∧H a ≠ none
 | [],_,_,h,a,ha=>by unfold RVs at h; rw [h.2] at ha; simp at ha
 | x :: xs,vs,fp,h,a,ha=>by
  obtain ⟨v,r,f,g,h1,h2,h3,h4,h5,h6⟩:=h
  subst h2
  rcases List.mem_append.mp ha with ha | ha
  ·exact h6 a ha
  ·exact RVs.news h4 a ha
theorem RVs.start{Hs Hs':Hp}(e:Same Hs Hs'):∀ {xs:List TV} {vs:List V} {fp:List Addr},RVs K F H Hs' xs vs fp→RVs K F H Hs xs vs fp
 | [],_,_,h=>h
 | x :: xs,vs,fp,h=>by
  obtain ⟨v,r,f,g,h1,h2,h3,h4,h5,h6⟩:=h
  exact ⟨v,r,f,g,h1,h2,h3.start e,RVs.start e h4,h5,fun a ha=>⟨e.free (h6 a ha).1,(h6 a ha).2⟩⟩
theorem RV.norm{Hs:Hp}:∀ {x:TV} {v:V},RV K F H Hs x v→∃ fp,RVf K F H Hs x v fp∧∀ a∈fp,Hs a=none∧H a ≠ none
 | (.fz,p),v,⟨_,h⟩=>⟨[],h,fun _ z=>by simp at z⟩
 | (.bw d,p),v,⟨_,h⟩=>⟨[],h,fun _ z=>by simp at z⟩
 | (.ow d,p),v,⟨fp,h⟩=>⟨fp,h,fun a ha=>⟨(h.2.2 a ha).2,by obtain ⟨vs,z,_⟩:=h.1.there d a ha; rw [z]; simp⟩⟩
end
end Vl
end
section
set_option Elab.async false
set_option linter.all false
set_option maxRecDepth 100000
set_option maxHeartbeats 1000000
namespace Vl
open PySem L2 Vm PyProof.Rows
structure Cn where
 K:KK
 base:Heap
abbrev Cn.mg(C:Cn):Str→Option Value:=C.K.mg
abbrev Cn.P(C:Cn):Program:=C.K.P
abbrev Cn.w(C:Cn):World:=C.K.w
def kkX(X:Cx):KK:=⟨X.K,X.prog,X.w,X.mg⟩
def cnOf(X:Cx):Cn:=⟨kkX X,X.base⟩
def Cn.xc(C:Cn)(c:Nat):Value:=(C.mg (xName c)).getD .none
structure Sta (C:Cn) (cm:Bool) (k:Nat) (N:List Str) (sc:Scope) (X:Cx):Prop where
 cn:cnOf X=C
 n:X.N=N
 s:X.env.scope=sc
 nd:N.Nodup
 c:cm=true→X.calm=true
 r:cm=true→Room k X.A
 u:X.A.units+100 < cLine
structure Good (K:KK) (F0 H0:Hp) (Γ:En) (σ:L2.St) (F H:Hp):Prop where
 ext:Ext F0 H0 F H
 len:Γ.length=σ.length
 slots:∃ fp:Nat→List Addr,(∀ i x,Γ.get i=some x→∃ v,σ[i]? = some (some v)∧RVf K F H H0 x v (fp i))∧∀ i j a,i ≠ j→a∈fp i→a ∉ fp j
def NoBw(Γ:En):Prop:=∀ i d p,Γ.get i ≠ some (.bw d,p)
section
variable {K:KK} {F0 H0 F H F1 H1:Hp} {Γ:En} {σ:L2.St}
theorem Good.next(g:Good K F0 H0 Γ σ F H)(e:Ext F H F1 H1):Good K F0 H0 Γ σ F1 H1:=by
 refine ⟨g.ext.trans e,g.len,?_⟩
 obtain ⟨fp,h1,h2⟩:=g.slots
 refine ⟨fp,fun i x hx=>?_,h2⟩
 obtain ⟨v,h3,h4⟩:=h1 i x hx
 exact ⟨v,h3,h4.ext e⟩
theorem Good.here(g:Good K F0 H0 Γ σ F H):Ext F H F H:=Ext.refl g.ext.fh g.ext.tp
def EOk(C:Cn)(W:WX)(σ:L2.St)(F H:Hp)(Q:VK):Res TV→Prop
 | .ok x=>∀ v F' H',Ext F H F' H'→RV C.K F' H' H x v→Q v H'
 | .exc c=>∀ F' H',Ext F H F' H'→W (C.xc c) none σ H'
 | .bad=>False
def TOk(C:Cn)(W:WX)(σ:L2.St)(F H:Hp)(Q:Bool→Hp→Prop):Res Bool→Prop
 | .ok b=>∀ F' H',Ext F H F' H'→Q b H'
 | .exc c=>∀ F' H',Ext F H F' H'→W (C.xc c) none σ H'
 | .bad=>False
def AOk(C:Cn)(W:WX)(σ:L2.St)(F H:Hp)(Q:List V→Hp→Prop):Res (List TV)→Prop
 | .ok xs=>∀ vs fp F' H',Ext F H F' H'→RVs C.K F' H' H xs vs fp→Q vs H'
 | .exc c=>∀ F' H',Ext F H F' H'→W (C.xc c) none σ H'
 | .bad=>False
variable {C:Cn} {W:WX} {Q:VK}
theorem EOk.next{r:Res TV}(h:EOk C W σ F H Q r)(e:Ext F H F1 H1):EOk C W σ F1 H1 Q r:=by
 cases r with
 | ok x=>exact fun v F' H' e' rv=>h v F' H' (e.trans e') (rv.start e.hh)
 | exc c=>exact fun F' H' e'=>h F' H' (e.trans e')
 | bad=>exact h
theorem TOk.next{Q:Bool→Hp→Prop}{r:Res Bool}(h:TOk C W σ F H Q r)(e:Ext F H F1 H1):TOk C W σ F1 H1 Q r:=by
 cases r with
 | ok x=>exact fun F' H' e'=>h F' H' (e.trans e')
 | exc c=>exact fun F' H' e'=>h F' H' (e.trans e')
 | bad=>exact h
theorem EOk.bind{f:TV→Res TV}{Q1:VK}{r:Res TV}(h:EOk C W σ F H Q (r.bind f))
  (q:∀ x v F1 H1,r = .ok x→Ext F H F1 H1→RV C.K F1 H1 H x v→EOk C W σ F H Q (f x)→Q1 v H1):EOk C W σ F H Q1 r:=by
 cases r with
 | ok x=>exact fun v F' H' e rv=>q x v F' H' rfl e rv h
 | exc c=>exact h
 | bad=>exact h
theorem EOk.bindT{f:TV→Res Bool}{Q:Bool→Hp→Prop}{Q1:VK}{r:Res TV}(h:TOk C W σ F H Q (r.bind f))
  (q:∀ x v F1 H1,r = .ok x→Ext F H F1 H1→RV C.K F1 H1 H x v→TOk C W σ F H Q (f x)→Q1 v H1):EOk C W σ F H Q1 r:=by
 cases r with
 | ok x=>exact fun v F' H' e rv=>q x v F' H' rfl e rv h
 | exc c=>exact h
 | bad=>exact h
theorem TOk.bind{f:Bool→Res TV}{Q1:Bool→Hp→Prop}{r:Res Bool}(h:EOk C W σ F H Q (r.bind f))
  (q:∀ x F1 H1,r = .ok x→Ext F H F1 H1→EOk C W σ F H Q (f x)→Q1 x H1):TOk C W σ F H Q1 r:=by
 cases r with
 | ok x=>exact fun F' H' e=>q x F' H' rfl e h
 | exc c=>exact h
 | bad=>exact h
theorem TOk.bindT{f:Bool→Res Bool}{Q Q1:Bool→Hp→Prop}{r:Res Bool}(h:TOk C W σ F H Q (r.bind f))
  (q:∀ x F1 H1,r = .ok x→Ext F H F1 H1→TOk C W σ F H Q (f x)→Q1 x H1):TOk C W σ F H Q1 r:=by
 cases r with
 | ok x=>exact fun F' H' e=>q x F' H' rfl e h
 | exc c=>exact h
 | bad=>exact h
theorem AOk.bind{f:List TV→Res TV}{Q1:List V→Hp→Prop}{r:Res (List TV)}(h:EOk C W σ F H Q (r.bind f))
  (q:∀ xs vs fp F1 H1,r = .ok xs→Ext F H F1 H1→RVs C.K F1 H1 H xs vs fp→EOk C W σ F H Q (f xs)→Q1 vs H1):AOk C W σ F H Q1 r:=by
 cases r with
 | ok x=>exact fun v fp F' H' e rv=>q x v fp F' H' rfl e rv h
 | exc c=>exact h
 | bad=>exact h
end
section
variable (C:Cn) (cm:Bool) (k:Nat) (N:List Str) (sc:Scope)
def DE(e:Expr)(E:EX):Prop:=∃ tb:WX→TE,(∀ X,Sta C cm k N sc X→∀ W,Takes X W→PE X e (tb W)) ∧
 ∀ W σ Γ F0 H0 F H Q,Good C.K F0 H0 Γ σ F H→EOk C W σ F H Q (E Γ)→tb W σ H Q
def DT(e:Expr)(E:TX):Prop:=∃ tb:WX→TT,(∀ X,Sta C cm k N sc X→∀ W,Takes X W→PT X e (tb W)) ∧
 ∀ W σ Γ F0 H0 F H Q,Good C.K F0 H0 Γ σ F H→TOk C W σ F H Q (E Γ)→tb W σ H Q
def DW(e:Expr)(E:TX):Prop:=∃ tb:WX→TT,(∀ X,Sta C cm k N sc X→∀ W,Takes X W→PW X e (tb W)) ∧
 ∀ W σ Γ F0 H0 F H Q,Good C.K F0 H0 Γ σ F H→TOk C W σ F H Q (E Γ)→tb W σ H Q
def DA(es:List Expr)(E:EXs):Prop:=∃ tb:WX→TA,(∀ X,Sta C cm k N sc X→∀ W,Takes X W→PA X es (tb W)) ∧
 ∀ W σ Γ F0 H0 F H Q,Good C.K F0 H0 Γ σ F H→AOk C W σ F H Q (E Γ)→tb W σ H Q
end
section
variable {C:Cn} {cm:Bool} {k:Nat} {N:List Str} {sc:Scope} {a b c:Expr} {A B:EX} {pos:Pos}
theorem de_var (i:Nat) {x:Str} (hN:N[i]? = some x:=by rfl) (hv:Vis sc x:=by first | exact Or.inl rfl | exact Or.inr (Or.inl rfl) | exact Or.inr (Or.inr rfl)) (hd:(x == ("__debug__":Str))=false:=by decide)
  (hcd:(x == ("__classdict__":Str))=false:=by decide):DE C cm k N sc (.Name x pos) (eVar i):=by
 refine ⟨fun _=>tVar i,fun X S W _=>pe_var (by rw [S.n]; exact hN) (by rw [S.s]; exact hv) hd hcd,fun W σ Γ F0 H0 F H Q g h=>?_⟩
 obtain ⟨fp,h1,_⟩:=g.slots
 unfold eVar at h
 cases e:Γ.get i with
 | none=>rw [e] at h; exact h.elim
 | some x =>
  obtain ⟨t,p⟩:=x
  obtain ⟨v,h3,h4⟩:=h1 i _ e
  refine ⟨v,h3,?_⟩
  rw [e] at h
  cases t with
  | fz=>exact h v F H g.here ⟨[],h4⟩
  | bw d=>exact h v F H g.here ⟨[],h4⟩
  | ow d=>exact h v F H g.here ⟨[],_,h4.1⟩
theorem de_int{i:Int}{j}:DE C cm k N sc (.Constant (.int i) j pos) (eC (.int i)):=⟨fun _=>tC (.int i),fun _ _ _ _=>pe_int,fun W σ Γ F0 H0 F H Q g h=>h _ F H g.here (.fz rep_int)⟩
theorem de_bl{i:Bool}{j}:DE C cm k N sc (.Constant (.bool i) j pos) (eC (.bl i)):=⟨fun _=>tC (.bl i),fun _ _ _ _=>pe_bl,fun W σ Γ F0 H0 F H Q g h=>h _ F H g.here (.fz rep_bl)⟩
theorem de_non{j}:DE C cm k N sc (.Constant .none j pos) (eC .non):=⟨fun _=>tC .non,fun _ _ _ _=>pe_non,fun W σ Γ F0 H0 F H Q g h=>h _ F H g.here (.fz rep_non)⟩
theorem de_str{x:Str}{j}(l:List Nat)(hx:x=⟨l.toArray⟩:=by rfl)(hl:strG l=true:=by rfl):DE C cm k N sc (.Constant (.str x) j pos) (eC (.str l)):=⟨fun _=>tC (.str x),fun _ _ _ _=>pe_str,fun W σ Γ F0 H0 F H Q g h=>h _ F H g.here (.fz (by rw [hx]; exact rep_str hl))⟩
theorem EOk.fzv{W:WX}{σ:L2.St}{F H F1 H1:Hp}{Q:VK}{r:Res PV}(h:EOk C W σ F H Q (r.bind Vm.fzv))(e:Ext F H F1 H1):∀ p v,r = .ok p→Rep C.K F1 p v→Q v H1:=fun p v hr rp=>by
 subst hr
 exact h v F1 H1 e (.fz rp)
def Op2(C:Cn)(r:R2)(op:PV→PV→Res PV):Prop:=∀ p q v u H Q,Rep C.K H p v→Rep C.K H q u→match op p q with
 | .ok z=>((∀ F,Rep C.K F z (toV z))→Q (toV z) H)→r v u H Q
 | .exc _=>False
 | .bad=>True
theorem de_op2{op:Operator}{r:R2}{f:PV→PV→Res PV}(ho:∀ X,Sta C cm k N sc X→OpR X (binaryOp op) r)(ho2:Op2 C r f)(ha:DE C cm k N sc a A)(hb:DE C cm k N sc b B):DE C cm k N sc (.BinOp a op b pos) (eOp2 f A B):=by
 obtain ⟨ta,pa,qa⟩:=ha
 obtain ⟨tb,pb,qb⟩:=hb
 refine ⟨fun W=>tOp r (ta W) (tb W),fun X S W T=>pe_op (ho X S) (pa X S W T) (pb X S W T),fun W σ Γ F0 H0 F H Q g h=>?_⟩
 refine qa W σ Γ F0 H0 F H _ g (EOk.bind h fun x v F1 H1 ex e1 r1 h1=>?_)
 refine qb W σ Γ F0 H0 F1 H1 _ (g.next e1) (EOk.bind (h1.next e1) fun y u F2 H2 ey e2 r2 h2=>?_)
 have q:=ho2 x.2 y.2 v u H2 Q ((r1.ext e2).rep e2.fh) (r2.rep e2.fh)
 cases e:f x.2 y.2 with
 | ok z =>
  rw [e] at q h2
  exact q fun rz=>(h2.next e2).fzv (Ext.refl e2.fh e2.tp) z (toV z) rfl (rz _)
 | exc c=>rw [e] at q; exact q.elim
 | bad=>rw [e] at h2; exact h2.elim
end
end Vl
end
section
set_option Elab.async false
set_option linter.all false
set_option maxRecDepth 100000
set_option maxHeartbeats 1000000
namespace Vl
open PySem L2 Vm PyProof.Rows
mutual
def dat:PV→PyData
 | .non=>.none
 | .bl b=>.bool b
 | .int i=>.int i
 | .str l=>.str ⟨l.toArray⟩
 | .tup l=>.tuple (datL l)
 | .lst l=>.list (datL l)
 | .dic _ _=>.none
 | .exo _ _=>.none
def datL:List PV→List PyData
 | []=>[]
 | x :: xs=>dat x :: datL xs
end
theorem datL_map:∀ l:List PV,datL l=l.map dat
 | []=>rfl
 | x :: xs=>by rw [datL,datL_map xs]; rfl
section
variable {K:KK} {H:Hp}
mutual
theorem rep_dp:∀ (n:Nat) (p:PV) (v:V),shp n p=true→Rep K H p v→Dp K H v (dat p)∧(dat p).canLay0=true∧(dat p).depth≤n
 | n,.non,v,_,h=>by unfold Rep at h; subst h; exact ⟨.non,rfl,Nat.zero_le _⟩
 | n,.bl b,v,_,h=>by unfold Rep at h; subst h; exact ⟨.bl b,rfl,Nat.zero_le _⟩
 | n,.int i,v,_,h=>by unfold Rep at h; subst h; exact ⟨.int i,rfl,Nat.zero_le _⟩
 | n,.str l,v,_,h=>by
  unfold Rep at h
  obtain ⟨rfl,h2⟩:=h
  refine ⟨.str _,?_,Nat.zero_le _⟩
  unfold strG at h2
  simp only [Bool.and_eq_true] at h2
  show PyData.strOk ⟨l.toArray⟩=true
  unfold PyData.strOk
  simp only [List.all_toArray]
  exact h2.2
 | 0,.tup l,v,s,_=>by unfold shp at s; cases s
 | 0,.lst l,v,s,_=>by unfold shp at s; cases s
 | n+1,.tup l,v,s,h=>by
  unfold shp at s
  unfold Rep at h
  obtain ⟨a,vs,rfl,h2,h3⟩:=h
  obtain ⟨d1,d2,d3⟩:=rep_dpL n l vs s h3
  exact ⟨.tup ((TupAt.sq h2)) d1,by unfold dat PyData.canLay0; exact d2,by unfold dat PyData.depth; omega⟩
 | n+1,.lst l,v,s,h=>by
  unfold shp at s
  unfold Rep at h
  obtain ⟨a,vs,rfl,h2,h3⟩:=h
  obtain ⟨d1,d2,d3⟩:=rep_dpL n l vs s h3
  exact ⟨.lst h2 d1,by unfold dat PyData.canLay0; exact d2,by unfold dat PyData.depth; omega⟩
 | n,.dic _ _,v,s,_=>by unfold shp at s; cases s
 | n,.exo _ _,v,s,_=>by unfold shp at s; cases s
theorem rep_dpL:∀ (n:Nat) (l:List PV) (vs:List V),shpL n l=true→RepL K H l vs→DpAll K H vs (datL l)∧PyData.canLayAll0 (datL l)=true∧PyData.depthAll (datL l)≤n
 | n,[],vs,_,h=>by unfold RepL at h; subst h; exact ⟨.nil,rfl,Nat.zero_le _⟩
 | n,x :: xs,vs,s,h=>by
  unfold shpL at s
  rw [Bool.and_eq_true] at s
  unfold RepL at h
  obtain ⟨v,r,rfl,h2,h3⟩:=h
  obtain ⟨a1,a2,a3⟩:=rep_dp n x v s.1 h2
  obtain ⟨b1,b2,b3⟩:=rep_dpL n xs r s.2 h3
  refine ⟨.cons a1 b1,by unfold datL PyData.canLayAll0; rw [a2,b2]; rfl,by unfold datL PyData.depthAll; omega⟩
end
end
mutual
theorem eqv_dat:∀ (n m:Nat) (p q:PV),shp n p=true→shp m q=true→PyData.eqv (dat p) (dat q)=eqv p q
 | n,m,.non,q,_,h=>by cases q <;> first | rfl | (simp [shp] at h)
 | n,m,.bl b,q,_,h=>by cases q <;> first | rfl | (simp [shp] at h)
 | n,m,.int b,q,_,h=>by cases q <;> first | rfl | (simp [shp] at h)
 | n,m,.str b,q,_,h=>by
  cases q with
  | str c =>
   show ((⟨b.toArray⟩:Str) == ⟨c.toArray⟩)=(b == c)
   by_cases e:b=c
   ·subst e; simp
   ·have e2:(⟨b.toArray⟩:Str) ≠ ⟨c.toArray⟩:=fun z=>e (by injection z with z1; simpa using congrArg Array.toList z1)
    rw [beq_eq_false_iff_ne.mpr e,beq_eq_false_iff_ne.mpr e2]
  | dic _=>simp [shp] at h
  | exo _ _=>simp [shp] at h
  | _=>rfl
 | n,m,.tup l,q,s,h=>by
  cases n with
  | zero=>simp [shp] at s
  | succ n =>
   cases q with
   | tup k =>
    cases m with
    | zero=>simp [shp] at h
    | succ m =>
     unfold shp at s h
     show PyData.eqvAll (datL l) (datL k)=eqvL l k
     exact eqv_datL n m l k s h
   | dic _=>simp [shp] at h
   | exo _ _=>simp [shp] at h
   | _=>rfl
 | n,m,.lst l,q,s,h=>by
  cases n with
  | zero=>simp [shp] at s
  | succ n =>
   cases q with
   | lst k =>
    cases m with
    | zero=>simp [shp] at h
    | succ m =>
     unfold shp at s h
     show PyData.eqvAll (datL l) (datL k)=eqvL l k
     exact eqv_datL n m l k s h
   | dic _=>simp [shp] at h
   | exo _ _=>simp [shp] at h
   | _=>rfl
 | n,m,.dic _ _,q,s,_=>by simp [shp] at s
 | n,m,.exo _ _,q,s,_=>by simp [shp] at s
theorem eqv_datL:∀ (n m:Nat) (p q:List PV),shpL n p=true→shpL m q=true→PyData.eqvAll (datL p) (datL q)=eqvL p q
 | _,_,[],[],_,_=>rfl
 | _,_,[],_ :: _,_,_=>rfl
 | _,_,_ :: _,[],_,_=>rfl
 | n,m,x :: xs,y :: ys,s,h=>by
  unfold shpL at s h
  rw [Bool.and_eq_true] at s h
  show (PyData.eqv (dat x) (dat y) && PyData.eqvAll (datL xs) (datL ys))=(eqv x y && eqvL xs ys)
  rw [eqv_dat n m x y s.1 h.1,eqv_datL n m xs ys s.2 h.2]
end
theorem shaped_dat{K:KK}{H:Hp}{n:Nat}{p:PV}{v:V}(hn:n≤64)(s:shp n p=true)(h:Rep K H p v):SeqAt.shaped (dat p)=true:=by
 obtain ⟨_,h2,h3⟩:=rep_dp n p v s h
 unfold SeqAt.shaped
 rw [h2,decide_eq_true (by omega)]
 rfl
section
variable {C:Cn} {cm:Bool} {k:Nat} {N:List Str} {sc:Scope} {a b c:Expr} {A B:EX} {pos:Pos} {X:Cx}
theorem Sta.K(S:Sta C cm k N sc X):X.K=C.K:=by have:=S.cn; subst this; rfl
theorem Sta.KK(S:Sta C cm k N sc X):kkX X=C.K:=by have:=S.cn; subst this; rfl
theorem mul_fits'{i j:Int}(h:mulOk i j=true):IntMulOk i j:=by
 have h3:i.natAbs.log2+j.natAbs.log2 < 50000000:=of_decide_eq_true h
 have b:∀ x:Int,Builtin.Int.intBits x≤x.natAbs.log2+1:=fun x=>by
  unfold Builtin.Int.intBits
  split <;> omega
 have h1:=b i
 have h2:=b j
 have e:bitsLine=134217728:=by decide
 unfold IntMulOk
 intro z
 rw [Bool.and_eq_true] at z
 have z2:=z.2
 unfold Builtin.Int.intTooBig at z2
 have z3:=of_decide_eq_true z2
 rw [e] at z3
 omega
theorem op_mulV:OpR X (binaryOp .Mult) (rI (fun i j=>mulOk i j=true) fun i j=>.int (i * j)):=opI fun _ _ _ _ _ _ _ hc q=>mul_int q (mul_fits' hc)
theorem op2_int{g:Int→Int→Int}{Cd:Int→Int→Prop}{f:PV→PV→Res PV}(h1:∀ p q z,f p q = .ok z→∃ i j,p = .int i∧q = .int j∧Cd i j∧z = .int (g i j))(h2:∀ p q c,f p q ≠ .exc c):Op2 C (rI Cd fun i j=>.int (g i j)) f:=by
 intro p q v u H Q rp rq
 cases e:f p q with
 | ok z =>
  obtain ⟨i,j,rfl,rfl,hc,rfl⟩:=h1 p q z e
  unfold Rep at rp rq
  subst rp rq
  exact fun hq=>⟨i,j,rfl,rfl,hc,hq fun F=>rep_int⟩
 | exc c=>exact h2 p q c e
 | bad=>trivial
theorem op2_cmp{g:Int→Int→Bool}{f:PV→PV→Res PV}(h1:∀ p q z,f p q = .ok z→∃ i j,p = .int i∧q = .int j∧z = .bl (g i j))(h2:∀ p q c,f p q ≠ .exc c):Op2 C (rI0 fun i j=>.bl (g i j)) f:=by
 intro p q v u H Q rp rq
 cases e:f p q with
 | ok z =>
  obtain ⟨i,j,rfl,rfl,rfl⟩:=h1 p q z e
  unfold Rep at rp rq
  subst rp rq
  exact fun hq=>⟨i,j,rfl,rfl,hq fun F=>rep_bl⟩
 | exc c=>exact h2 p q c e
 | bad=>trivial
theorem op2_sub:Op2 C (rI (fun _ _=>True) fun i j=>.int (i - j)) opSub:=op2_int (g:=fun i j=>i - j) (by intro p q z h; cases p <;> cases q <;> simp_all [opSub]) (by intro p q c h; cases p <;> cases q <;> simp_all [opSub])
theorem op2_mod:Op2 C (rI (fun _ j=>0 < j) fun i j=>.int (i % j)) opMod:=op2_int (g:=fun i j=>i % j) (by intro p q z h; cases p <;> cases q <;> simp_all [opMod]; split at h <;> simp_all) (by intro p q c h; cases p <;> cases q <;> simp_all [opMod]; split at h <;> simp_all)
theorem op2_fdiv:Op2 C (rI CDivW fun i j=>.int (i / j)) opFdiv:=op2_int (g:=fun i j=>i / j) (by intro p q z h; cases p <;> cases q <;> simp_all [opFdiv]; split at h <;> simp_all [CDivW]) (by intro p q c h; cases p <;> cases q <;> simp_all [opFdiv]; split at h <;> simp_all)
theorem op2_pow:Op2 C (rI CPow fun i j=>.int (i ^ j.toNat)) opPow:=op2_int (g:=fun i j=>i ^ j.toNat) (by
  intro p q z h
  cases p <;> cases q <;> simp_all [opPow]
  split at h <;> simp_all [CPow]
  omega) (by intro p q c h; cases p <;> cases q <;> simp_all [opPow]; split at h <;> simp_all)
theorem op2_lt:Op2 C (rI0 fun i j=>.bl (decide (i < j))) opLt:=op2_cmp (g:=fun i j=>decide (i < j)) (by intro p q z h; cases p <;> cases q <;> simp_all [opLt]) (by intro p q c h; cases p <;> cases q <;> simp_all [opLt])
theorem op2_gt:Op2 C (rI0 fun i j=>.bl (decide (j < i))) opGt:=op2_cmp (g:=fun i j=>decide (j < i)) (by intro p q z h; cases p <;> cases q <;> simp_all [opGt]) (by intro p q c h; cases p <;> cases q <;> simp_all [opGt])
theorem op2_ge:Op2 C (rI0 fun i j=>.bl (decide (j≤i))) opGe:=op2_cmp (g:=fun i j=>decide (j≤i)) (by intro p q z h; cases p <;> cases q <;> simp_all [opGe]) (by intro p q c h; cases p <;> cases q <;> simp_all [opGe])
theorem op2_eq:Op2 C (rEqD C.K) opEq:=by
 intro p q v u H Q rp rq
 unfold opEq
 by_cases h:(shp 60 p && shp 60 q)=true
 ·rw [if_pos h]
  rw [Bool.and_eq_true] at h
  intro hq
  have d:=(rep_dp 60 p v h.1 rp).1
  have d':=(rep_dp 60 q u h.2 rq).1
  refine ⟨dat p,dat q,d,d',shaped_dat (by omega) h.1 rp,shaped_dat (by omega) h.2 rq,?_⟩
  rw [eqv_dat 60 60 p q h.1 h.2]
  exact hq fun F=>rep_bl
 ·rw [if_neg h]; trivial
theorem op2_ne:Op2 C (rNeD C.K) opNe:=by
 intro p q v u H Q rp rq
 unfold opNe
 by_cases h:(shp 60 p && shp 60 q)=true
 ·rw [if_pos h]
  rw [Bool.and_eq_true] at h
  intro hq
  have d:=(rep_dp 60 p v h.1 rp).1
  have d':=(rep_dp 60 q u h.2 rq).1
  refine ⟨dat p,dat q,d,d',shaped_dat (by omega) h.1 rp,shaped_dat (by omega) h.2 rq,?_⟩
  rw [eqv_dat 60 60 p q h.1 h.2]
  exact hq fun F=>rep_bl
 ·rw [if_neg h]; trivial
theorem de_sub(ha:DE C cm k N sc a A)(hb:DE C cm k N sc b B):DE C cm k N sc (.BinOp a .Sub b pos) (eOp2 opSub A B) :=
 de_op2 (r:=rI (fun _ _=>True) fun i j=>.int (i - j)) (fun X S=>opI fun _ _ _ _ _ _ _ _ q=>sub_int q) op2_sub ha hb
theorem de_mod(ha:DE C cm k N sc a A)(hb:DE C cm k N sc b B):DE C cm k N sc (.BinOp a .Mod b pos) (eOp2 opMod A B) :=
 de_op2 (r:=rI (fun _ j=>0 < j) fun i j=>.int (i % j)) (fun X S=>op_mod) op2_mod ha hb
theorem de_fdiv(ha:DE C cm k N sc a A)(hb:DE C cm k N sc b B):DE C cm k N sc (.BinOp a .FloorDiv b pos) (eOp2 opFdiv A B) :=
 de_op2 (r:=rI CDivW fun i j=>.int (i / j)) (fun X S=>op_fdivW) op2_fdiv ha hb
theorem de_pow(ha:DE C cm k N sc a A)(hb:DE C cm k N sc b B):DE C cm k N sc (.BinOp a .Pow b pos) (eOp2 opPow A B) :=
 de_op2 (r:=rI CPow fun i j=>.int (i ^ j.toNat)) (fun X S=>op_pow) op2_pow ha hb
def DCm(C:Cn)(cm:Bool)(k:Nat)(N:List Str)(sc:Scope)(op:CmpOp)(a b:Expr)(E:EX):Prop:=∃ tb:WX→TE,(∀ X,Sta C cm k N sc X→∀ W,Takes X W→PC X op a b (tb W)) ∧
 ∀ W σ Γ F0 H0 F H Q,Good C.K F0 H0 Γ σ F H→EOk C W σ F H Q (E Γ)→tb W σ H Q
theorem pc_of{op:CmpOp}{r:R2}{ta tb:TE}(ho:OpR X (compareOp op) r)(ha:PE X a ta)(hb:PE X b tb):PC X op a b (tOp r ta tb) :=
 ⟨fun pins s σ H Q I h=>binT ha hb I h fun v u s2 x y H2 I2 rx ry q=>ho pins s2 σ H2 x y v u Q I2 rx ry q⟩
theorem dc_op{op:CmpOp}{r:R2}{f:PV→PV→Res PV}(ho:∀ X,Sta C cm k N sc X→OpR X (compareOp op) r)(ho2:Op2 C r f)(ha:DE C cm k N sc a A)(hb:DE C cm k N sc b B):DCm C cm k N sc op a b (eOp2 f A B):=by
 obtain ⟨ta,pa,qa⟩:=ha
 obtain ⟨tb,pb,qb⟩:=hb
 refine ⟨fun W=>tOp r (ta W) (tb W),fun X S W T=>pc_of (ho X S) (pa X S W T) (pb X S W T),fun W σ Γ F0 H0 F H Q g h=>?_⟩
 refine qa W σ Γ F0 H0 F H _ g (EOk.bind h fun x v F1 H1 ex e1 r1 h1=>?_)
 refine qb W σ Γ F0 H0 F1 H1 _ (g.next e1) (EOk.bind (h1.next e1) fun y u F2 H2 ey e2 r2 h2=>?_)
 have q:=ho2 x.2 y.2 v u H2 Q ((r1.ext e2).rep e2.fh) (r2.rep e2.fh)
 cases e:f x.2 y.2 with
 | ok z =>
  rw [e] at q h2
  exact q fun rz=>(h2.next e2).fzv (Ext.refl e2.fh e2.tp) z (toV z) rfl (rz _)
 | exc c=>rw [e] at q; exact q.elim
 | bad=>rw [e] at h2; exact h2.elim
theorem de_c{op:CmpOp}{E:EX}(h:DCm C cm k N sc op a b E)(hm:behindInMarks op b=false:=by rfl):DE C cm k N sc (.Compare a [op] [b] pos) E:=by
 obtain ⟨tb,pb,qb⟩:=h
 exact ⟨tb,fun X S W T=>pe_cmp (pb X S W T) hm,qb⟩
theorem dc_lt(ha:DE C cm k N sc a A)(hb:DE C cm k N sc b B):DCm C cm k N sc .Lt a b (eOp2 opLt A B):=dc_op (r:=rI0 fun i j=>.bl (decide (i < j))) (fun X S=>op_lt) op2_lt ha hb
theorem dc_gt(ha:DE C cm k N sc a A)(hb:DE C cm k N sc b B):DCm C cm k N sc .Gt a b (eOp2 opGt A B):=dc_op (r:=rI0 fun i j=>.bl (decide (j < i))) (fun X S=>op_gt) op2_gt ha hb
theorem dc_ge(ha:DE C cm k N sc a A)(hb:DE C cm k N sc b B):DCm C cm k N sc .GtE a b (eOp2 opGe A B):=dc_op (r:=rI0 fun i j=>.bl (decide (j≤i))) (fun X S=>op_ge) op2_ge ha hb
theorem dc_eq(ha:DE C cm k N sc a A)(hb:DE C cm k N sc b B):DCm C cm k N sc .Eq a b (eOp2 opEq A B):=dc_op (r:=rEqD C.K) (fun X S=>by rw [← S.K]; exact op_eqD (by have:=S.u; omega)) op2_eq ha hb
theorem dc_ne(ha:DE C cm k N sc a A)(hb:DE C cm k N sc b B):DCm C cm k N sc .NotEq a b (eOp2 opNe A B):=dc_op (r:=rNeD C.K) (fun X S=>by rw [← S.K]; exact op_neD (by have:=S.u; omega)) op2_ne ha hb
end
end Vl
end
section
set_option Elab.async false
set_option linter.all false
set_option maxRecDepth 100000
set_option maxHeartbeats 1000000
namespace Vl
open PySem L2 Vm PyProof.Rows
section
variable {C:Cn} {cm:Bool} {k:Nat} {N:List Str} {sc:Scope} {a b c:Expr} {A B:EX} {T U:TX} {pos:Pos} {X:Cx}
end
section
variable {C:Cn} {cm:Bool} {k:Nat} {N:List Str} {sc:Scope} {a b c:Expr} {A B:EX} {T U:TX} {pos:Pos} {X:Cx}
theorem de_un1{f:PV→Res PV}{e:Expr}(tm:TE→TE)(r:V→Hp→VK→Prop)(hp:∀ X,Sta C cm k N sc X→∀ t,PE X a t→PE X e (tm t))(ht:∀ t,tm t=fun σ H Q=>t σ H fun v H1=>r v H1 Q)
  (hr:∀ p v H Q,Rep C.K H p v→match f p with
   | .ok z=>((∀ F,Rep C.K F z (toV z))→Q (toV z) H)→r v H Q
   | .exc _=>False
   | .bad=>True)(ha:DE C cm k N sc a A):DE C cm k N sc e (eOp1 f A):=by
 obtain ⟨ta,pa,qa⟩:=ha
 refine ⟨fun W=>tm (ta W),fun X S W T=>hp X S _ (pa X S W T),fun W σ Γ F0 H0 F H Q g h=>?_⟩
 show tm (ta W) σ H Q
 rw [ht]
 refine qa W σ Γ F0 H0 F H _ g (EOk.bind h fun x v F1 H1 ex e1 r1 h1=>?_)
 have q:=hr x.2 v H1 Q (r1.rep e1.fh)
 cases e:f x.2 with
 | ok z =>
  rw [e] at h1 q
  exact q fun rz=>(h1.next e1).fzv (Ext.refl e1.fh e1.tp) z (toV z) rfl (rz _)
 | exc c=>rw [e] at q; exact q.elim
 | bad=>rw [e] at h1; exact h1.elim
theorem de_neg(ha:DE C cm k N sc a A):DE C cm k N sc (.UnaryOp .USub a pos) (eOp1 opNeg A) :=
 de_un1 (fun t=>tUn (rU fun i=>.int (-i)) t) (fun v H Q=>rU (fun i=>.int (-i)) v H Q) (fun X S t h=>pe_un un_neg h) (fun _=>rfl) (fun p v H Q h=>by
  cases p <;> simp only [opNeg] <;> (try trivial)
  unfold Rep at h
  subst h
  exact fun q=>⟨_,rfl,q fun F=>rep_int⟩) ha
theorem rep_isNon{K:KK}{H:Hp}{p:PV}{v:V}(h:Rep K H p v):decide (v = .non)=isNon p:=by
 cases p <;> unfold Rep at h
 case non=>subst h; rfl
 case bl=>subst h; rfl
 case int=>subst h; rfl
 case str=>obtain ⟨rfl,_⟩:=h; rfl
 case tup=>obtain ⟨_,_,rfl,_⟩:=h; rfl
 case lst=>obtain ⟨_,_,rfl,_⟩:=h; rfl
 case dic=>obtain ⟨_,_,_,rfl,_⟩:=h; rfl
 case exo c l =>
  cases c with
  | zero=>obtain ⟨_,_,_,_,rfl,_⟩:=h; rfl
  | succ c =>
   cases c with
   | zero=>obtain ⟨_,_,_,rfl,_⟩:=h; rfl
   | succ c=>obtain ⟨_,_,rfl,_⟩:=h; rfl
theorem dc_isN{j pos'}(ha:DE C cm k N sc a A):DCm C cm k N sc .Is a (.Constant .none j pos') (eOp1 opIsN A):=by
 obtain ⟨ta,pa,qa⟩:=ha
 refine ⟨fun W=>tIsN (ta W),fun X S W T=>pc_isN (pa X S W T),fun W σ Γ F0 H0 F H Q g h=>?_⟩
 refine qa W σ Γ F0 H0 F H _ g (EOk.bind h fun x v F1 H1 ex e1 r1 h1=>?_)
 show Q (.bl (decide (v = .non))) H1
 rw [rep_isNon (r1.rep e1.fh)]
 exact h1 _ F1 H1 e1 (.fz rep_bl)
theorem dc_notN{j pos'}(ha:DE C cm k N sc a A):DCm C cm k N sc .IsNot a (.Constant .none j pos') (eOp1 opNotN A):=by
 obtain ⟨ta,pa,qa⟩:=ha
 refine ⟨fun W=>tNotN (ta W),fun X S W T=>pc_notN (pa X S W T),fun W σ Γ F0 H0 F H Q g h=>?_⟩
 refine qa W σ Γ F0 H0 F H _ g (EOk.bind h fun x v F1 H1 ex e1 r1 h1=>?_)
 show Q (.bl (!decide (v = .non))) H1
 rw [rep_isNon (r1.rep e1.fh)]
 exact h1 _ F1 H1 e1 (.fz rep_bl)
theorem dt_val{e:Expr}(h:DE C cm k N sc e A)(he:∀ (env:PySem.Env) (whole:Sem Value),isTrue e env whole=(do let v ← whole; standAt e.pos; holding [v] (truthy v)):=by intro _ _; rfl):DT C cm k N sc e (xVal A):=by
 obtain ⟨ta,pa,qa⟩:=h
 refine ⟨fun W=>tB (ta W),fun X S W T=>pt_val (pa X S W T) (he _),fun W σ Γ F0 H0 F H Q g h=>?_⟩
 refine qa W σ Γ F0 H0 F H _ g (EOk.bindT h fun x v F1 H1 ex e1 r1 h1=>?_)
 have r:=r1.rep e1.fh
 obtain ⟨t,p⟩:=x
 cases p with
 | bl b=>unfold Rep at r; exact ⟨b,r,h1 F1 H1 e1⟩
 | _=>exact h1.elim
theorem dt_c{op:CmpOp}{E:EX}(h:DCm C cm k N sc op a b E)(hm:behindInMarks op b=false:=by rfl):DT C cm k N sc (.Compare a [op] [b] pos) (xVal E):=by
 obtain ⟨tb,pb,qb⟩:=h
 refine ⟨fun W=>tB (tb W),fun X S W T=>pt_cmp (pb X S W T) hm,fun W σ Γ F0 H0 F H Q g h=>?_⟩
 refine qb W σ Γ F0 H0 F H _ g (EOk.bindT h fun x v F1 H1 ex e1 r1 h1=>?_)
 have r:=r1.rep e1.fh
 obtain ⟨t,p⟩:=x
 cases p with
 | bl b=>unfold Rep at r; exact ⟨b,r,h1 F1 H1 e1⟩
 | _=>exact h1.elim
theorem dt_not(h:DT C cm k N sc a T):DT C cm k N sc (.UnaryOp .Not a pos) (xNot T):=by
 obtain ⟨ta,pa,qa⟩:=h
 refine ⟨fun W=>tNot (ta W),fun X S W T=>pt_not (pa X S W T),fun W σ Γ F0 H0 F H Q g h=>?_⟩
 exact qa W σ Γ F0 H0 F H _ g (TOk.bindT h fun b F1 H1 eb e1 h1=>h1 F1 H1 e1)
theorem dt_chain{e:Expr}(h:DW C cm k N sc e T):DT C cm k N sc e T:=by
 obtain ⟨ta,pa,qa⟩:=h
 exact ⟨ta,fun X S W T=>(pa X S W T).pt,qa⟩
theorem dw_and1(h:DT C cm k N sc a T):DW C cm k N sc (.BoolOp .And [a] pos) T:=by
 obtain ⟨ta,pa,qa⟩:=h
 exact ⟨ta,fun X S W T=>pw_and1 (pa X S W T),qa⟩
theorem dw_or1(h:DT C cm k N sc a T):DW C cm k N sc (.BoolOp .Or [a] pos) T:=by
 obtain ⟨ta,pa,qa⟩:=h
 exact ⟨ta,fun X S W T=>pw_or1 (pa X S W T),qa⟩
theorem dw_and{rest:List Expr}(ha:DT C cm k N sc a T)(hb:DW C cm k N sc (.BoolOp .And (b :: rest) pos) U):DW C cm k N sc (.BoolOp .And (a :: b :: rest) pos) (xAnd T U):=by
 obtain ⟨ta,pa,qa⟩:=ha
 obtain ⟨tb,pb,qb⟩:=hb
 refine ⟨fun W=>tAnd (ta W) (tb W),fun X S W T=>pw_and (pa X S W T) (pb X S W T),fun W σ Γ F0 H0 F H Q g h=>?_⟩
 refine qa W σ Γ F0 H0 F H _ g (TOk.bindT h fun c F1 H1 eb e1 h1=>?_)
 cases c with
 | true=>exact iteT (qb W σ Γ F0 H0 F1 H1 Q (g.next e1) (h1.next e1))
 | false=>exact iteF (h1 F1 H1 e1)
theorem dw_or{rest:List Expr}(ha:DT C cm k N sc a T)(hb:DW C cm k N sc (.BoolOp .Or (b :: rest) pos) U):DW C cm k N sc (.BoolOp .Or (a :: b :: rest) pos) (xOr T U):=by
 obtain ⟨ta,pa,qa⟩:=ha
 obtain ⟨tb,pb,qb⟩:=hb
 refine ⟨fun W=>tOr (ta W) (tb W),fun X S W T=>pw_or (pa X S W T) (pb X S W T),fun W σ Γ F0 H0 F H Q g h=>?_⟩
 refine qa W σ Γ F0 H0 F H _ g (TOk.bindT h fun c F1 H1 eb e1 h1=>?_)
 cases c with
 | true=>exact iteT (h1 F1 H1 e1)
 | false=>exact iteF (qb W σ Γ F0 H0 F1 H1 Q (g.next e1) (h1.next e1))
theorem de_one{op}(h:DE C cm k N sc a A):DE C cm k N sc (.BoolOp op [a] pos) A:=by
 obtain ⟨ta,pa,qa⟩:=h
 exact ⟨ta,fun X S W T=>pe_one (pa X S W T),qa⟩
theorem de_and{rest:List Expr}(ha:DE C cm k N sc a A)(hb:DE C cm k N sc (.BoolOp .And (b :: rest) pos) B):DE C cm k N sc (.BoolOp .And (a :: b :: rest) pos) (eAnd A B):=by
 obtain ⟨ta,pa,qa⟩:=ha
 obtain ⟨tb,pb,qb⟩:=hb
 refine ⟨fun W=>tAndV (ta W) (tb W),fun X S W T=>pe_and (pa X S W T) (pb X S W T),fun W σ Γ F0 H0 F H Q g h=>?_⟩
 refine qa W σ Γ F0 H0 F H _ g (EOk.bind h fun x v F1 H1 ex e1 r1 h1=>?_)
 have r:=r1.rep e1.fh
 obtain ⟨t,p⟩:=x
 cases p with
 | bl c =>
  unfold Rep at r
  refine ⟨c,r,?_⟩
  cases c with
  | true=>exact iteT (qb W σ Γ F0 H0 F1 H1 Q (g.next e1) (h1.next e1))
  | false=>exact iteF (h1 _ F1 H1 e1 (.fz rep_bl))
 | _=>exact h1.elim
end
end Vl
end
section
set_option Elab.async false
set_option linter.all false
set_option maxRecDepth 100000
set_option maxHeartbeats 1000000
namespace Vl
open PySem L2 Vm PyProof.Rows
section
variable {C:Cn} {cm:Bool} {k:Nat} {N:List Str} {sc:Scope} {a b c e:Expr} {es:List Expr} {A B:EX} {As:EXs} {T U:TX} {pos:Pos} {X:Cx}
theorem AOk.next{W:WX}{σ:L2.St}{F H F1 H1:Hp}{Q:List V→Hp→Prop}{r:Res (List TV)}(h:AOk C W σ F H Q r)(e:Ext F H F1 H1):AOk C W σ F1 H1 Q r:=by
 cases r with
 | ok x=>exact fun v fp F' H' e' rv=>h v fp F' H' (e.trans e') (rv.start e.hh)
 | exc c=>exact fun F' H' e'=>h F' H' (e.trans e')
 | bad=>exact h
theorem da_nil:DA C cm k N sc [] eNil:=⟨fun _=>tNil,fun _ _ _ _=>pa_nil,fun W σ Γ F0 H0 F H Q g h=>h [] [] F H g.here ⟨rfl,rfl⟩⟩
theorem da_cons(ha:DE C cm k N sc e A)(hs:DA C cm k N sc es As)(hst:∀ env:PySem.Env,starEach (e :: es) env=(false,eval e env) :: starEach es env:=by intro _; rfl):DA C cm k N sc (e :: es) (eCons A As):=by
 obtain ⟨ta,pa,qa⟩:=ha
 obtain ⟨tb,pb,qb⟩:=hs
 refine ⟨fun W=>tCons (ta W) (tb W),fun X S W T=>pa_cons (pa X S W T) (pb X S W T) (hst _),fun W σ Γ F0 H0 F H Q g h=>?_⟩
 refine qa W σ Γ F0 H0 F H _ g ?_
 unfold eCons at h
 cases ex:A Γ with
 | exc c=>rw [ex] at h; exact h
 | bad=>rw [ex] at h; exact h
 | ok x =>
  rw [ex,bind_ok] at h
  intro v F1 H1 e1 r1
  refine qb W σ Γ F0 H0 F1 H1 _ (g.next e1) ?_
  cases exs:As Γ with
  | exc c=>rw [exs] at h; exact fun F' H' e'=>h F' H' (e1.trans e')
  | bad=>rw [exs] at h; exact h
  | ok xs =>
   rw [exs,bind_ok] at h
   intro vs fp F2 H2 e2 r2
   obtain ⟨f,rf,hf⟩:=r1.norm
   refine h (v :: vs) (f++fp) F2 H2 (e1.trans e2) ⟨v,vs,f,fp,rfl,rfl,rf.ext e2,r2.start e1.hh,fun a ha hm=>(hf a ha).2 (r2.news a hm).1,fun a ha=>⟨(hf a ha).1,fun z=>(hf a ha).2 (e2.hh.free z)⟩⟩
theorem put_noexc:∀ {x:TV} {c:Nat},putV x ≠ .exc c
 | (.fz,_),_=>fun h=>by cases h
 | (.ow _,_),_=>fun h=>by cases h
 | (.bw 0,_),_=>fun h=>by cases h
 | (.bw (_+1),_),_=>fun h=>by cases h
theorem putVs_noexc:∀ {xs:List TV} {c:Nat},putVs xs = .exc c→False
 | [],_,h=>by cases h
 | x :: xs,c,h=>by
  unfold putVs at h
  cases q:putV x with
  | ok p =>
   rw [q,bind_ok] at h
   cases q2:putVs xs with
   | ok ps=>rw [q2] at h; cases h
   | exc c=>exact putVs_noexc q2
   | bad=>rw [q2] at h; cases h
  | exc c=>exact put_noexc q
  | bad=>rw [q] at h; cases h
theorem ownl_flat{K:KK}{F H:Hp}:∀ {ps:List PV} {vs:List V},RepL K F ps vs→OwnL (Own K F H 0) (ps.map fun _=>[]) ps vs
 | [],vs,h=>by unfold RepL at h; subst h; trivial
 | p :: ps,vs,h=>by
  unfold RepL at h
  obtain ⟨v,r,rfl,h2,h3⟩:=h
  exact ⟨⟨rfl,h2⟩,ownl_flat h3⟩
theorem flat_nil{α β:Type}:∀ l:List α,(l.map fun _=>([]:List β)).flatten=[]
 | []=>rfl
 | x :: xs=>by rw [List.map_cons,List.flatten_cons,flat_nil xs]; rfl
theorem own_new{K:KK}{F H:Hp}{p:Addr}{ps:List PV}{vs:List V}(h:RepL K F ps vs)(e:H p=some (.lst vs)):Own K F H 1 [p] (.lst ps) (.ref p) :=
 Own.mkL ⟨ps,p,vs,ps.map fun _=>[],rfl,rfl,e,by rw [flat_nil],ownl_flat h⟩
theorem rv_new{K:KK}{F H Hs:Hp}{p:Addr}{ps:List PV}{vs:List V}(h:RepL K F ps vs)(e:H p=some (.lst vs))(hf:F p=none)(hs:Hs p=none):RV K F H Hs (.ow 1,.lst ps) (.ref p) :=
 ⟨[p],own_new h e,by simp,fun a ha=>by simp at ha; subst ha; exact ⟨hf,hs⟩⟩
theorem szL_eq:16777216=sizeLine:=sizeLine_eq.symm
theorem de_tup(hs:DA C cm k N sc es As){x1}:DE C cm k N sc (.Tuple es x1 pos) (eTup As):=by
 obtain ⟨tb,pb,qb⟩:=hs
 refine ⟨fun W=>tTupD (tb W),fun X S W T=>pe_tupD (pb X S W T),fun W σ Γ F0 H0 F H Q g h=>?_⟩
 refine qb W σ Γ F0 H0 F H _ g (AOk.bind h fun xs vs fp F1 H1 ex e1 r1 h1=>?_)
 cases hp:putVs xs with
 | ok ps =>
  rw [hp,bind_ok] at h1
  obtain ⟨F2,e2,s2,r2,_⟩:=RVs.put e1 r1 hp
  by_cases hz:ps.length≤16777216
  ·rw [if_pos hz] at h1
   refine ⟨by rw [r2.len,← szL_eq]; exact hz,fun p o hp hd=>?_⟩
   refine h1 (.ref p) (upd F2 p (tq (o,vs))) _ (e2.trans (Ext.tup e2.fh e2.tp hp)) (.fz ?_)
   unfold Rep
   exact ⟨p,vs,rfl,.new hd,r2.mono (same_new (e2.fh.free hp)) _ _⟩
  ·rw [if_neg hz] at h1; exact h1.elim
 | exc c=>exact (putVs_noexc hp).elim
 | bad=>rw [hp] at h1; exact h1.elim
theorem de_lst(hs:DA C cm k N sc es As):DE C cm k N sc (.List es pos) (eLst As):=by
 obtain ⟨tb,pb,qb⟩:=hs
 refine ⟨fun W=>tLst (tb W),fun X S W T=>pe_lst (pb X S W T),fun W σ Γ F0 H0 F H Q g h=>?_⟩
 refine qb W σ Γ F0 H0 F H _ g (AOk.bind h fun xs vs fp F1 H1 ex e1 r1 h1=>?_)
 cases hp:putVs xs with
 | ok ps =>
  rw [hp,bind_ok] at h1
  obtain ⟨F2,e2,s2,r2,_⟩:=RVs.put e1 r1 hp
  by_cases hz:ps.length≤16777216
  ·rw [if_pos hz] at h1
   refine ⟨by rw [r2.len,← szL_eq]; exact hz,fun p hp=>?_⟩
   exact h1 (.ref p) F2 _ (e2.trans (Ext.lst e2.fh e2.tp hp)) (rv_new r2 upd_same (e2.fh.free hp) (e1.hh.free hp))
  ·rw [if_neg hz] at h1; exact h1.elim
 | exc c=>exact (putVs_noexc hp).elim
 | bad=>rw [hp] at h1; exact h1.elim
end
end Vl
end
section
set_option Elab.async false
set_option linter.all false
set_option maxRecDepth 100000
set_option maxHeartbeats 1000000
namespace Vl
open PySem L2 Vm PyProof.Rows
section
variable {C:Cn} {cm:Bool} {k:Nat} {N:List Str} {sc:Scope} {a b c e:Expr} {es:List Expr} {A B:EX} {As:EXs} {T U:TX} {pos:Pos} {X:Cx}
theorem plain_rep{K:KK}{H:Hp}:∀ {p:PV} {v:V},plainP p=true→Rep K H p v→v=toV p∧flatV v=true
 | .non,v,_,h=>by unfold Rep at h; subst h; exact ⟨rfl,rfl⟩
 | .bl _,v,_,h=>by unfold Rep at h; subst h; exact ⟨rfl,rfl⟩
 | .int _,v,_,h=>by unfold Rep at h; subst h; exact ⟨rfl,rfl⟩
 | .str _,v,_,h=>by unfold Rep at h; obtain ⟨rfl,_⟩:=h; exact ⟨rfl,rfl⟩
 | .tup _,v,h,_=>by simp [plainP] at h
 | .lst _,v,h,_=>by simp [plainP] at h
 | .dic _ _,v,h,_=>by simp [plainP] at h
 | .exo _ _,v,h,_=>by simp [plainP] at h
theorem Sta.u'(S:Sta C cm k N sc X):X.A.units+65 < cLine:=by have:=S.u; omega
theorem vAt_rep{K:KK}{H:Hp}{l:List PV}{vs:List V}{i:Int}{p:PV}(h:RepL K H l vs)(e:vAt l i=some p):∃ v,L2.atI vs i=some v∧Rep K H p v∧∃ j:Nat,vIxN l.length i=some j∧l[j]? = some p∧vs[j]? = some v:=by
 unfold vAt at e
 cases hj:vIxN l.length i with
 | none=>rw [hj] at e; cases e
 | some j =>
  rw [hj] at e
  obtain ⟨v,h1,h2⟩:=h.get (show l[j]? = some p from e)
  refine ⟨v,?_,h2,j,rfl,e,h1⟩
  show ((vIxN vs.length i).bind fun j=>vs[j]?)=some v
  rw [h.len,hj]
  exact h1
theorem own_part{K:KK}{F H:Hp}{d:Nat}:∀ {fs:List (List Addr)} {ps:List PV} {vs:List V} {j:Nat} {p:PV} {v:V},OwnL (Own K F H d) fs ps vs→ps[j]? = some p→vs[j]? = some v→∃ f,Own K F H d f p v
 | [],[],[],j,p,v,_,h,_=>by simp at h
 | f :: fs,q :: ps,u :: vs,0,p,v,h,h1,h2=>by
  simp at h1 h2
  subst h1 h2
  exact ⟨f,h.1⟩
 | f :: fs,q :: ps,u :: vs,j+1,p,v,h,h1,h2=>own_part (j:=j) h.2 (by simpa using h1) (by simpa using h2)
 | [],[],_ :: _,_,_,_,h,_,_=>h.elim
 | [],_ :: _,_,_,_,_,h,_,_=>h.elim
 | _ :: _,[],_,_,_,_,h,_,_=>h.elim
 | _ :: _,_ :: _,[],_,_,_,h,_,_=>h.elim
theorem ownl_rep{K:KK}{F H:Hp}(hf:Same F H){d:Nat}:∀ {fs:List (List Addr)} {ps:List PV} {vs:List V},OwnL (Own K F H d) fs ps vs→RepL K H ps vs
 | [],[],[],_=>RepL.nil
 | f :: fs,q :: ps,u :: vs,h=>RepL.cons (Own.rep hf d h.1) (ownl_rep hf h.2)
 | [],[],_ :: _,h=>h.elim
 | [],_ :: _,_,h=>h.elim
 | _ :: _,[],_,h=>h.elim
 | _ :: _,_ :: _,[],h=>h.elim
theorem rv_part{K:KK}{F H Hs:Hp}{t:Tg}{l:List PV}{v:V}(hf:Same F H)(h:RV K F H Hs (t,.lst l) v):∃ a vs,v = .ref a∧SqL K H a vs∧RepL K H l vs∧∀ (j:Nat) p u,l[j]? = some p→vs[j]? = some u→∀ Hs',RV K F H Hs' (dn t,p) u:=by
 have own:∀ {d:Nat} {fp:List Addr},Own K F H d fp (.lst l) v→∃ a vs,v = .ref a∧SqL K H a vs∧RepL K H l vs∧∀ (j:Nat) p u,l[j]? = some p→vs[j]? = some u→∀ Hs',RV K F H Hs' (dn (.bw d),p) u:=by
  intro d fp h
  cases d with
  | zero =>
   have r:=h.2
   unfold Rep at r
   obtain ⟨a,vs,rfl,h2,h3⟩:=r
   refine ⟨a,vs,rfl,hf.seq h2,h3.mono hf _ _,fun j p u e1 e2 Hs'=>.fz ?_⟩
   obtain ⟨u',e3,r⟩:=h3.get e1
   rw [e2] at e3; cases e3
   exact r
  | succ d =>
   have rr:=Own.rep hf (d+1) h
   obtain ⟨l',a,vs,fps,e0,rfl,h3,h4,h5⟩:=h.lst
   cases e0
   unfold Rep at rr
   obtain ⟨a',vs',e1,h6,h7⟩:=rr
   cases e1
   have ev:RepL K H l vs:=ownl_rep hf h5
   refine ⟨a,vs,rfl,SqL.of h3,ev,fun j p u e1 e2 Hs'=>?_⟩
   obtain ⟨f,o⟩:=own_part h5 e1 e2
   cases d with
   | zero=>exact .fz o.2
   | succ d=>exact ⟨[],f,o⟩
 cases t with
 | fz =>
  obtain ⟨_,r⟩:=h
  have r:Rep K F (.lst l) v:=r
  unfold Rep at r
  obtain ⟨a,vs,rfl,h2,h3⟩:=r
  refine ⟨a,vs,rfl,hf.seq h2,h3.mono hf _ _,fun j p u e1 e2 Hs'=>.fz ?_⟩
  obtain ⟨u',e3,r⟩:=h3.get e1
  rw [e2] at e3; cases e3
  exact r
 | bw d =>
  obtain ⟨_,fp,h⟩:=h
  exact own h
 | ow d =>
  obtain ⟨fp,h,_⟩:=h
  obtain ⟨a,vs,h1,h2,h3,h4⟩:=own h
  refine ⟨a,vs,h1,h2,h3,?_⟩
  cases d with
  | zero=>exact h4
  | succ d=>cases d with
   | zero=>exact h4
   | succ d=>exact h4
theorem de_idx(ha:DE C cm k N sc a A)(hb:DE C cm k N sc b B)(hs:PlainIx b:=by exact fun _ _=>rfl):DE C cm k N sc (.Subscript a b pos) (eIdx A B):=by
 obtain ⟨ta,pa,qa⟩:=ha
 obtain ⟨tb,pb,qb⟩:=hb
 refine ⟨fun W=>tOp (rIx C.K) (ta W) (tb W),fun X S W T=>by rw [← S.K]; exact pe_ix ix_seq (pa X S W T) (pb X S W T) hs,fun W σ Γ F0 H0 F H Q g h=>?_⟩
 refine qa W σ Γ F0 H0 F H _ g (EOk.bind h fun x v F1 H1 ex e1 r1 h1=>?_)
 refine qb W σ Γ F0 H0 F1 H1 _ (g.next e1) (EOk.bind (h1.next e1) fun y u F2 H2 ey e2 r2 h2=>?_)
 have h3:=h2.next e2
 have ry:=r2.rep e2.fh
 have rx:=r1.ext e2
 obtain ⟨t,p⟩:=x
 obtain ⟨t',q⟩:=y
 have fin:Ext F2 H2 F2 H2:=Ext.refl e2.fh e2.tp
 cases q with
 | int i =>
  unfold Rep at ry
  subst ry
  cases p with
  | lst l =>
   obtain ⟨ad,vs,rfl,s2,r3,part⟩:=rv_part e2.fh rx
   show rIx C.K (.ref ad) (.int i) H2 Q
   cases ei:vAt l i with
   | none =>
    have:EOk C W σ F2 H2 Q (match vAt l i with | some x=>.ok (dn t,x) | none=>.bad):=h3
    rw [ei] at this; exact this.elim
   | some z =>
    have h4:EOk C W σ F2 H2 Q (match vAt l i with | some x=>.ok (dn t,x) | none=>.bad):=h3
    rw [ei] at h4
    obtain ⟨w,e4,r4,j,e5,e6,e7⟩:=vAt_rep r3 ei
    exact .inl ⟨ad,vs,i,w,rfl,rfl,s2,e4,h4 w F2 H2 fin (part j z w e6 e7 _)⟩
  | tup l =>
   have rr:=rx.rep e2.fh
   have rF:Rep C.K F2 (.tup l) v:=by
    cases t with
    | fz=>obtain ⟨_,z⟩:=rx; exact z
    | bw d=>obtain ⟨_,fp,z⟩:=rx; cases d with
     | zero=>exact z.2
     | succ d=>exact (z.unbox rfl).2
    | ow d=>obtain ⟨fp,z,_⟩:=rx; cases d with
     | zero=>exact z.2
     | succ d=>exact (z.unbox rfl).2
   unfold Rep at rF
   obtain ⟨ad,vs,rfl,s2,r3⟩:=rF
   cases ei:vAt l i with
   | none =>
    have:EOk C W σ F2 H2 Q (match vAt l i with | some x=>.ok (.fz,x) | none=>.bad):=h3
    rw [ei] at this; exact this.elim
   | some z =>
    have h4:EOk C W σ F2 H2 Q (match vAt l i with | some x=>.ok (.fz,x) | none=>.bad):=h3
    rw [ei] at h4
    obtain ⟨w,e4,r4,_⟩:=vAt_rep r3 ei
    exact .inr (.inl ⟨ad,vs,i,w,rfl,rfl,(TupAt.sq (TupAt.mono e2.fh s2)),e4,h4 w F2 H2 fin (.fz r4)⟩)
  | str l =>
   have rr:=rx.rep e2.fh
   unfold Rep at rr
   obtain ⟨rfl,hg⟩:=rr
   cases ei:vAt l i with
   | none =>
    have:EOk C W σ F2 H2 Q (match vAt l i with | some x=>.ok (.fz,.str [x]) | none=>.bad):=h3
    rw [ei] at this; exact this.elim
   | some z =>
    have h4:EOk C W σ F2 H2 Q (match vAt l i with | some x=>.ok (.fz,.str [x]) | none=>.bad):=h3
    rw [ei] at h4
    unfold strG at hg
    rw [Bool.and_eq_true] at hg
    have hz:l.length≤16777216:=of_decide_eq_true hg.1
    have hm:z∈l:=by
     unfold vAt at ei
     cases hj:vIxN l.length i with
     | none=>rw [hj] at ei; cases ei
     | some j=>rw [hj] at ei; exact List.mem_of_getElem? (show l[j]? = some z from ei)
    have hz2:=List.all_eq_true.mp hg.2 z hm
    refine .inr (.inr ⟨⟨l.toArray⟩,i,z,rfl,rfl,by rw [← szL_eq]; simpa [Str.length] using hz,ei,h4 _ F2 H2 fin (.fz ?_)⟩)
    refine rep_str ?_
    show (decide (1≤16777216) && (decide (z < 1114112) && true))=true
    rw [hz2]
    rfl
  | _=>exact h3.elim
 | _=>cases p <;> exact h3.elim
end
end Vl
end
section
set_option Elab.async false
set_option linter.all false
set_option maxRecDepth 100000
set_option maxHeartbeats 1000000
namespace Vl
open PySem L2 Vm PyProof.Rows
section
variable {C:Cn} {cm:Bool} {k:Nat} {N:List Str} {sc:Scope} {a b c e:Expr} {es:List Expr} {A B:EX} {As:EXs} {T U:TX} {pos:Pos} {X:Cx}
theorem rv_flat{K:KK}{F H Hs:Hp}{t:Tg}{l:List PV}{v:V}(hf:Same F H)(h:RV K F H Hs (t,.lst l) v)(f1:flat1 t=true):∃ a vs,v = .ref a∧SqL K H a vs∧RepL K F l vs:=by
 have flat:∀ {fs:List (List Addr)} {ps:List PV} {vs:List V},OwnL (Own K F H 0) fs ps vs→RepL K F ps vs:=by
  intro fs
  induction fs with
  | nil=>intro ps vs h; cases ps with
   | nil=>cases vs with
    | nil=>exact RepL.nil
    | cons v vs=>exact h.elim
   | cons p ps=>exact h.elim
  | cons f fs ih=>intro ps vs h; cases ps with
   | nil=>exact h.elim
   | cons p ps=>cases vs with
    | nil=>exact h.elim
    | cons v vs=>exact RepL.cons h.1.2 (ih h.2)
 have zero:∀ {fp:List Addr},Own K F H 0 fp (.lst l) v→∃ a vs,v = .ref a∧SqL K H a vs∧RepL K F l vs:=fun z=>by
  have r:=z.2
  unfold Rep at r
  obtain ⟨a,vs,rfl,h2,h3⟩:=r
  exact ⟨a,vs,rfl,hf.seq h2,h3⟩
 have one:∀ {fp:List Addr},Own K F H 1 fp (.lst l) v→∃ a vs,v = .ref a∧SqL K H a vs∧RepL K F l vs:=fun z=>by
  obtain ⟨l',a,vs,fps,e0,rfl,h3,h4,h5⟩:=z.lst
  cases e0
  exact ⟨a,vs,rfl,SqL.of h3,flat h5⟩
 cases t with
 | fz =>
  obtain ⟨_,r⟩:=h
  exact zero ⟨rfl,r⟩
 | bw d =>
  obtain ⟨_,fp,h⟩:=h
  match d,f1,h with
  | 0,_,h=>exact zero h
  | 1,_,h=>exact one h
  | d+2,f1,_=>cases f1
 | ow d =>
  obtain ⟨fp,h,_⟩:=h
  match d,f1,h with
  | 0,_,h=>exact zero h
  | 1,_,h=>exact one h
  | d+2,f1,_=>cases f1
theorem rv_tup{K:KK}{F H Hs:Hp}{t:Tg}{l:List PV}{v:V}(h:RV K F H Hs (t,.tup l) v):∃ a vs,v = .ref a∧TupAt F a vs∧RepL K F l vs:=by
 have rF:Rep K F (.tup l) v:=by
  cases t with
  | fz=>obtain ⟨_,z⟩:=h; exact z
  | bw d=>obtain ⟨_,fp,z⟩:=h; cases d with
   | zero=>exact z.2
   | succ d=>exact (z.unbox rfl).2
  | ow d=>obtain ⟨fp,z,_⟩:=h; cases d with
   | zero=>exact z.2
   | succ d=>exact (z.unbox rfl).2
 unfold Rep at rF
 exact rF
theorem vSix_eq(n d:Nat)(o:Option Int):HT.sIx n d o=vSix n d o:=by cases o <;> rfl
theorem cutV_rep{K:KK}{F:Hp}{l:List PV}{vs:List V}(h:RepL K F l vs)(lo hi:Option Int):RepL K F (cutL l lo hi) (cutV vs lo hi):=by
 unfold cutL cutV
 rw [h.len,vSix_eq,vSix_eq]
 exact (h.drop _).take _
def DO(C:Cn)(cm:Bool)(k:Nat)(N:List Str)(sc:Scope)(e:Option Expr)(E:OX):Prop:=∃ tb:WX→TO,(∀ X,Sta C cm k N sc X→∀ W,Takes X W→PO X e (tb W)) ∧
 ∀ W σ Γ F0 H0 F H (Q:Option Int→Hp→Prop),Good C.K F0 H0 Γ σ F H→(match E Γ with
  | .ok o=>∀ F' H',Ext F H F' H'→Q o H'
  | .exc c=>∀ F' H',Ext F H F' H'→W (C.xc c) none σ H'
  | .bad=>False)→tb W σ H Q
theorem do_none:DO C cm k N sc none oNone:=⟨fun _=>tNoPart,fun _ _ _ _=>po_none,fun W σ Γ F0 H0 F H Q g h=>h F H g.here⟩
theorem do_some(ha:DE C cm k N sc a A):DO C cm k N sc (some a) (oSome A):=by
 obtain ⟨ta,pa,qa⟩:=ha
 refine ⟨fun W=>tPart (ta W),fun X S W T=>po_some (pa X S W T),fun W σ Γ F0 H0 F H Q g h=>?_⟩
 refine qa W σ Γ F0 H0 F H _ g ?_
 unfold oSome at h
 cases e:A Γ with
 | exc c=>rw [e] at h; exact h
 | bad=>rw [e] at h; exact h
 | ok x =>
  rw [e,bind_ok] at h
  intro v F1 H1 e1 r1
  have r:=r1.rep e1.fh
  obtain ⟨t,p⟩:=x
  cases p with
  | int i=>unfold Rep at r; exact ⟨i,r,h F1 H1 e1⟩
  | _=>exact h.elim
theorem strG_cut{l:List Nat}(h:strG l=true)(lo hi:Option Int):strG (cutL l lo hi)=true:=by
 unfold strG at h ⊢
 rw [Bool.and_eq_true] at h ⊢
 have h1:l.length≤16777216:=of_decide_eq_true h.1
 refine ⟨decide_eq_true ?_,List.all_eq_true.mpr fun x hx=>List.all_eq_true.mp h.2 x ?_⟩
 ·unfold cutL
  rw [List.length_take,List.length_drop]
  omega
 ·unfold cutL at hx
  exact List.mem_of_mem_drop (List.mem_of_mem_take hx)
theorem de_slice{lo hi:Option Expr}{Lo Hi:OX}{p2:Pos}(ha:DE C cm k N sc a A)(hl:DO C cm k N sc lo Lo)(hh:DO C cm k N sc hi Hi):DE C cm k N sc (.Subscript a (.Slice lo hi none p2) pos) (eSlice A Lo Hi):=by
 obtain ⟨ta,pa,qa⟩:=ha
 obtain ⟨tl,pl,ql⟩:=hl
 obtain ⟨th,ph,qh⟩:=hh
 refine ⟨fun W=>tSl (fun x lo hi H Q=>rSlL C.K x lo hi H Q ∨ rSlD C.K x lo hi H Q ∨ rSlS x lo hi H Q) (ta W) (tl W) (th W),fun X S W T=>by rw [← S.K]; exact pe_slice (sl_list.or (sl_tupD.or sl_str)) (pa X S W T) (pl X S W T) (ph X S W T),fun W σ Γ F0 H0 F H Q g h=>?_⟩
 unfold eSlice at h
 refine qa W σ Γ F0 H0 F H _ g (EOk.bind h fun x v F1 H1 ex e1 r1 h1=>?_)
 have h1:=h1.next e1
 refine ql W σ Γ F0 H0 F1 H1 _ (g.next e1) ?_
 cases el:Lo Γ with
 | exc c=>rw [el] at h1; exact h1
 | bad=>rw [el] at h1; exact h1
 | ok ol =>
  rw [el,bind_ok] at h1
  intro F2 H2 e2
  have h2:=h1.next e2
  refine qh W σ Γ F0 H0 F2 H2 _ ((g.next e1).next e2) ?_
  cases eh:Hi Γ with
  | exc c=>rw [eh] at h2; exact h2
  | bad=>rw [eh] at h2; exact h2
  | ok oh =>
   rw [eh,bind_ok] at h2
   intro F3 H3 e3
   have h3:=h2.next e3
   have rx:=(r1.ext e2).ext e3
   obtain ⟨t,p⟩:=x
   have fin:Ext F3 H3 F3 H3:=Ext.refl e3.fh e3.tp
   cases p with
   | lst l =>
    by_cases hf:flat1 t=true
    ·have h4:EOk C W σ F3 H3 Q (if flat1 t then .ok (.ow 1,.lst (cutL l ol oh)) else .bad):=h3
     rw [if_pos hf] at h4
     obtain ⟨ad,vs,rfl,s2,r3⟩:=rv_flat e3.fh rx hf
     refine .inl ⟨ad,vs,rfl,s2,fun p hp=>?_⟩
     exact h4 _ F3 _ (Ext.lst e3.fh e3.tp hp) (rv_new (cutV_rep r3 ol oh) upd_same (e3.fh.free hp) hp)
    ·have h4:EOk C W σ F3 H3 Q (if flat1 t then .ok (.ow 1,.lst (cutL l ol oh)) else .bad):=h3
     rw [if_neg hf] at h4
     exact h4.elim
   | tup l =>
    obtain ⟨ad,vs,rfl,s2,r3⟩:=rv_tup rx
    have h4:EOk C W σ F3 H3 Q (.ok (.fz,.tup (cutL l ol oh))):=h3
    refine .inr (.inl ⟨ad,vs,rfl,(TupAt.sq (TupAt.mono e3.fh s2)),fun hw=>?_,fun _ p o hp hd=>?_⟩)
    ·refine h4 _ F3 H3 fin (.fz ?_)
     have:cutL l ol oh=l:=by
      unfold cutL
      rw [r3.len,vSix_eq,vSix_eq] at hw
      rw [hw.1,hw.2,List.drop_zero,Nat.sub_zero,List.take_length]
     rw [this]
     unfold Rep
     exact ⟨ad,vs,rfl,s2,r3⟩
    ·refine h4 _ (upd F3 p (tq (o,cutV vs ol oh))) _ (Ext.tup e3.fh e3.tp hp) (.fz ?_)
     unfold Rep
     exact ⟨p,_,rfl,.new hd,(cutV_rep r3 ol oh).mono (same_new (e3.fh.free hp)) _ _⟩
   | str l =>
    have rr:=rx.rep e3.fh
    unfold Rep at rr
    obtain ⟨rfl,hg⟩:=rr
    have h4:EOk C W σ F3 H3 Q (.ok (.fz,.str (cutL l ol oh))):=h3
    refine .inr (.inr ⟨_,rfl,?_,?_⟩)
    ·unfold strG at hg
     rw [Bool.and_eq_true] at hg
     have hz:l.length≤16777216:=of_decide_eq_true hg.1
     rw [← szL_eq]; simpa [Str.length] using hz
    ·have e5:cutS ⟨l.toArray⟩ ol oh=⟨(cutL l ol oh).toArray⟩:=by
      unfold cutS cutL
      simp only [Str.length,List.size_toArray,vSix_eq]
     rw [e5]
     exact h4 _ F3 H3 fin (.fz (rep_str (strG_cut hg ol oh)))
   | _=>exact h3.elim
def rCatL(K:PySem.W.Frag):R2:=fun x y H Q=>∃ l b xs zs,x = .ref l∧y = .ref b∧SqL K H l xs∧SqL K H b zs∧xs.length+zs.length≤sizeLine∧∀ p,H p=none→Q (.ref p) (upd H p (.lst (xs++zs)))
theorem op_catL:OpR X (binaryOp .Add) (rCatL X.K):=by
 intro pins s σ H x y v u Q I rx ry h
 obtain ⟨l,b,xs,zs,rfl,rfl,hH,hB,hz,q⟩:=h
 cases rx
 cases ry
 obtain ⟨its,r,⟨⟨cls,dd,data,sl⟩,n,ho,hc,hd1,hd⟩,hl⟩:=I.list hH
 obtain ⟨its2,r2,⟨⟨cls2,dd2,data2,sl2⟩,n2,ho2,hc2,hd12,hd2⟩,hl2⟩:=I.list hB
 simp only at hc hd hc2 hd2
 subst hc hd hc2 hd2
 have e1:=r.length
 have e2:=r2.length
 have e:its.toArray++its2.toArray=(its++its2).toArray:=by simp
 refine concat_meets ⟨_,ho,rfl⟩ ⟨_,ho2,rfl⟩ noFill_list_add seq_list_add PySem.F.slot_list_add PySem.F.entry_list_add (PySem.F.args_list_add_2 _ _) (list_addW l b its.toArray its2.toArray n n2 dd dd2 sl sl2 (by simpa using (by omega:its.length+its2.length≤sizeLine))) ⟨ho,ho2,?_⟩
 rw [e]
 exact ⟨.ref _,_,I.lnew (t':=s.toks) (r.append r2) (by rw [List.length_append]; omega),rfl,q _ I.fresh⟩
def rAddV(K:PySem.W.Frag):R2:=fun x y H Q=>rCatL K x y H Q ∨ rCatD K x y H Q ∨ (fun x y H Q=>∃ i j,x = .str i∧y = .str j∧i.length+j.length≤sizeLine∧Q (.str (i++j)) H) x y H Q ∨ rI0 (fun i j=>.int (i+j)) x y H Q
theorem op_addV:OpR X (binaryOp .Add) (rAddV X.K):=op_catL.or (op_catD.or (op_add_str.or op_add))
theorem strG_app{a b:List Nat}(h:strG a=true)(g:strG b=true)(hz:a.length+b.length≤16777216):strG (a++b)=true:=by
 unfold strG at h g ⊢
 rw [Bool.and_eq_true] at h g ⊢
 refine ⟨decide_eq_true (by rw [List.length_append]; exact hz),?_⟩
 rw [List.all_append,h.2,g.2]
 rfl
theorem de_add(ha:DE C cm k N sc a A)(hb:DE C cm k N sc b B):DE C cm k N sc (.BinOp a .Add b pos) (eAdd A B):=by
 obtain ⟨ta,pa,qa⟩:=ha
 obtain ⟨tb,pb,qb⟩:=hb
 refine ⟨fun W=>tOp (rAddV C.K) (ta W) (tb W),fun X S W T=>by rw [← S.K]; exact pe_op op_addV (pa X S W T) (pb X S W T),fun W σ Γ F0 H0 F H Q g h=>?_⟩
 refine qa W σ Γ F0 H0 F H _ g (EOk.bind h fun x v F1 H1 ex e1 r1 h1=>?_)
 refine qb W σ Γ F0 H0 F1 H1 _ (g.next e1) (EOk.bind (h1.next e1) fun y u F2 H2 ey e2 r2 h2=>?_)
 have h3:=h2.next e2
 have rx:=r1.ext e2
 have ex':=rx.rep e2.fh
 have ey':=r2.rep e2.fh
 obtain ⟨t,p⟩:=x
 obtain ⟨t',q⟩:=y
 have fin:Ext F2 H2 F2 H2:=Ext.refl e2.fh e2.tp
 cases p with
 | lst l =>
  cases q with
  | lst m =>
   have h4:EOk C W σ F2 H2 Q (if flat1 t && flat1 t' && decide (l.length+m.length≤16777216) then .ok (.ow 1,.lst (l++m)) else .bad):=h3
   by_cases hf:(flat1 t && flat1 t' && decide (l.length+m.length≤16777216))=true
   ·rw [if_pos hf] at h4
    rw [Bool.and_eq_true,Bool.and_eq_true] at hf
    have hz:l.length+m.length≤16777216:=of_decide_eq_true hf.2
    obtain ⟨ad,vs,rfl,s2,r3⟩:=rv_flat e2.fh rx hf.1.1
    obtain ⟨bd,us,rfl,s4,r5⟩:=rv_flat e2.fh r2 hf.1.2
    refine .inl ⟨ad,bd,vs,us,rfl,rfl,s2,s4,by rw [r3.len,r5.len,← szL_eq]; exact hz,fun p hp=>?_⟩
    exact h4 _ F2 _ (Ext.lst e2.fh e2.tp hp) (rv_new (r3.append r5) upd_same (e2.fh.free hp) hp)
   ·rw [if_neg hf] at h4; exact h4.elim
  | _=>exact h3.elim
 | tup l =>
  cases q with
  | tup m =>
   have h4:EOk C W σ F2 H2 Q (if l.length+m.length≤16777216 then .ok (.fz,.tup (l++m)) else .bad):=h3
   by_cases hz:l.length+m.length≤16777216
   ·rw [if_pos hz] at h4
    obtain ⟨ad,vs,rfl,s2,r3⟩:=rv_tup rx
    obtain ⟨bd,us,rfl,s4,r5⟩:=rv_tup r2
    refine .inr (.inl ⟨ad,bd,vs,us,rfl,rfl,(TupAt.sq (TupAt.mono e2.fh s2)),(TupAt.sq (TupAt.mono e2.fh s4)),by rw [r3.len,r5.len,← szL_eq]; exact hz,fun z=>?_,fun _ z=>?_,fun _ _ p o hp hd=>?_⟩)
    ·subst z
     have hl:l=[]:=List.eq_nil_of_length_eq_zero (by have:=r3.len; simpa using this.symm)
     subst hl
     refine h4 _ F2 H2 fin (.fz ?_)
     unfold Rep
     exact ⟨bd,us,rfl,s4,r5⟩
    ·subst z
     have hm:m=[]:=List.eq_nil_of_length_eq_zero (by have:=r5.len; simpa using this.symm)
     subst hm
     rw [List.append_nil] at h4
     refine h4 _ F2 H2 fin (.fz ?_)
     unfold Rep
     exact ⟨ad,vs,rfl,s2,r3⟩
    ·refine h4 _ (upd F2 p (tq (o,vs++us))) _ (Ext.tup e2.fh e2.tp hp) (.fz ?_)
     unfold Rep
     exact ⟨p,_,rfl,.new hd,(r3.append r5).mono (same_new (e2.fh.free hp)) _ _⟩
   ·rw [if_neg hz] at h4; exact h4.elim
  | _=>exact h3.elim
 | str l =>
  cases q with
  | str m =>
   unfold Rep at ex' ey'
   obtain ⟨rfl,hg⟩:=ex'
   obtain ⟨rfl,hg2⟩:=ey'
   have h4:EOk C W σ F2 H2 Q ((if l.length+m.length≤16777216 then .ok (.str (l++m)) else .bad:Res PV).bind fzv):=h3
   by_cases hz:l.length+m.length≤16777216
   ·rw [if_pos hz,bind_ok] at h4
    refine .inr (.inr (.inl ⟨_,_,rfl,rfl,by rw [← szL_eq]; simpa [Str.length] using hz,?_⟩))
    have e5:(⟨l.toArray⟩:Str)++(⟨m.toArray⟩:Str)=⟨(l++m).toArray⟩:=by
     show (⟨l.toArray++m.toArray⟩:Str)=_
     simp
    rw [e5]
    exact h4 _ F2 H2 fin (.fz (rep_str (strG_app hg hg2 hz)))
   ·rw [if_neg hz] at h4; exact h4.elim
  | _=>exact h3.elim
 | int i =>
  cases q with
  | int j =>
   unfold Rep at ex' ey'
   subst ex' ey'
   exact .inr (.inr (.inr ⟨i,j,rfl,rfl,h3 _ F2 H2 fin (.fz rep_int)⟩))
  | _=>exact h3.elim
 | _=>exact h3.elim
theorem own_one{K:KK}{F H:Hp}{fp:List Addr}{l:List PV}{v:V}(h:Own K F H 1 fp (.lst l) v):∃ a vs,v = .ref a∧H a=some (.lst vs)∧RepL K F l vs:=by
 obtain ⟨l',a,vs,fps,e0,rfl,h3,h4,h5⟩:=h.lst
 cases e0
 refine ⟨a,vs,rfl,h3,?_⟩
 clear h3 h4 h
 induction fps generalizing l vs with
 | nil=>cases l with
  | nil=>cases vs with
   | nil=>exact RepL.nil
   | cons v vs=>exact h5.elim
  | cons p ps=>exact h5.elim
 | cons f fs ih=>cases l with
  | nil=>exact h5.elim
  | cons p ps=>cases vs with
   | nil=>exact h5.elim
   | cons v vs=>exact RepL.cons h5.1.2 (ih _ h5.2)
theorem rep_flat{K:KK}{F:Hp}{l:List PV}{vs:List V}(h:RepL K F l vs):∀ n:Nat,RepL K F (List.replicate n l).flatten (List.replicate n vs).flatten
 | 0=>RepL.nil
 | n+1=>by
  rw [List.replicate_succ,List.replicate_succ,List.flatten_cons,List.flatten_cons]
  exact h.append (rep_flat h n)
end
end Vl
end
section
set_option Elab.async false
set_option linter.all false
set_option maxRecDepth 100000
set_option maxHeartbeats 1000000
namespace Vl
open PySem L2 Vm PyProof.Rows
section
variable {C:Cn} {cm:Bool} {k:Nat} {N:List Str} {sc:Scope} {a b c e:Expr} {es:List Expr} {A B:EX} {As:EXs} {T U:TX} {pos p:Pos} {X:Cx} {x:Str} {bid:String}
theorem Sta.mg(S:Sta C cm k N sc X):X.mg=C.mg:=by have:=S.cn; subst this; rfl
theorem Sta.gl(S:Sta C cm k N sc X)(h:sc.names.lookup x=some .globalImplicit):Gl X x:=by
 show X.env.scope.names.lookup x=_
 rw [S.s]; exact h
theorem de_b1 {f:TV→Res TV} {r:List V→Hp→VK→Prop} (hc:∀ X,Sta C cm k N sc X→CallR X (.builtin bid) r)
  (hr:∀ W σ x v F H Hs Q,Same F H→Tups F H→RV C.K F H Hs x v→EOk C W σ F H Q (f x)→r [v] H Q) (mx:C.mg x=none) (hv:bootBuiltins x=some (.builtin bid)) (hn:x ≠ "__name__") (hdb:(x == ("__debug__":Str))=false)
  (ha:DE C cm k N sc a A) (hg:sc.names.lookup x=some .globalImplicit)
  (hst:∀ env:PySem.Env,starEach [a] env=(false,eval a env) :: starEach [] env):DE C cm k N sc (.Call (.Name x p) [a] [] pos) (fun Γ=>(A Γ).bind f):=by
 obtain ⟨ta,pa,qa⟩:=ha
 refine ⟨fun W=>tCB r (tCons (ta W) tNil),fun X S W T=>pe_callB (hc X S) (S.gl hg) (by rw [S.mg]; exact mx) hv (pa_cons (pa X S W T) pa_nil (hst _)) hn hdb (hst _) rfl,fun W σ Γ F0 H0 F H Q g h=>?_⟩
 refine qa W σ Γ F0 H0 F H _ g (EOk.bind h fun x v F1 H1 ex e1 r1 h1=>?_)
 exact hr W σ x v F1 H1 H Q e1.fh e1.tp r1 (h1.next e1)
theorem de_t1 {f:TV→Res TV} {r:List V→Hp→VK→Prop} (hc:∀ X,Sta C cm k N sc X→CallR X (.type bid) r)
  (hr:∀ W σ x v F H Hs Q,Same F H→Tups F H→RV C.K F H Hs x v→EOk C W σ F H Q (f x)→r [v] H Q) (mx:C.mg x=none) (hv:bootBuiltins x=some (.type bid)) (hn:x ≠ "__name__") (hdb:(x == ("__debug__":Str))=false)
  (ha:DE C cm k N sc a A) (hg:sc.names.lookup x=some .globalImplicit)
  (hst:∀ env:PySem.Env,starEach [a] env=(false,eval a env) :: starEach [] env):DE C cm k N sc (.Call (.Name x p) [a] [] pos) (fun Γ=>(A Γ).bind f):=by
 obtain ⟨ta,pa,qa⟩:=ha
 refine ⟨fun W=>tCB r (tCons (ta W) tNil),fun X S W T=>pe_callTy (hc X S) (S.gl hg) (by rw [S.mg]; exact mx) hv (pa_cons (pa X S W T) pa_nil (hst _)) hn hdb (hst _) rfl,fun W σ Γ F0 H0 F H Q g h=>?_⟩
 refine qa W σ Γ F0 H0 F H _ g (EOk.bind h fun x v F1 H1 ex e1 r1 h1=>?_)
 exact hr W σ x v F1 H1 H Q e1.fh e1.tp r1 (h1.next e1)
theorem rep_lst{K:KK}{H:Hp}{l:List PV}{v:V}(h:Rep K H (.lst l) v):∃ a vs,v = .ref a∧SqL K H a vs∧RepL K H l vs:=by
 unfold Rep at h; exact h
theorem rep_tup{K:KK}{H:Hp}{l:List PV}{v:V}(h:Rep K H (.tup l) v):∃ a vs,v = .ref a∧TupAt H a vs∧RepL K H l vs:=by
 unfold Rep at h; exact h
theorem strG_len{l:List Nat}(h:strG l=true):(⟨l.toArray⟩:Str).length≤sizeLine:=by
 unfold strG at h
 rw [Bool.and_eq_true] at h
 have hz:l.length≤16777216:=of_decide_eq_true h.1
 rw [← szL_eq]; simpa [Str.length] using hz
theorem de_len (ha:DE C cm k N sc a A) (mx:C.mg "len" = none) (hg:sc.names.lookup ("len":Str)=some .globalImplicit:=by rfl)
  (hst:∀ env:PySem.Env,starEach [a] env=(false,eval a env) :: starEach [] env:=by intro _; rfl):DE C cm k N sc (.Call (.Name "len" p) [a] [] pos) (eLen A) :=
 de_b1 (r:=fun xs H Q=>∃ x n,xs=[x]∧LenV C.K x H n∧Q (.int n) H) (fun X S=>by rw [← S.K]; exact call_len) (fun W σ x v F H Hs Q hf ht rv h=>by
  have r:=rv.rep hf
  obtain ⟨t,q⟩:=x
  have fin:Ext F H F H:=Ext.refl hf ht
  cases q with
  | lst l =>
   obtain ⟨ad,vs,rfl,s2,r3⟩:=rep_lst r
   refine ⟨_,l.length,rfl,?_,h _ F H fin (.fz rep_int)⟩
   exact .inl ⟨vs,s2,r3.len.symm⟩
  | tup l =>
   obtain ⟨ad,vs,rfl,s2,r3⟩:=rep_tup r
   refine ⟨_,l.length,rfl,?_,h _ F H fin (.fz rep_int)⟩
   exact .inr ⟨vs,(TupAt.sq s2),r3.len.symm⟩
  | str l =>
   unfold Rep at r
   obtain ⟨rfl,hg⟩:=r
   refine ⟨_,l.length,rfl,⟨strG_len hg,by simp [Str.length]⟩,h _ F H fin (.fz rep_int)⟩
  | dic ks l=>exact h.elim
  | _=>exact h.elim) mx PySem.boot_len (by decide) (by decide) ha hg hst
theorem de_tuple (ha:DE C cm k N sc a A) (mx:C.mg "tuple" = none) (hg:sc.names.lookup ("tuple":Str)=some .globalImplicit:=by rfl)
  (hst:∀ env:PySem.Env,starEach [a] env=(false,eval a env) :: starEach [] env:=by intro _; rfl):DE C cm k N sc (.Call (.Name "tuple" p) [a] [] pos) (eTuple A) :=
 de_t1 (r:=fun xs H Q=>∃ p ys,xs=[.ref p]∧((SqL C.K H p ys∧NewT ys H Q) ∨ (SqT C.K H p ys∧Q (.ref p) H))) (fun X S=>by rw [← S.K]; exact call_tupleD) (fun W σ x v F H Hs Q hf ht rv h=>by
  obtain ⟨t,q⟩:=x
  have fin:Ext F H F H:=Ext.refl hf ht
  cases q with
  | lst l =>
   have h:EOk C W σ F H Q (if flat1 t then .ok (.fz,.tup l) else .bad):=h
   by_cases f1:flat1 t=true
   ·rw [if_pos f1] at h
    obtain ⟨ad,vs,rfl,s2,r3⟩:=rv_flat hf rv f1
    refine ⟨ad,vs,rfl,.inl ⟨s2,fun p o hp hd=>?_⟩⟩
    refine h _ (upd F p (tq (o,vs))) _ (Ext.tup hf ht hp) (.fz ?_)
    unfold Rep
    exact ⟨p,_,rfl,.new hd,r3.mono (same_new (hf.free hp)) _ _⟩
   ·rw [if_neg f1] at h; exact h.elim
  | tup l =>
   obtain ⟨ad,vs,rfl,s2,r3⟩:=rv_tup rv
   refine ⟨ad,vs,rfl,.inr ⟨(TupAt.sq (TupAt.mono hf s2)),h _ F H fin (.fz ?_)⟩⟩
   unfold Rep
   exact ⟨ad,vs,rfl,s2,r3⟩
  | _=>exact h.elim) mx (by decide +kernel) (by decide) (by decide) ha hg hst
theorem rep_ints{K:KK}{H:Hp}:∀ {l:List PV} {vs:List V} {is:List Int},RepL K H l vs→intsOf l = .ok is→vs=is.map V.int
 | [],vs,is,h,e=>by unfold RepL at h; subst h; cases e; rfl
 | p :: l,vs,is,h,e=>by
  unfold RepL at h
  obtain ⟨v,r,rfl,h2,h3⟩:=h
  cases p with
  | int c =>
   unfold intsOf at e
   cases e2:intsOf l with
   | ok d =>
    rw [e2,bind_ok] at e
    cases e
    rw [rep_ints h3 e2]
    unfold Rep at h2
    subst h2
    rfl
   | exc c=>rw [e2] at e; cases e
   | bad=>rw [e2] at e; cases e
  | _=>cases e
theorem intsOf_noexc:∀ {l:List PV} {c:Nat},intsOf l ≠ .exc c
 | [],c,h=>by cases h
 | p :: l,c,h=>by
  cases p with
  | int i =>
   unfold intsOf at h
   cases e:intsOf l with
   | ok d=>rw [e] at h; cases h
   | exc c=>exact intsOf_noexc e
   | bad=>rw [e] at h; cases h
  | _=>cases h
theorem de_sum (ha:DE C true k N sc a A) (mx:C.mg "sum" = none) (hg:sc.names.lookup ("sum":Str)=some .globalImplicit:=by rfl)
  (hst:∀ env:PySem.Env,starEach [a] env=(false,eval a env) :: starEach [] env:=by intro _; rfl):DE C true k N sc (.Call (.Name "sum" p) [a] [] pos) (eSum A) :=
 de_b1 (r:=rSum C.K) (fun X S=>by rw [← S.K]; exact cr_sum (S.c rfl)) (fun W σ x v F H Hs Q hf ht rv h=>by
  have r:=rv.rep hf
  obtain ⟨t,q⟩:=x
  cases q with
  | lst l =>
   obtain ⟨ad,vs,rfl,s2,r3⟩:=rep_lst r
   have h:EOk C W σ F H Q ((intsOf l).bind fun is=>.ok (.fz,.int is.sum)):=h
   cases e:intsOf l with
   | ok b =>
    rw [e] at h
    have e2:=rep_ints r3 e
    subst e2
    exact ⟨ad,b,rfl,s2,h _ F H (Ext.refl hf ht) (.fz rep_int)⟩
   | exc c=>exact (intsOf_noexc e).elim
   | bad=>rw [e] at h; exact h.elim
  | _=>exact h.elim) mx (by decide +kernel) (by decide) (by decide) ha hg hst
def kT(u t:String):Bool:=u == t || (u == "bool" && t == "int")
theorem kit_tab:∀ u∈["NoneType","bool","int","str","tuple","list","dict"],∀ t∈["tuple","list","str","int","bool"],kitB u t=some (kT u t):=by decide +kernel
theorem kit_at {u t:String} (hu:u∈["NoneType","bool","int","str","tuple","list","dict"]) (ht:t = "tuple" ∨ t = "list" ∨ t = "str" ∨ t = "int" ∨ t = "bool") {b:Bool} (hb:kT u t=b):kitB u t=some b:=by
 rw [← hb]
 exact kit_tab u hu t (by rcases ht with rfl | rfl | rfl | rfl | rfl <;> simp)
def rIsiD(K:PySem.W.Frag):List V→Hp→VK→Prop:=fun xs H Q=>rIsi K xs H Q ∨ (∃ a o t b,xs=[.ref a,.ty t]∧H a=some (dHO a o)∧o.ExactDict∧kitB "dict" t=some b∧Q (.bl b) H) ∨ ∃ a vs t b,xs=[.ref a,.ty t]∧TupAt H a vs∧kitB "tuple" t=some b∧Q (.bl b) H
theorem call_isiD:CallR X (.builtin "isinstance") (rIsiD X.K):=by
 intro pins s σ H xs us Q I r h
 rcases h with h | ⟨a,o,t,b,rfl,h1,h2,h3,q⟩ | ⟨a,vs,t,b,rfl,⟨o,_,h1⟩,h3,q⟩
 ·exact call_isi pins s σ H xs us Q I r h
 ·obtain ⟨u1,u2,rfl,r1,r2⟩:=vals2 r
  cases (show u1=Value.ref a from r1)
  cases (show u2=Value.type t from r2)
  obtain ⟨hg,_⟩:=(show ObjOk X.prog X.w H s.heap a (dHO a o) from I.hok a _ h1)
  exact PySem.W.kia_one PySem.W.kitx_dict I.kIn ⟨o,hg,h2.1⟩ (kit_ty h3) (fun z=>nomatch z) fun tk=>⟨.bl b,H,I.tok tk,rfl,q⟩
 ·obtain ⟨u1,u2,rfl,r1,r2⟩:=vals2 r
  cases (show u1=Value.ref a from r1)
  cases (show u2=Value.type t from r2)
  obtain ⟨hg,_,_,_,o',hg',hc,_⟩:=(show ObjOk X.prog X.w H s.heap a (tq (o,vs)) from I.hok a _ h1)
  exact PySem.W.kia_one PySem.W.kitx_tuple I.kIn ⟨o',hg',hc⟩ (kit_ty h3) (fun z=>nomatch z) fun tk=>⟨.bl b,H,I.tok tk,rfl,q⟩
theorem de_isI (ha:DE C cm k N sc a A) (t:String) {p2:Pos} (mx:C.mg "isinstance" = none) (mt:C.mg (Str.ofString t)=none) (ht:(t = "tuple" ∨ t = "list" ∨ t = "str" ∨ t = "int" ∨ t = "bool"):=by decide) (hg:sc.names.lookup ("isinstance":Str)=some .globalImplicit:=by rfl) (hg2:sc.names.lookup (Str.ofString t)=some .globalImplicit:=by rfl)
  (hst:∀ env:PySem.Env,starEach [a,.Name (Str.ofString t) p2] env=(false,eval a env) :: starEach [.Name (Str.ofString t) p2] env:=by intro _; rfl):DE C cm k N sc (.Call (.Name "isinstance" p) [a,.Name (Str.ofString t) p2] [] pos) (eIsI A t):=by
 obtain ⟨ta,pa,qa⟩:=ha
 have hv:bootBuiltins (Str.ofString t)=some (.type t)∧Str.ofString t ≠ "__name__"∧(Str.ofString t == ("__debug__":Str))=false:=by
  rcases ht with rfl | rfl | rfl | rfl | rfl <;> exact ⟨by decide +kernel,by decide,by decide⟩
 refine ⟨fun W=>tCB (rIsiD C.K) (tCons (ta W) (tCons (tC (.ty t)) tNil)),fun X S W T=>by rw [← S.K]; exact pe_callB call_isiD (S.gl hg) (by rw [S.mg]; exact mx) (by decide +kernel) (pa_cons (pa X S W T) (pa_cons (pe_bltn (S.gl hg2) (by rw [S.mg]; exact mt) hv.1 rfl hv.2.1 hv.2.2) pa_nil) (hst _)) (by decide) (by decide) (hst _) rfl,fun W σ Γ F0 H0 F H Q g h=>?_⟩
 refine qa W σ Γ F0 H0 F H _ g (EOk.bind h fun x v F1 H1 ex e1 r1 h1=>?_)
 have r:=r1.rep e1.fh
 have h2:=h1.next e1
 have h2:EOk C W σ F1 H1 Q ((if isExo x.2=true then .bad else Res.ok (.bl (kindIs t x.2)):Res PV).bind fzv):=h2
 by_cases hex:isExo x.2=true
 ·rw [if_pos hex] at h2; exact h2.elim
 rw [if_neg hex] at h2
 have fin:=h2 _ F1 H1 (Ext.refl e1.fh e1.tp) (.fz rep_bl)
 have go:∀ u:String,TyX C.K H1 v (.type u)→kitB u t=some (kindIs t x.2)→rIsiD C.K [v,.ty t] H1 Q:=fun u h3 h4 =>
  .inl ⟨v,.ty t,.type u,.type t,_,rfl,.ty t,h3,kit_ty h4,fin⟩
 obtain ⟨tg,q⟩:=x
 cases q with
 | non=>unfold Rep at r; subst r; exact go "NoneType" (.base .non) (kit_at (by simp) ht (by rcases ht with rfl | rfl | rfl | rfl | rfl <;> rfl))
 | bl b=>unfold Rep at r; subst r; exact go "bool" (.base (.bl b)) (kit_at (by simp) ht (by rcases ht with rfl | rfl | rfl | rfl | rfl <;> rfl))
 | int i=>unfold Rep at r; subst r; exact go "int" (.base (.int i)) (kit_at (by simp) ht (by rcases ht with rfl | rfl | rfl | rfl | rfl <;> rfl))
 | str l=>unfold Rep at r; obtain ⟨rfl,_⟩:=r; exact go "str" (.base (.str _)) (kit_at (by simp) ht (by rcases ht with rfl | rfl | rfl | rfl | rfl <;> rfl))
 | tup l=>obtain ⟨ad,vs,rfl,s2,r3⟩:=rep_tup r; exact .inr (.inr ⟨ad,vs,t,_,rfl,s2,kit_at (u:="tuple") (by simp) ht (by rcases ht with rfl | rfl | rfl | rfl | rfl <;> rfl),fin⟩)
 | lst l =>
  obtain ⟨ad,vs,rfl,s2,r3⟩:=rep_lst r
  have ty:TyX C.K H1 (.ref ad) (.type "list"):=by
   rcases s2 with (z | ⟨o,z⟩) | ⟨o,its,n,z,z2,_⟩
   ·exact .base (.lst z)
   ·exact .base (.frz z)
   ·exact .kList z z2
  exact go "list" ty (kit_at (by simp) ht (by rcases ht with rfl | rfl | rfl | rfl | rfl <;> rfl))
 | dic ks l =>
  unfold Rep at r
  obtain ⟨ad,o,vs,rfl,s2,_,dk,_⟩:=r
  have hx:o.ExactDict:=by
   rcases dk with ⟨_,_,_,_,z,_⟩ | ⟨_,_,_,_,z,_⟩ <;> exact z
  exact .inr (.inl ⟨ad,o,t,_,rfl,s2,hx,kit_at (u:="dict") (by simp) ht (by rcases ht with rfl | rfl | rfl | rfl | rfl <;> rfl),fin⟩)
 | exo c l=>exact (hex rfl).elim
end
end Vl
end
section
set_option Elab.async false
set_option linter.all false
set_option maxRecDepth 100000
set_option maxHeartbeats 1000000
namespace Vl
open PySem L2 Vm PyProof.Rows
def spOf(C:Cn)(n:Nat)(f:FN):Sp:=fun vs H Q E=>∃ F ps,vs.length=n∧Same F H∧Tups F H∧RepL C.K F ps vs∧match f ps with
 | .ok x=>∀ v F' H',Ext F H F' H'→RV C.K F' H' H x v→Q v H'
 | .exc c=>∀ F' H',Ext F H F' H'→E (C.xc c) none H'
 | .bad=>False
structure Cal (C:Cn) (x:Str) (n k:Nat) (f:FN):Prop where
 ex:∃ ad fd ps,ps.length=n∧FnOk C.P C.w C.K C.mg C.base (L2.CX C.P C.w) k ad fd ps (spOf C n f)∧PySem.W.keepIn C.K (.ref ad)=true∧Binds C.K fd ps []∧C.mg x=some (.ref ad)
section
variable {C:Cn} {cm:Bool} {k:Nat} {N:List Str} {sc:Scope} {a b c e:Expr} {es:List Expr} {A B:EX} {As:EXs} {T U:TX} {pos p:Pos} {X:Cx} {x:Str}
theorem RV.ofFz{K:KK}{F H Hs:Hp}{p:PV}{v:V}:RV K F H Hs (.fz,p) v→Rep K F p v:=fun ⟨_,h⟩=>h
mutual
theorem stab_rep {K:KK} {F G:Hp} (g:∀ a xs,F a=some (tq xs)→G a=some (tq xs)):∀ (p:PV) (v:V),stab p=true→Rep K F p v→Rep K G p v
 | .non,v,_,h=>h
 | .bl _,v,_,h=>h
 | .int _,v,_,h=>h
 | .str _,v,_,h=>h
 | .tup l,v,s,h=>by
  unfold stab at s
  unfold Rep at h ⊢
  obtain ⟨a,vs,h1,h2,h3⟩:=h
  exact ⟨a,vs,h1,h2.up g,stab_repL g l vs s h3⟩
 | .lst _,v,s,_=>by simp [stab] at s
 | .dic _ _,v,s,_=>by simp [stab] at s
 | .exo _ _,v,s,_=>by simp [stab] at s
theorem stab_repL {K:KK} {F G:Hp} (g:∀ a xs,F a=some (tq xs)→G a=some (tq xs)):∀ (l:List PV) (vs:List V),stabL l=true→RepL K F l vs→RepL K G l vs
 | [],vs,_,h=>h
 | p :: l,vs,s,h=>by
  unfold stabL at s
  rw [Bool.and_eq_true] at s
  unfold RepL at h ⊢
  obtain ⟨v,r,h1,h2,h3⟩:=h
  exact ⟨v,r,h1,stab_rep g p v s.1 h2,stab_repL g l r s.2 h3⟩
end
theorem stab_own{K:KK}{F G H:Hp}(g:∀ a xs,F a=some (tq xs)→G a=some (tq xs)):∀ (d:Nat) {fp:List Addr} {p:PV} {v:V},stabO d p=true→Own K F H d fp p v→Own K G H d fp p v
 | 0,fp,p,v,s,h=>⟨h.1,stab_rep g p v (by unfold stabO at s; exact s) h.2⟩
 | d+1,fp,p,v,s,h=>by
  rcases h with ⟨l,a,vs,fps,h2,h3,h4,h5⟩ | ⟨_,h2,_⟩
  rotate_left
  ·cases p <;> first | (simp [stabO] at s; done) | cases h2
  refine .inl ⟨l,a,vs,fps,h2,h3.tups g,h4,?_⟩
  have s:l.all (stabO d)=true:=by
   rcases h3 with ⟨rfl,_⟩ | ⟨ks,o,rfl,_⟩ | ⟨_,_,rfl,_⟩
   ·unfold stabO at s; exact s
   ·unfold stabO at s; exact s
   ·simp [stabO] at s
  clear h4 h3
  have go:∀ {fs:List (List Addr)} {ps:List PV} {vs:List V},ps.all (stabO d)=true→OwnL (Own K F H d) fs ps vs→OwnL (Own K G H d) fs ps vs:=by
   intro fs
   induction fs with
   | nil=>intro ps vs _ h; cases ps with
    | nil=>cases vs with
     | nil=>trivial
     | cons v vs=>exact h.elim
    | cons p ps=>exact h.elim
   | cons f fs ih=>intro ps vs hs h; cases ps with
    | nil=>exact h.elim
    | cons p ps=>cases vs with
     | nil=>exact h.elim
     | cons v vs =>
      rw [List.all_cons,Bool.and_eq_true] at hs
      exact ⟨stab_own g d hs.1 h.1,ih hs.2 h.2⟩
  exact go s h5
theorem putVs_of:∀ {xs:List TV},xs.any isBw=false→putVs xs = .ok (xs.map (·.2))
 | [],_=>rfl
 | x :: xs,h=>by
  rw [List.any_cons,Bool.or_eq_false_iff] at h
  unfold putVs
  have e:putV x = .ok x.2:=by
   obtain ⟨t,p⟩:=x
   match t,h.1 with
   | .fz,_=>rfl
   | .ow d,_=>rfl
   | .bw 0,_=>rfl
   | .bw (d+1),h=>cases h
  rw [e,bind_ok,putVs_of h.2]
  rfl
open Classical in
noncomputable def tupF(F H:Hp):Hp:=fun a=>if ∃ xs,H a=some (tq xs) then H a else F a
theorem tupF_tup{F H:Hp}{a:Addr}{xs}(h:H a=some (tq xs)):tupF F H a=some (tq xs):=by unfold tupF; rw [if_pos ⟨xs,h⟩]; exact h
theorem tupF_cases{F H:Hp}(a:Addr):(∃ xs,H a=some (tq xs)) ∨ tupF F H a=F a:=by
 by_cases h:∃ xs,H a=some (tq xs)
 ·exact .inl h
 ·unfold tupF; rw [if_neg h]; exact .inr rfl
theorem Ext.tupF{F1 H1 H':Hp}(hf:Same F1 H1)(ht:Tups F1 H1)(hh:Same H1 H'):Ext F1 H1 (tupF F1 H') H':=by
 refine ⟨fun a o e=>?_,hh,fun a o e=>?_,fun a xs e=>tupF_tup e,fun a q=>?_⟩
 ·rcases tupF_cases (F:=F1) (H:=H') a with ⟨xs,z⟩ | z
  ·rw [tupF_tup z]
   rw [hh _ _ (hf _ _ e)] at z
   exact z.symm
  ·rw [z]; exact e
 ·rcases tupF_cases (F:=F1) (H:=H') a with ⟨xs,z⟩ | z
  ·rw [tupF_tup z] at e; rw [← e]; exact z
  ·rw [z] at e; exact hh _ _ (hf _ _ e)
 ·rcases tupF_cases (F:=F1) (H:=H') a with ⟨xs,z⟩ | z
  ·cases e:H1 a with
   | none=>exact .inr rfl
   | some o =>
    have:=hh _ _ e
    rw [z] at this
    cases this
    exact .inl (by rw [ht _ _ e]; simp)
  ·rw [z] at q; exact .inl q
def AL(n:Nat)(As:EXs):Prop:=∀ Γ xs,As Γ = .ok xs→xs.length=n
theorem al_nil:AL 0 eNil:=fun Γ xs h=>by cases h; rfl
theorem al_cons{n:Nat}(h:AL n As):AL (n+1) (eCons A As):=fun Γ xs e=>by
 unfold eCons at e
 cases e1:A Γ with
 | ok x =>
  rw [e1,bind_ok] at e
  cases e2:As Γ with
  | ok ys=>rw [e2,bind_ok] at e; cases e; rw [List.length_cons,h Γ ys e2]
  | exc c=>rw [e2] at e; cases e
  | bad=>rw [e2] at e; cases e
 | exc c=>rw [e1] at e; cases e
 | bad=>rw [e1] at e; cases e
theorem de_call {f:FN} {n j:Nat} (G:Cal C x n j f) (ha:DA C true k N sc (e :: es) As) (hj:j≤k:=by decide) (hg:sc.names.lookup x=some .globalImplicit:=by rfl) (hdb:(x == ("__debug__":Str))=false:=by decide)
  (he:∀ env:PySem.Env,starEach (e :: es) env=(false,eval e env) :: starEach es env:=by intro _; rfl) (hpl:∀ env:PySem.Env,(backTo pos (starEach es env)).any (·.1)=false:=by intro _; rfl) (hlen:(e :: es).length=n:=by rfl) (hAs:AL n As) :
  DE C true k N sc (.Call (.Name x p) (e :: es) [] pos) (eCall f As):=by
 obtain ⟨ta,pa,qa⟩:=ha
 obtain ⟨ad,fd,ps,hps,F,kp,bn,hm⟩:=G.ex
 refine ⟨fun W=>tCallS (spOf C n f) (WE W) (ta W),fun X S W T=>?_,fun W σ Γ F0 H0 F H Q g h=>?_⟩
 ·have cn:=S.cn
  subst cn
  exact pe_callS F ((S.r rfl).mono hj) (S.gl hg) hm kp bn (fun σ=>passAt T σ) (pa X S W T) hdb (he _) (hpl _)
 ·refine qa W σ Γ F0 H0 F H _ g (AOk.bind h fun xs vs fp F1 H1 ex e1 r1 h1=>?_)
  have hl:vs.length=n:=by
   rw [(RVs.reps e1.fh r1).len,List.length_map]; exact hAs Γ xs ex
  by_cases hb:xs.any isBw=true
  ·refine ⟨H1,xs.map (·.2),hl,Same.refl _,fun _ _ z=>z,RVs.reps e1.fh r1,?_⟩
   cases ef:f (xs.map (·.2)) with
   | bad=>rw [ef] at h1; exact h1.elim
   | exc c =>
    rw [ef] at h1
    exact fun F' H' e'=>h1 (tupF F1 H') H' (e1.trans (Ext.tupF e1.fh e1.tp e'.hh))
   | ok x =>
    rw [ef,bind_ok,hb] at h1
    by_cases hs:stabR x=true
    ·rw [hs] at h1
     intro v F' H' e' rv
     have e2:=Ext.tupF e1.fh e1.tp e'.hh
     refine h1 v (tupF F1 H') H' (e1.trans e2) ?_
     have gt:∀ a xs,F' a=some (tq xs)→tupF F1 H' a=some (tq xs):=fun a xs z=>tupF_tup (e'.fh _ _ z)
     obtain ⟨t,p⟩:=x
     obtain ⟨fp',rv⟩:=rv
     cases t with
     | fz=>exact .fz (stab_rep gt p v hs rv)
     | bw d=>cases hs
     | ow d =>
      obtain ⟨z1,z2,z3⟩:=rv
      refine ⟨fp',stab_own gt d hs z1,z2,fun a ha=>⟨?_,e1.hh.free (z3 a ha).2⟩⟩
      obtain ⟨ws,z4,z5⟩:=z1.there d a ha
      rcases tupF_cases (F:=F1) (H:=H') a with ⟨_,z⟩ | z
      ·rw [z4] at z; cases z; exact (z5 _ rfl).elim
      ·rw [z]; exact e1.fh.free (z3 a ha).2
    ·have:stabR x=false:=by cases q:stabR x <;> simp_all
     rw [this] at h1; exact h1.elim
  ·have hb':xs.any isBw=false:=by cases q:xs.any isBw <;> simp_all
   obtain ⟨F2,e2,s2,r2,_⟩:=RVs.put e1 r1 (putVs_of hb')
   refine ⟨F2,xs.map (·.2),hl,e2.fh,e2.tp,r2,?_⟩
   cases ef:f (xs.map (·.2)) with
   | bad=>rw [ef] at h1; exact h1.elim
   | exc c =>
    rw [ef] at h1
    exact fun F' H' e'=>h1 F' H' (e2.trans e')
   | ok x =>
    rw [ef,bind_ok,hb'] at h1
    exact fun v F' H' e' rv=>h1 v F' H' (e2.trans e') (rv.start e1.hh)
end
end Vl
end
section
set_option Elab.async false
set_option linter.all false
set_option maxRecDepth 100000
set_option maxHeartbeats 1000000
namespace Vl
open PySem L2 Vm PyProof.Rows
section
variable {K:KK} {F0 H0 F H F1 H1:Hp} {Γ:En} {σ:L2.St}
theorem get_set{Γ:En}{i j:Nat}{s:Sl}:En.get (Γ.set i s) j=if j=i∧i < Γ.length then s else Γ.get j:=by
 unfold En.get
 by_cases h:j=i
 ·subst h
  by_cases hl:j < Γ.length
  ·rw [if_pos ⟨rfl,hl⟩]; simp [List.getD,hl]
  ·rw [if_neg (fun z=>hl z.2)]
   have e:Γ.set j s=Γ:=List.set_eq_of_length_le (by omega)
   rw [e]
 ·rw [if_neg (fun z=>h z.1)]
  simp [List.getD,List.getElem?_set_ne (Ne.symm h)]
theorem Good.set(g:Good K F0 H0 Γ σ F H)(i:Nat){x:TV}{v:V}{f:List Addr}(h:RVf K F H H0 x v f)(hd:∀ (fp:Nat→List Addr),(∀ j x,Γ.get j=some x→∃ v,σ[j]? = some (some v)∧RVf K F H H0 x v (fp j))→(∀ i j a,i ≠ j→a∈fp i→a ∉ fp j)→∃ fp':Nat→List Addr,(∀ j x,Γ.get j=some x→j ≠ i→∃ v,σ[j]? = some (some v)∧RVf K F H H0 x v (fp' j))∧(∀ i' j a,i' ≠ j→a∈fp' i'→a ∉ fp' j)∧fp' i=f) :
  Good K F0 H0 (Γ.set i (some x)) (σ.set i (some v)) F H:=by
 refine ⟨g.ext,by rw [List.length_set,List.length_set]; exact g.len,?_⟩
 obtain ⟨fp,h1,h2⟩:=g.slots
 obtain ⟨fp',h3,h4,h5⟩:=hd fp h1 h2
 by_cases hl:i < Γ.length
 ·refine ⟨fp',fun j y hy=>?_,h4⟩
  rw [get_set] at hy
  by_cases hj:j=i
  ·subst hj
   rw [if_pos ⟨rfl,hl⟩] at hy
   cases hy
   exact ⟨v,by rw [List.getElem?_set_self (by rw [← g.len]; exact hl)],by rw [h5]; exact h⟩
  ·rw [if_neg (fun z=>hj z.1)] at hy
   obtain ⟨u,h6,h7⟩:=h3 j y hy hj
   exact ⟨u,by rw [List.getElem?_set_ne (Ne.symm hj)]; exact h6,h7⟩
 ·refine ⟨fp,?_,h2⟩
  rw [List.set_eq_of_length_le (by omega),List.set_eq_of_length_le (by have:=g.len; omega)]
  exact h1
theorem Good.setF(g:Good K F0 H0 Γ σ F H)(i:Nat){x:TV}{v:V}(h:RVf K F H H0 x v []):Good K F0 H0 (Γ.set i (some x)) (σ.set i (some v)) F H :=
 g.set i h fun fp h1 h2=>⟨fun j=>if j=i then [] else fp j,fun j x hx hj=>by
  obtain ⟨v,h3,h4⟩:=h1 j x hx
  exact ⟨v,h3,by simp only; rw [if_neg hj]; exact h4⟩,fun i' j a hij ha=>by
  simp only at ha ⊢
  split at ha
  ·simp at ha
  ·split
   ·simp
   ·exact h2 i' j a hij ha,by simp⟩
theorem wipe_get{Γ:En}:∀ {vs:List Nat} {j:Nat} {x:TV},(wipeE Γ vs).get j=some x→Γ.get j=some x∧j ∉ vs
 | [],j,x,h=>⟨h,by simp⟩
 | v :: vs,j,x,h=>by
  unfold wipeE at h
  rw [get_set] at h
  split at h
  ·cases h
  ·rename_i hn
   obtain ⟨h1,h2⟩:=wipe_get h
   refine ⟨h1,?_⟩
   simp only [List.mem_cons,not_or]
   refine ⟨fun e=>?_,h2⟩
   subst e
   by_cases hl:j < (wipeE Γ vs).length
   ·exact hn ⟨rfl,hl⟩
   ·have:(wipeE Γ vs).get j=none:=by unfold En.get; simp [List.getD,List.getElem?_eq_none (by omega:(wipeE Γ vs).length≤j)]
    rw [this] at h; cases h
theorem wipeE_length(Γ:En):∀ vs:List Nat,(wipeE Γ vs).length=Γ.length
 | []=>rfl
 | v :: vs=>by unfold wipeE; rw [List.length_set,wipeE_length Γ vs]
theorem wipe_keep{σ:L2.St}{j:Nat}:∀ {vs:List Nat},j ∉ vs→(wipe σ vs)[j]? = σ[j]?
 | [],_=>rfl
 | v :: vs,h=>by
  simp only [List.mem_cons,not_or] at h
  unfold wipe
  rw [List.getElem?_set_ne (Ne.symm h.1)]
  exact wipe_keep h.2
theorem Good.wipe(g:Good K F0 H0 Γ σ F H)(vs:List Nat):Good K F0 H0 (wipeE Γ vs) (wipe σ vs) F H:=by
 refine ⟨g.ext,by rw [wipeE_length,wipe_length]; exact g.len,?_⟩
 obtain ⟨fp,h1,h2⟩:=g.slots
 refine ⟨fp,fun j x hx=>?_,h2⟩
 obtain ⟨h3,h4⟩:=wipe_get hx
 obtain ⟨v,h5,h6⟩:=h1 j x h3
 exact ⟨v,by rw [wipe_keep h4]; exact h5,h6⟩
theorem Good.forget(g:Good K F0 H0 Γ σ F H)(vs:List Nat):Good K F0 H0 (wipeE Γ vs) σ F H:=by
 refine ⟨g.ext,by rw [wipeE_length]; exact g.len,?_⟩
 obtain ⟨fp,h1,h2⟩:=g.slots
 refine ⟨fp,fun j x hx=>?_,h2⟩
 obtain ⟨h3,_⟩:=wipe_get hx
 exact h1 j x h3
theorem wipe_set_in{σ:L2.St}{i:Nat}{v:Option V}:∀ {vs:List Nat},i∈vs→L2.wipe (σ.set i v) vs=L2.wipe σ vs
 | w :: vs,h=>by
  unfold L2.wipe
  by_cases hw:i∈vs
  ·rw [wipe_set_in hw]
  ·have e:w=i:=by simpa [hw,eq_comm] using h
   subst e
   have:∀ {us:List Nat},w ∉ us→L2.wipe (σ.set w v) us=(L2.wipe σ us).set w v:=by
    intro us
    induction us with
    | nil=>intro _; rfl
    | cons u us ih =>
     intro hu
     simp only [List.mem_cons,not_or] at hu
     unfold L2.wipe
     rw [ih hu.2,List.set_comm _ _ (Ne.symm hu.1:¬ _)]
   rw [this hw,List.set_set]
end
def FnReq(so:Scope)(X:Cx):Prop:=∀ x,so.names.lookup x=some .cell→X.fn x=true
section
variable {C:Cn} {cm:Bool} {k:Nat} {N:List Str} {sc so:Scope} {a b c e:Expr} {es:List Expr} {A B:EX} {As:EXs} {T U:TX} {pos p:Pos} {X:Cx} {x:Str}
def DG(C:Cn)(cm:Bool)(k:Nat)(N:List Str)(sc so:Scope)(tg:Expr)(pat:Pat):Prop:=∃ t:TG,(∀ X,Sta C cm k N sc X→FnReq so X→PG X tg t) ∧
 ∀ Γ σ F0 H0 F H x v Hs Q,Good C.K F0 H0 Γ σ F H→RV C.K F H Hs x v→(match bindP Γ x pat with
  | .ok Γ'=>∀ σ',Good C.K F0 H0 Γ' σ' F H→(∀ ws:List Nat,(∀ i∈pat.slots,i∈ws)→wipe σ' ws=wipe σ ws)→Q σ' H
  | _=>False)→t v σ H Q
theorem dg_v(i:Nat){x:Str}(hi:N[i]? = some x:=by rfl)(hx:Loc sc x:=by first | exact Or.inl rfl | exact Or.inr rfl)(hf:so.names.lookup x=some .cell ∨ sc.names.lookup x=some .local:=by first | exact Or.inr rfl | exact Or.inl rfl):DG C cm k N sc so (.Name x pos) (.v i):=by
 refine ⟨gName i,fun X S R=>pg_name (by rw [S.n]; exact S.nd) (by rw [S.n]; exact hi) (by rw [S.s]; exact hx) (by
  rcases hf with hf | hf
  ·exact .inl (R _ hf)
  ·exact .inr (by rw [S.s]; exact hf)),fun Γ σ F0 H0 F H x v Hs Q g r h=>?_⟩
 have w:∀ ws:List Nat,(∀ i'∈(Pat.v i).slots,i'∈ws)→wipe (σ.set i (some v)) ws=wipe σ ws:=fun ws hw=>wipe_set_in (hw i (by simp [Pat.slots]))
 obtain ⟨t,q⟩:=x
 obtain ⟨fp,r⟩:=r
 cases t with
 | fz=>exact h _ (g.setF i (x:=(.fz,q)) r) w
 | bw d =>
  cases d with
  | zero=>exact h _ (g.setF i (x:=(.fz,q)) (by obtain ⟨_,z⟩:=r; exact z.2)) w
  | succ d=>exact h _ (g.setF i (x:=(.bw (d+1),q)) r) w
 | ow d=>exact h _ (g.setF i (x:=(.bw d,q)) ⟨fp,r.1⟩) w
def DGs(C:Cn)(cm:Bool)(k:Nat)(N:List Str)(sc so:Scope)(ts:List Expr)(is:List Nat):Prop:=∃ t:TGs,(∀ X,Sta C cm k N sc X→FnReq so X→PGs X ts t)∧ts.length=is.length ∧
 ∀ Γ σ F0 H0 F H ps vs Q,Good C.K F0 H0 Γ σ F H→RepL C.K F ps vs→(match setAll Γ is ps with
  | some Γ'=>∀ σ',Good C.K F0 H0 Γ' σ' F H→(∀ ws:List Nat,(∀ i∈is,i∈ws)→wipe σ' ws=wipe σ ws)→Q σ' H
  | none=>False)→t vs σ H Q
theorem dgs_nil:DGs C cm k N sc so [] []:=⟨gNil,fun _ _ _=>pgs_nil,rfl,fun Γ σ F0 H0 F H ps vs Q g r h=>by
 cases ps with
 | nil=>unfold RepL at r; exact ⟨r,h σ g fun _ _=>rfl⟩
 | cons p ps=>exact h.elim⟩
theorem dgs_cons{i:Nat}{is:List Nat}(h1:DG C cm k N sc so e (.v i))(h2:DGs C cm k N sc so es is)(hs:∀ env:PySem.Env,(assignEach (e :: es) env).map (·.2)=assign e env :: (assignEach es env).map (·.2):=by intro _; rfl):DGs C cm k N sc so (e :: es) (i :: is):=by
 obtain ⟨t,pt,qt⟩:=h1
 obtain ⟨u,pu,lu,qu⟩:=h2
 refine ⟨gCons t u,fun X S R=>pgs_cons (pt X S R) (pu X S R) (hs _),by simp [lu],fun Γ σ F0 H0 F H ps vs Q g r h=>?_⟩
 cases ps with
 | nil=>exact h.elim
 | cons p ps =>
  unfold RepL at r
  obtain ⟨v,vr,rfl,r1,r2⟩:=r
  refine ⟨v,vr,rfl,qt Γ σ F0 H0 F H (.fz,p) v H _ g (.fz r1) ?_⟩
  intro σ1 g1 w1
  refine qu (Γ.set i (some (.fz,p))) σ1 F0 H0 F H ps vr Q g1 r2 ?_
  unfold setAll at h
  cases e:setAll (Γ.set i (some (.fz,p))) is ps with
  | none=>rw [e] at h; exact h
  | some Γ' =>
   rw [e] at h
   intro σ' g' w'
   refine h σ' g' fun ws hw=>?_
   rw [w' ws fun j hj=>hw j (by simp [hj])]
   exact w1 ws fun j hj=>hw j (by simp [Pat.slots] at hj; simp [hj])
def gSeq(K:PySem.W.Frag)(n:Nat)(t:TGs):TG:=fun v σ H Q=>∃ a xs,v = .ref a∧(SqT K H a xs ∨ SqL K H a xs)∧xs.length=n∧t xs σ H Q
theorem setAll_len:∀ {is:List Nat} {ps:List PV} {Γ Γ':En},setAll Γ is ps=some Γ'→ps.length=is.length:=by
 intro is
 induction is with
 | nil=>intro ps Γ Γ' h; cases ps with
  | nil=>rfl
  | cons p ps=>cases h
 | cons i is ih=>intro ps Γ Γ' h; cases ps with
  | nil=>cases h
  | cons p ps=>unfold setAll at h; rw [List.length_cons,List.length_cons,ih h]
theorem dg_t{is:List Nat}{k':Nat}(h:DGs C true k N sc so es is)(hn:∀ env:PySem.Env,(assignEach es env).length=es.length:=by intro _; rfl)(hst:∀ env:PySem.Env,(assignEach es env).findIdx? (·.1)=none:=by intro _; rfl):DG C true k N sc so (.Tuple es k' pos) (.t is):=by
 obtain ⟨t,pt,lt,qt⟩:=h
 refine ⟨gSeq C.K es.length t,fun X S R=>?_,fun Γ σ F0 H0 F H x v Hs Q g r hh=>?_⟩
 ·rw [← S.K]
  refine ⟨fun pins s σ H v u Q I r hw=>?_⟩
  obtain ⟨a,xs,e1,hq | hq,hl,hw⟩:=hw
  ·exact (pg_tup (S.c rfl) (pt X S R) (hn _) (hst _)).run pins s σ H v u Q I r ⟨a,xs,e1,hq,hl,hw⟩
  ·exact (pg_lst (S.c rfl) (pt X S R) (hn _) (hst _)).run pins s σ H v u Q I r ⟨a,xs,e1,hq,hl,hw⟩
 have go:∀ {ps:List PV} {ad:Addr} {vs:List V},v = .ref ad→(SqT C.K H ad vs ∨ SqL C.K H ad vs)→RepL C.K F ps vs→(match (match setAll Γ is ps with | some Γ'=>(.ok Γ':Res En) | none=>.bad) with
   | .ok Γ'=>∀ σ',Good C.K F0 H0 Γ' σ' F H→(∀ ws:List Nat,(∀ i∈is,i∈ws)→wipe σ' ws=wipe σ ws)→Q σ' H
   | _=>False)→gSeq C.K es.length t v σ H Q:=fun {ps ad vs} ev sq r3 hh=>by
  cases e:setAll Γ is ps with
  | none=>rw [e] at hh; exact hh.elim
  | some Γ' =>
   rw [e] at hh
   refine ⟨ad,vs,ev,sq,by rw [r3.len,setAll_len e,lt],qt Γ σ F0 H0 F H ps vs Q g r3 ?_⟩
   rw [e]
   exact hh
 obtain ⟨tg,q⟩:=x
 cases q with
 | tup ps =>
  obtain ⟨ad,vs,ev,s2,r3⟩:=rv_tup r
  exact go ev (.inl ((TupAt.sq (TupAt.mono g.ext.fh s2)))) r3 hh
 | lst ps =>
  unfold bindP seqP at hh
  simp only at hh
  by_cases f1:flat1 tg=true
  ·rw [if_pos f1] at hh
   obtain ⟨ad,vs,ev,s2,r3⟩:=rv_flat g.ext.fh r f1
   exact go ev (.inr s2) r3 hh
  ·rw [if_neg f1] at hh; exact hh.elim
 | _=>exact hh.elim
def ItOk(K:KK)(J:It)(fl:Bool)(items:List TV)(F1 H1:Hp):Prop:=(fl=true→∀ x∈items,∃ p,x=(.fz,p)) ∧
 ∀ i F H,Same F1 F→Same F H→Tups F H→(fl=false→Same H1 H)→(i < items.length→J.go i H)∧(i=items.length→J.stop i H)∧∀ x H',i < items.length→J.yld i H x H'→∃ it,items[i]? = some it∧∃ F',Ext F H F' H'∧∀ Hs,RV K F' H' Hs it x
def DI(C:Cn)(cm:Bool)(k:Nat)(N:List Str)(sc:Scope)(tg e:Expr)(E:IX):Prop:=∃ tb:WX→TI,(∀ X,Sta C cm k N sc X→∀ W,Takes X W→PI X tg e (tb W)) ∧
 ∀ W σ Γ F0 H0 F H (R:It→Hp→Prop),Good C.K F0 H0 Γ σ F H→(match E Γ with
  | .ok y=>∀ J F' H',Ext F H F' H'→ItOk C.K J y.1 y.2 F' H'→R J H'
  | .exc c=>∀ F' H',Ext F H F' H'→W (C.xc c) none σ H'
  | .bad=>False)→tb W σ H R
theorem itok_list{K:KK}{F H:Hp}{a:Addr}{l:List PV}{vs:List V}(s:SqL K F a vs)(r:RepL K F l vs):ItOk K (Itl K a) true (l.map fun p=>(.fz,p)) F H :=
 ⟨fun _ x hx=>by
  obtain ⟨p,_,rfl⟩:=List.mem_map.mp hx
  exact ⟨p,rfl⟩,fun i F1 H1 h e1 t1 _=>by
  have sq:SqL K H1 a vs:=e1.seq (h.seq s)
  refine ⟨fun hi=>?_,fun hi=>⟨vs,sq,by rw [r.len,hi,List.length_map]; exact Nat.le_refl _⟩,fun x H' hlt y=>?_⟩
  ·have hi':i < vs.length:=by rw [r.len]; simpa using hi
   exact ⟨vs,vs[i],sq,List.getElem?_eq_getElem hi'⟩
  ·obtain ⟨rfl,y⟩:=y
   obtain ⟨p,h2,h3⟩:=r.getV (y vs sq)
   exact ⟨(.fz,p),by rw [List.getElem?_map,h2]; rfl,F1,Ext.refl e1 t1,fun Hs=>.fz (h3.mono h _ _)⟩⟩
theorem itok_tup{K:KK}{F H:Hp}{a:Addr}{l:List PV}{vs:List V}(s:TupAt F a vs)(r:RepL K F l vs):ItOk K (Itt K a) true (l.map fun p=>(.fz,p)) F H :=
 ⟨fun _ x hx=>by
  obtain ⟨p,_,rfl⟩:=List.mem_map.mp hx
  exact ⟨p,rfl⟩,fun i F1 H1 h e1 t1 _=>by
  have sq:SqT K H1 a vs:=((s.mono h).mono e1).sq
  refine ⟨fun hi=>?_,fun hi=>⟨vs,sq,by rw [r.len,hi,List.length_map]; exact Nat.le_refl _⟩,fun x H' hlt y=>?_⟩
  ·have hi':i < vs.length:=by rw [r.len]; simpa using hi
   exact ⟨vs,vs[i],sq,List.getElem?_eq_getElem hi'⟩
  ·obtain ⟨rfl,y⟩:=y
   obtain ⟨p,h2,h3⟩:=r.getV (y vs sq)
   exact ⟨(.fz,p),by rw [List.getElem?_map,h2]; rfl,F1,Ext.refl e1 t1,fun Hs=>.fz (h3.mono h _ _)⟩⟩
theorem ItOk.weak{K:KK}{F H:Hp}{J:It}{items:List TV}(h:ItOk K J true items F H):ItOk K J false items F H :=
 ⟨fun z=>(by cases z),fun i F1 H1 a b c _=>h.2 i F1 H1 a b c fun z=>by cases z⟩
theorem itok_bw{K:KK}{F H:Hp}{d:Nat}{fp:List Addr}{l:List PV}{v:V}(hf:Same F H)(o:Own K F H d fp (.lst l) v):∃ a,v = .ref a∧(∃ vs,SqL K H a vs)∧ItOk K (Itl K a) false (l.map fun p=>(dn (.bw d),p)) F H:=by
 cases d with
 | zero =>
  have r:=o.2
  unfold Rep at r
  obtain ⟨a,vs,rfl,s,r⟩:=r
  exact ⟨a,rfl,⟨vs,hf.seq s⟩,(itok_list s r).weak⟩
 | succ d =>
  have o':=o
  obtain ⟨l',a,vs,fps,e0,rfl,h3,h4,h5⟩:=o'.lst
  cases e0
  have rr:=ownl_rep hf h5
  refine ⟨a,rfl,⟨vs,SqL.of h3⟩,fun z=>(by cases z),fun i F1 H1 hF e1 t1 hH=>?_⟩
  have hH:=hH rfl
  have sq1:SqL K H1 a vs:=SqL.of (hH _ _ h3)
  refine ⟨fun hi=>?_,fun hi=>⟨vs,sq1,by rw [rr.len,hi,List.length_map]; exact Nat.le_refl _⟩,fun x H' hlt y=>?_⟩
  ·have hi':i < vs.length:=by rw [rr.len]; simpa using hi
   exact ⟨vs,vs[i],sq1,List.getElem?_eq_getElem hi'⟩
  ·obtain ⟨rfl,y⟩:=y
   have ex:=y vs sq1
   obtain ⟨p,h6,h7⟩:=rr.getV ex
   obtain ⟨f,op⟩:=own_part h5 h6 ex
   refine ⟨(dn (.bw (d+1)),p),by rw [List.getElem?_map,h6]; rfl,F1,Ext.refl e1 t1,fun Hs=>?_⟩
   have op':=op.same hF hH
   cases d with
   | zero=>exact .fz op'.2
   | succ d=>exact ⟨[],f,op'⟩
end
end Vl
end
section
set_option Elab.async false
set_option linter.all false
set_option maxRecDepth 100000
set_option maxHeartbeats 1000000
namespace Vl
open PySem L2 Vm PyProof.Rows
section
variable {C:Cn} {cm:Bool} {k:Nat} {N:List Str} {sc so:Scope} {a b c e tg:Expr} {es:List Expr} {A B:EX} {As:EXs} {T U:TX} {pos p:Pos} {X:Cx} {x:Str}
theorem EOk.bindI{W:WX}{σ:L2.St}{F H:Hp}{R:It→Hp→Prop}{f:TV→Res (Bool×List TV)}{Q1:VK}{r:Res TV}(h:match r.bind f with
  | .ok y=>∀ J F' H',Ext F H F' H'→ItOk C.K J y.1 y.2 F' H'→R J H'
  | .exc c=>∀ F' H',Ext F H F' H'→W (C.xc c) none σ H'
  | .bad=>False)
  (q:∀ x v F1 H1,r = .ok x→Ext F H F1 H1→RV C.K F1 H1 H x v→(match f x with
  | .ok y=>∀ J F' H',Ext F H F' H'→ItOk C.K J y.1 y.2 F' H'→R J H'
  | .exc c=>∀ F' H',Ext F H F' H'→W (C.xc c) none σ H'
  | .bad=>False)→Q1 v H1):EOk C W σ F H Q1 r:=by
 cases r with
 | ok x=>exact fun v F' H' e rv=>q x v F' H' rfl e rv h
 | exc c=>exact h
 | bad=>exact h
theorem itok_str{K:KK}{F H:Hp}{l:List Nat}(hg:strG l=true):ItOk K (Its ⟨l.toArray⟩) true (l.map fun c=>(.fz,.str [c])) F H:=by
 refine ⟨fun _ x hx=>?_,fun i F1 H1 _ e1 t1 _=>⟨fun h=>by simpa [Its] using h,fun h=>by rw [h]; simp [Its],fun x H' hlt y=>?_⟩⟩
 ·obtain ⟨p,_,rfl⟩:=List.mem_map.mp hx
  exact ⟨_,rfl⟩
 ·obtain ⟨rfl,c,hc,rfl⟩:=y
  have hc:l[i]? = some c:=by simpa using hc
  refine ⟨(.fz,.str [c]),by rw [List.getElem?_map,hc]; rfl,F1,Ext.refl e1 t1,fun Hs=>.fz (rep_str ?_)⟩
  unfold strG at hg
  rw [Bool.and_eq_true] at hg
  have h2:=List.all_eq_true.mp hg.2 c (List.mem_of_getElem? hc)
  show (decide (1≤16777216) && (decide (c < 1114112) && true))=true
  rw [h2]
  rfl
theorem di_seq(ha:DE C cm k N sc a A):DI C cm k N sc tg a (jSeq A):=by
 obtain ⟨ta,pa,qa⟩:=ha
 refine ⟨fun W=>fun σ H R=>ta W σ H fun x H1=>(∃ z,x = .str z∧R (Its z) H1) ∨ ∃ a,x = .ref a∧((∃ xs,SqL C.K H1 a xs)∧R (Itl C.K a) H1 ∨ (∃ xs,SqT C.K H1 a xs)∧R (Itt C.K a) H1),fun X S W T=>?_,fun W σ Γ F0 H0 F H R g h=>?_⟩
 ·rw [← S.K]
  refine ⟨fun pins s σ H R I h=>?_⟩
  refine thn ((pa X S W T).run pins s σ H _ I h) fun v s1 ⟨x,H1,I1,r1,q1⟩=>?_
  rcases q1 with ⟨x,ez,q⟩ | ⟨a,e,q1⟩
  ·subst ez
   obtain ⟨t,rfl⟩:=r1
   cases ha:x.cps.all (· < 128)
   ·exact wpAny_pyIter_wide ha (pi_one (tk:=s1.toks) I1 _ (turn_str _ x t "str_iterator" (.inr rfl)) ⟨_,Heap.get?_push_size _ rfl,rfl,rfl⟩ q)
   ·exact wpAny_pyIter_ascii ha (pi_one (tk:=s1.toks) I1 _ (turn_str _ x t "str_ascii_iterator" (.inl rfl)) ⟨_,Heap.get?_push_size _ rfl,rfl,rfl⟩ q)
  ·subst e
   cases r1
   rcases q1 with ⟨⟨xs,hq⟩,q⟩ | ⟨⟨xs,hq⟩,q⟩
   ·obtain ⟨its,rv,p,hz⟩:=I1.list hq
    refine wpAny_pyIter_list p.isList ?_
    refine ⟨s1.heap.objs.size,[s1.heap.objs.size],_,_,H1,rfl,I1.kept (t':=s1.toks) fun b o e=>Heap.get?_push_of_some _ e,turn_list a _,⟨_,Heap.get?_push_size _ rfl,rfl,rfl⟩,fun b hb=>?_,q⟩
    have e:b=s1.heap.objs.size:=by simpa using hb
    subst e
    exact I1.fpOk (Nat.le_refl _) (I1.hok.fresh (Nat.le_refl _))
   ·obtain ⟨its,rv,p,hz⟩:=I1.tuple hq
    refine wpAny_pyIter_tuple (show s1.heap.IsTuple a its.toArray from p) ?_
    refine ⟨s1.heap.objs.size,[s1.heap.objs.size],_,_,H1,rfl,I1.kept (t':=s1.toks) fun b o e=>Heap.get?_push_of_some _ e,turn_tuple a _,⟨_,Heap.get?_push_size _ rfl,rfl,rfl⟩,fun b hb=>?_,q⟩
    have e:b=s1.heap.objs.size:=by simpa using hb
    subst e
    exact I1.fpOk (Nat.le_refl _) (I1.hok.fresh (Nat.le_refl _))
 ·refine qa W σ Γ F0 H0 F H _ g (EOk.bindI h fun x v F1 H1 ex e1 r1 h1=>?_)
  obtain ⟨t,q⟩:=x
  cases q with
  | lst l =>
   cases t with
   | fz =>
    have r:=r1.ofFz
    unfold Rep at r
    obtain ⟨ad,vs,rfl,s2,r3⟩:=r
    exact .inr ⟨ad,rfl,.inl ⟨⟨vs,e1.fh.seq s2⟩,h1 _ F1 H1 e1 (itok_list s2 r3)⟩⟩
   | bw d =>
    obtain ⟨_,fp,o⟩:=r1
    obtain ⟨ad,rfl,sq,it⟩:=itok_bw e1.fh o
    exact .inr ⟨ad,rfl,.inl ⟨sq,h1 _ F1 H1 e1 it⟩⟩
   | ow d =>
    obtain ⟨fp,o⟩:=r1
    obtain ⟨F2,e2,s2,r2,_⟩:=RVf.put (x:=(.ow d,.lst l)) e1 o rfl
    unfold Rep at r2
    obtain ⟨ad,vs,rfl,s3,r3⟩:=r2
    exact .inr ⟨ad,rfl,.inl ⟨⟨vs,e2.fh.seq s3⟩,h1 _ F2 H1 e2 (itok_list s3 r3)⟩⟩
  | tup l =>
   obtain ⟨ad,vs,rfl,s2,r3⟩:=rv_tup r1
   exact .inr ⟨ad,rfl,.inr ⟨⟨vs,(TupAt.sq (TupAt.mono e1.fh s2))⟩,h1 _ F1 H1 e1 (itok_tup s2 r3)⟩⟩
  | str l =>
   have r:=r1.rep e1.fh
   unfold Rep at r
   obtain ⟨rfl,hg⟩:=r
   exact .inl ⟨_,rfl,h1 _ F1 H1 e1 (itok_str hg)⟩
  | _=>exact h1.elim
theorem itok_range{K:KK}{F H:Hp}(lo hi:Int):ItOk K (Itr lo (hi - lo).toNat) true ((rngL lo hi).map fun p=>(.fz,p)) F H:=by
 have hl:((rngL lo hi).map fun p=>((.fz,p):TV)).length=(hi - lo).toNat:=by simp [rngL]
 refine ⟨fun _ x hx=>?_,fun i F1 H1 _ e1 t1 _=>⟨fun h=>by rw [hl] at h; exact h,fun h=>by rw [hl] at h; rw [h]; exact Nat.le_refl _,fun x H' hlt y=>?_⟩⟩
 ·obtain ⟨p,_,rfl⟩:=List.mem_map.mp hx
  exact ⟨p,rfl⟩
 ·obtain ⟨rfl,rfl⟩:=y
  rw [hl] at hlt
  refine ⟨(.fz,.int (lo+i)),?_,F1,Ext.refl e1 t1,fun Hs=>.fz rep_int⟩
  simp [rngL,hlt]
theorem di_range (ha:DE C cm k N sc a A) (mx:C.mg "range" = none) (hg:sc.names.lookup ("range":Str)=some .globalImplicit:=by rfl)
  (hst:∀ env:PySem.Env,starEach [a] env=[(false,eval a env)]:=by intro _; rfl):DI C cm k N sc tg (.Call (.Name "range" p) [a] [] pos) (jRange A):=by
 obtain ⟨ta,pa,qa⟩:=ha
 refine ⟨fun W=>iRng1 (tCons (ta W) tNil),fun X S W T=>pi_range1 (S.gl hg) (by rw [S.mg]; exact mx) (pa_cons (pa X S W T) pa_nil (hst _)) (hst _),fun W σ Γ F0 H0 F H R g h=>?_⟩
 refine qa W σ Γ F0 H0 F H _ g (EOk.bindI h fun x v F1 H1 ex e1 r1 h1=>?_)
 have r:=r1.rep e1.fh
 obtain ⟨t,q⟩:=x
 cases q with
 | int n =>
  unfold Rep at r
  subst r
  by_cases hn:rngOk n=true
  ·have h2:(match (if rngOk n then (.ok (true,(rngL 0 n).map fun p=>(.fz,p)):Res (Bool×List TV)) else .bad) with
    | .ok y=>∀ J F' H',Ext F H F' H'→ItOk C.K J y.1 y.2 F' H'→R J H'
    | .exc c=>∀ F' H',Ext F H F' H'→W (C.xc c) none σ H'
    | .bad=>False):=h1
   rw [if_pos hn] at h2
   have hn2:=rngOk_iff.mp hn
   refine ⟨n,rfl,hn2.1,hn2.2,?_⟩
   have:=h2 (Itr 0 (n - 0).toNat) F1 H1 e1 (itok_range 0 n)
   simpa using this
  ·have h2:(match (if rngOk n then (.ok (true,(rngL 0 n).map fun p=>(.fz,p)):Res (Bool×List TV)) else .bad) with
    | .ok y=>∀ J F' H',Ext F H F' H'→ItOk C.K J y.1 y.2 F' H'→R J H'
    | .exc c=>∀ F' H',Ext F H F' H'→W (C.xc c) none σ H'
    | .bad=>False):=h1
   rw [if_neg hn] at h2
   exact h2.elim
 | _=>exact h1.elim
theorem di_range2 (ha:DE C cm k N sc a A) (hb:DE C cm k N sc b B) (mx:C.mg "range" = none) (hg:sc.names.lookup ("range":Str)=some .globalImplicit:=by rfl)
  (hst:∀ env:PySem.Env,starEach [a,b] env=[(false,eval a env),(false,eval b env)]:=by intro _; rfl) (hst2:∀ env:PySem.Env,starEach [b] env=[(false,eval b env)]:=by intro _; rfl):DI C cm k N sc tg (.Call (.Name "range" p) [a,b] [] pos) (jRange2 A B):=by
 obtain ⟨ta,pa,qa⟩:=ha
 obtain ⟨tb,pb,qb⟩:=hb
 refine ⟨fun W=>iRng2 (tCons (ta W) (tCons (tb W) tNil)),fun X S W T=>pi_range2 (S.gl hg) (by rw [S.mg]; exact mx) (pa_cons (pa X S W T) (pa_cons (pb X S W T) pa_nil (hst2 _)) (by rw [hst,hst2])) (hst _) (hst2 _),fun W σ Γ F0 H0 F H R g h=>?_⟩
 unfold jRange2 at h
 refine qa W σ Γ F0 H0 F H _ g (EOk.bindI h fun x v F1 H1 ex e1 r1 h1=>?_)
 have h1':match (B Γ).bind fun y=>(match x.2,y.2 with
  | .int m,.int n=>if rngOk m && rngOk n then (.ok (true,(rngL m n).map fun p=>(.fz,p)):Res (Bool×List TV)) else .bad
  | _,_=>.bad) with
   | .ok y=>∀ J F' H',Ext F1 H1 F' H'→ItOk C.K J y.1 y.2 F' H'→R J H'
   | .exc c=>∀ F' H',Ext F1 H1 F' H'→W (C.xc c) none σ H'
   | .bad=>False:=by
  revert h1
  generalize (B Γ).bind _=r
  intro h1
  cases r with
  | ok y=>exact fun J F' H' e'=>h1 J F' H' (e1.trans e')
  | exc c=>exact fun F' H' e'=>h1 F' H' (e1.trans e')
  | bad=>exact h1
 refine qb W σ Γ F0 H0 F1 H1 _ (g.next e1) (EOk.bindI h1' fun y u F2 H2 ey e2 r2 h2=>?_)
 have rx:=(r1.ext e2).rep e2.fh
 have ry:=r2.rep e2.fh
 obtain ⟨t,q⟩:=x
 obtain ⟨t',q'⟩:=y
 cases q with
 | int m =>
  cases q' with
  | int n =>
   unfold Rep at rx ry
   subst rx ry
   simp only at h2
   by_cases hn:(rngOk m && rngOk n)=true
   ·rw [if_pos hn] at h2
    rw [Bool.and_eq_true] at hn
    have h3:=rngOk_iff.mp hn.1
    have h4:=rngOk_iff.mp hn.2
    exact ⟨m,n,rfl,⟨h3.1,h3.2,h4.1,h4.2⟩,h2 (Itr m (n - m).toNat) F2 H2 e2 (itok_range m n)⟩
   ·rw [if_neg hn] at h2
    exact h2.elim
  | _=>exact h2.elim
 | _=>exact h2.elim
def DF(C:Cn)(cm:Bool)(k:Nat)(N:List Str)(sc:Scope)(ifs:List Expr)(E:TX):Prop:=∃ tb:WX→TT,(∀ X,Sta C cm k N sc X→∀ W,Takes X W→PTs X ifs (tb W)) ∧
 ∀ W σ Γ F0 H0 F H Q,Good C.K F0 H0 Γ σ F H→TOk C W σ F H Q (E Γ)→tb W σ H Q
theorem df_nil:DF C cm k N sc [] xYes:=⟨fun _=>L2.tYes,fun _ _ _ _=>pts_nil,fun W σ Γ F0 H0 F H Q g h=>h F H g.here⟩
theorem df_one(h:DT C cm k N sc c T):DF C cm k N sc [c] T:=by
 obtain ⟨tb,pb,qb⟩:=h
 exact ⟨tb,fun X S W T=>pts_one (pb X S W T),qb⟩
theorem wipe_idem{σ:L2.St}:∀ {us:List Nat} (vs:List Nat),(∀ u∈us,u∈vs)→wipe (wipe σ us) vs=wipe σ vs
 | [],vs,_=>rfl
 | u :: us,vs,h=>by
  show wipe ((wipe σ us).set u none) vs=_
  rw [wipe_set_in (h u (by simp)),wipe_idem vs fun w hw=>h w (by simp [hw])]
theorem sta_blk(S:Sta C cm k N sc X){s:Shared}{H:Hp}{scope:Scope}{Ca:Addr}{cl:List (Str×Addr)}{fp:List Addr}:Sta C cm k N (relS scope sc) (X.blk s H scope (compEnvC scope cl Ca X.env) fp):=by
 have hs:=S.s
 subst hs
 exact ⟨S.cn,S.n,rfl,S.nd,S.c,S.r,S.u⟩
theorem req_blk{s:Shared}{H:Hp}{scope:Scope}{env:PySem.Env}{fp:List Addr}:FnReq scope (X.blk s H scope env fp):=fun x h=>by
 show (scope.names.lookup x == some .cell)=true
 rw [h]; rfl
theorem lcGo_cons{Γ:En}{pat:Pat}{c:TX}{e:EX}{x:TV}{xs:List TV}{ps:List PV}(h:lcGo Γ pat c e (x :: xs) = .ok ps):∃ Γ' b,bindP Γ x pat = .ok Γ'∧c Γ' = .ok b ∧
  (b=true→∃ y p r,e Γ' = .ok y∧putV y = .ok p∧lcGo Γ pat c e xs = .ok r∧ps=p :: r)∧(b=false→lcGo Γ pat c e xs = .ok ps):=by
 unfold lcGo at h
 cases h1:bindP Γ x pat with
 | ok Γ' =>
  rw [h1,bind_ok] at h
  cases h2:c Γ' with
  | ok b =>
   rw [h2,bind_ok] at h
   refine ⟨Γ',b,rfl,h2,fun hb=>?_,fun hb=>?_⟩
   ·rw [if_pos hb] at h
    cases h3:e Γ' with
    | ok y =>
     rw [h3,bind_ok] at h
     cases h4:putV y with
     | ok p =>
      rw [h4,bind_ok] at h
      cases h5:lcGo Γ pat c e xs with
      | ok r=>rw [h5,bind_ok] at h; cases h; exact ⟨y,p,r,rfl,h4,rfl,rfl⟩
      | exc _=>rw [h5] at h; cases h
      | bad=>rw [h5] at h; cases h
     | exc _=>rw [h4] at h; cases h
     | bad=>rw [h4] at h; cases h
    | exc _=>rw [h3] at h; cases h
    | bad=>rw [h3] at h; cases h
   ·rw [hb] at h
    exact h
  | exc _=>rw [h2] at h; cases h
  | bad=>rw [h2] at h; cases h
 | exc _=>rw [h1] at h; cases h
 | bad=>rw [h1] at h; cases h
variable {elt iter:Expr} {ifs:List Expr} {scope:Scope} {own:List (Str×Nat)} {I:IX} {pat:Pat}
theorem lc_reads{wi:TI}{g:TG}{tt:TT}{te:TE}{ow:List Nat}{W:WX}{σ:L2.St}{Γ:En}{F0 H0 F H:Hp}{Q:VK}(gd:Good C.K F0 H0 Γ σ F H)
  (qi:∀ (R:It→Hp→Prop),(match I Γ with
   | .ok y=>∀ J F' H',Ext F H F' H'→ItOk C.K J y.1 y.2 F' H'→R J H'
   | .exc c=>∀ F' H',Ext F H F' H'→W (C.xc c) none σ H'
   | .bad=>False)→wi σ H R)
  (qg:∀ Γ σ F0 H0 F H x v Hs Q,Good C.K F0 H0 Γ σ F H→RV C.K F H Hs x v→(match bindP Γ x pat with
   | .ok Γ'=>∀ σ',Good C.K F0 H0 Γ' σ' F H→(∀ ws:List Nat,(∀ i∈pat.slots,i∈ws)→wipe σ' ws=wipe σ ws)→Q σ' H
   | _=>False)→g v σ H Q)
  (qt:∀ σ Γ F0 H0 F H Q,Good C.K F0 H0 Γ σ F H→TOk C (fun _ _ _ _=>False) σ F H Q (T Γ)→tt σ H Q)
  (qe:∀ σ Γ F0 H0 F H Q,Good C.K F0 H0 Γ σ F H→EOk C (fun _ _ _ _=>False) σ F H Q (A Γ)→te σ H Q)
  (hsl:∀ i∈pat.slots,i∈ow)(h:EOk C W σ F H Q (eLC ow I pat T A Γ)):tLc wi g tt te ow σ H Q:=by
 refine qi _ ?_
 unfold eLC at h
 cases ei:I Γ with
 | exc c=>rw [ei] at h; exact h
 | bad=>rw [ei] at h; exact h
 | ok y =>
  rw [ei,bind_ok] at h
  intro J F1 H1 e1 it D hD
  cases el:lcGo (wipeE Γ ow) pat T A y.2 with
  | exc c=>rw [el] at h; exact h.elim
  | bad=>rw [el] at h; exact h.elim
  | ok ps =>
   rw [el] at h
   simp only [noExc,bind_ok] at h
   by_cases hz:ps.length≤16777216
   ·rw [if_pos hz] at h
    refine ⟨fun i m H'=>m=y.2.length - i∧i≤y.2.length∧∃ F' acc vs rest,Ext F1 H1 F' H'∧F' D=none∧H' D=some (.lst vs)∧RepL C.K F' acc vs∧lcGo (wipeE Γ ow) pat T A (y.2.drop i) = .ok rest∧acc++rest=ps,?_,?_⟩
    ·exact ⟨_,rfl,Nat.zero_le _,F1,[],[],ps,Ext.lst e1.fh e1.tp hD,e1.fh.free hD,upd_same,RepL.nil,el,rfl⟩
    ·rintro i m H' ⟨rfl,hi,F',acc,vs,rest,e2,fD,hD',ra,hr,happ⟩
     obtain ⟨i1,i2,i3⟩:=it.2 i F' H' e2.ff e2.fh e2.tp (fun _=>e2.hh)
     by_cases hlt:i < y.2.length
     ·refine .inr ⟨i1 hlt,fun H''=>∃ F'' acc vs rest,Ext F1 H1 F'' H''∧F'' D=none∧H'' D=some (.lst vs)∧RepL C.K F'' acc vs∧lcGo (wipeE Γ ow) pat T A (y.2.drop (i+1)) = .ok rest∧acc++rest=ps,fun H'' hN=>⟨y.2.length - (i+1),by omega,rfl,hlt,hN⟩,fun x H2 hy=>?_⟩
      obtain ⟨itm,hit,F2,e3,rx⟩:=i3 x H2 hlt hy
      have hd:y.2.drop i=itm :: y.2.drop (i+1):=by
       rw [List.drop_eq_getElem_cons hlt]
       rw [List.getElem?_eq_getElem hlt] at hit
       cases hit
       rfl
      rw [hd] at hr
      obtain ⟨Γ',b,h1,h2,h3,h4⟩:=lcGo_cons hr
      have eall:=e1.trans (e2.trans e3)
      have g2:=(gd.next eall).wipe ow
      refine qg _ _ F0 H0 F2 H2 itm x H2 _ g2 (rx H2) ?_
      rw [h1]
      intro σ2 g3 w3
      refine ⟨by rw [w3 ow hsl]; exact wipe_idem ow fun _ z=>z,?_⟩
      refine qt σ2 Γ' F0 H0 F2 H2 _ g3 ?_
      rw [h2]
      intro F3 H3 e4
      have keepD:∀ {Fx Hx:Hp},Ext F' H' Fx Hx→Fx D=none∧Hx D=some (.lst vs):=fun {Fx Hx} ee=>by
       refine ⟨?_,ee.hh _ _ hD'⟩
       cases q:Fx D with
       | none=>rfl
       | some o =>
        rcases ee.nw D (by rw [q]; simp) with z | z
        ·exact (z fD).elim
        ·rw [hD'] at z; cases z
      cases b with
      | true =>
       rw [if_pos rfl]
       obtain ⟨yy,p,r,h5,h6,h7,h8⟩:=h3 rfl
       refine qe σ2 Γ' F0 H0 F3 H3 _ (g3.next e4) ?_
       rw [h5]
       intro v F4 H4 e5 rv
       obtain ⟨F5,e6,rp⟩:=rv.put e5 h6
       have ef:=e3.trans (e4.trans e6)
       obtain ⟨k1,k2⟩:=keepD ef
       subst h8
       refine ⟨vs,k2,?_,F5,acc++[p],vs++[v],r,?_,k1,upd_same,(ra.mono ef.ff _ _).append (RepL.cons rp RepL.nil),h7,by rw [← happ]; simp⟩
       ·have:=congrArg List.length happ
        rw [List.length_append,List.length_cons] at this
        rw [ra.len,← szL_eq]
        omega
       ·have eu:=e2.trans ef
        refine ⟨eu.ff,fun a o z=>?_,fun a o z=>?_,tups_new eu.tp (fun _ z=>by cases z) k1,eu.nw⟩
        ·rw [upd_ne (ne_of_none z hD)]; exact eu.hh _ _ z
        ·rw [upd_ne (ne_of_none z k1)]; exact eu.fh _ _ z
      | false =>
       rw [if_neg Bool.false_ne_true]
       have ef:=e3.trans e4
       obtain ⟨k1,k2⟩:=keepD ef
       exact ⟨F3,acc,vs,rest,e2.trans ef,k1,k2,ra.mono ef.ff _ _,h4 rfl,happ⟩
     ·have ein:i=y.2.length:=by omega
      refine .inl ⟨i2 (by omega),?_⟩
      rw [List.drop_eq_nil_of_le (by omega)] at hr
      cases hr
      rw [List.append_nil] at happ
      subst happ
      exact h _ F' H' (e1.trans e2) (rv_new ra hD' fD (e1.hh.free hD))
   ·rw [if_neg hz] at h; exact h.elim
theorem takesF{X:Cx}:Takes X (fun _ _ _ _=>False):=takes0
theorem de_lc{pos:Pos}(hi:DI C true k N sc tg iter I)(ok:blkC N sc scope own=true)(hg:DG C true k N (relS scope sc) scope tg pat)(ht:DF C true k N (relS scope sc) ifs T)(he:DE C true k N (relS scope sc) elt A)
  (hs:∀ (env:PySem.Env) x,foldedSetIterable iter env x=pure x:=by intro _ _; rfl)(hsl:∀ i∈pat.slots,i∈own.map (·.2):=by decide):DE C true k N sc (.ListComp elt [⟨tg,iter,ifs,0⟩] scope pos) (eLC (own.map (·.2)) I pat T A):=by
 obtain ⟨ti,pi,qi⟩:=hi
 obtain ⟨g,pg,qg⟩:=hg
 obtain ⟨tt,pt,qt⟩:=ht
 obtain ⟨te,pe,qe⟩:=he
 refine ⟨fun W=>tLc (ti W) g (tt fun _ _ _ _=>False) (te fun _ _ _ _=>False) (own.map (·.2)),fun X S W Tk=>?_,fun W σ Γ F0 H0 F H Q gd h=>?_⟩
 ·exact pe_lc (S.c rfl) (by rw [S.n]; exact S.nd) (pi X S W Tk) (blkOk_by (by rw [S.n,S.s]; exact ok)) (fun s H Ca cl fp=>pg _ (sta_blk S) req_blk) (fun s H Ca cl fp=>pt _ (sta_blk S) _ takesF) (fun s H Ca cl fp=>pe _ (sta_blk S) _ takesF) (hs _)
 ·exact lc_reads gd (fun R=>qi W σ Γ F0 H0 F H R gd) qg (qt _) (qe _) hsl h
end
end Vl
end
section
set_option Elab.async false
set_option linter.all false
set_option maxRecDepth 100000
set_option maxHeartbeats 1000000
namespace Vl
open PySem L2 Vm PyProof.Rows
structure GoodS (K:KK) (F0 H0:Hp) (Γ:En) (σ:L2.St) (F H:Hp):Prop extends Good K F0 H0 Γ σ F H where
 nb:NoBw Γ
structure StaS (C:Cn) (cm:Bool) (k:Nat) (N:List Str) (sc:Scope) (X:Cx):Prop extends Sta C cm k N sc X where
 po:PassesOwn (model X.prog X.w) X.A X.env X.xe
 rq:FnReq sc X
 sk:X.stack=X.env :: X.outer
 fr:X.env.frame=some X.env.locals
def OutOk(C:Cn)(W:WX)(F0 H0:Hp)(D:Ends):Out→Prop
 | .nx Γ=>∀ σ F H,GoodS C.K F0 H0 Γ σ F H→D.nx σ H
 | .rt t p _=>∀ v F H,Ext F0 H0 F H→RV C.K F H H0 (t,p) v→D.rt v H
 | .bk Γ=>∀ σ F H,GoodS C.K F0 H0 Γ σ F H→D.bk σ H
 | .ct Γ=>∀ σ F H,GoodS C.K F0 H0 Γ σ F H→D.ct σ H
 | .exc c Γ=>∀ σ F H,GoodS C.K F0 H0 Γ σ F H→W (C.xc c) none σ H
 | .bad=>False
def DS(C:Cn)(cm:Bool)(k:Nat)(N:List Str)(sc:Scope)(st:Stmt)(d:ST):Prop:=∃ tb:WX→TS,(∀ X,StaS C cm k N sc X→∀ W,Takes X W→PS X st (tb W)) ∧
 ∀ W D σ Γ F0 H0 F H,GoodS C.K F0 H0 Γ σ F H→OutOk C W F0 H0 D (d Γ)→tb W D σ H
def DSs(C:Cn)(cm:Bool)(k:Nat)(N:List Str)(sc:Scope)(st:List Stmt)(d:ST):Prop:=∃ tb:WX→TS,(∀ X,StaS C cm k N sc X→∀ W,Takes X W→PSs X st (tb W)) ∧
 ∀ W D σ Γ F0 H0 F H,GoodS C.K F0 H0 Γ σ F H→OutOk C W F0 H0 D (d Γ)→tb W D σ H
section
variable {C:Cn} {cm:Bool} {k:Nat} {N:List Str} {sc so:Scope} {a b c e tg:Expr} {es:List Expr} {A B:EX} {As:EXs} {T U:TX} {pos p:Pos} {X:Cx} {x:Str} {st:Stmt} {sts:List Stmt} {d d':ST}
variable {F0 H0 F H F1 H1:Hp} {Γ:En} {σ:L2.St} {W:WX} {D:Ends}
theorem GoodS.next(g:GoodS C.K F0 H0 Γ σ F H)(e:Ext F H F1 H1):GoodS C.K F0 H0 Γ σ F1 H1:=⟨g.toGood.next e,g.nb⟩
theorem OutOk.bind{f:TV→Out}{Q1:VK}{r:Res TV}(g:GoodS C.K F0 H0 Γ σ F H)(h:OutOk C W F0 H0 D (aft r Γ f))
  (q:∀ x v F1 H1,r = .ok x→Ext F H F1 H1→RV C.K F1 H1 H x v→OutOk C W F0 H0 D (f x)→Q1 v H1):EOk C W σ F H Q1 r:=by
 cases r with
 | ok x=>exact fun v F' H' e rv=>q x v F' H' rfl e rv h
 | exc c=>exact fun F' H' e=>h σ F' H' (g.next e)
 | bad=>exact h
theorem OutOk.bindT{f:Bool→Out}{Q1:Bool→Hp→Prop}{r:Res Bool}(g:GoodS C.K F0 H0 Γ σ F H)(h:OutOk C W F0 H0 D (aft r Γ f))
  (q:∀ x F1 H1,r = .ok x→Ext F H F1 H1→OutOk C W F0 H0 D (f x)→Q1 x H1):TOk C W σ F H Q1 r:=by
 cases r with
 | ok x=>exact fun F' H' e=>q x F' H' rfl e h
 | exc c=>exact fun F' H' e=>h σ F' H' (g.next e)
 | bad=>exact h
theorem ds_nil:DSs C cm k N sc [] dNil:=⟨fun _=>tNext,fun _ _ _ _=>pss_nil,fun W D σ Γ F0 H0 F H g h=>h σ F H g⟩
theorem ds_one(h:DS C cm k N sc st d):DSs C cm k N sc [st] d:=by
 obtain ⟨tb,pb,qb⟩:=h
 exact ⟨tb,fun X S W T=>pss_one (pb X S W T),qb⟩
theorem ds_cons(h1:DS C cm k N sc st d)(h2:DSs C cm k N sc sts d'):DSs C cm k N sc (st :: sts) (dSeq d d'):=by
 obtain ⟨ta,pa,qa⟩:=h1
 obtain ⟨tb,pb,qb⟩:=h2
 refine ⟨fun W=>tSeq (ta W) (tb W),fun X S W T=>pss_cons (pa X S W T) (pb X S W T),fun W D σ Γ F0 H0 F H g h=>?_⟩
 refine qa W _ σ Γ F0 H0 F H g ?_
 unfold dSeq at h
 cases e:d Γ with
 | nx Γ'=>rw [e] at h; exact fun σ' F' H' g'=>qb W D σ' Γ' F0 H0 F' H' g' h
 | rt t p Γr=>rw [e] at h; exact h
 | bk Γ'=>rw [e] at h; exact h
 | ct Γ'=>rw [e] at h; exact h
 | exc c Γ'=>rw [e] at h; exact h
 | bad=>rw [e] at h; exact h
theorem good_frz{i:Nat}{d:Nat}{p:PV}(g:GoodS C.K F0 H0 Γ σ F H)(e:Γ.get i=some (.ow d,p)):∃ F',GoodS C.K F0 H0 (Γ.set i (some (.fz,p))) σ F' H∧Same F F':=by
 obtain ⟨fp,h1,h2⟩:=g.slots
 obtain ⟨v,hv,hr⟩:=h1 i _ e
 obtain ⟨o,nd,fr⟩:=hr
 have hi:i < Γ.length:=by
  cases Nat.lt_or_ge i Γ.length with
  | inl h=>exact h
  | inr h =>
   have:Γ.get i=none:=by unfold En.get; simp [List.getD,List.getElem?_eq_none h]
   rw [this] at e; cases e
 have sF:Same F (frzF F H (fp i)):=frzF_same fun a ha=>(fr a ha).1
 refine ⟨frzF F H (fp i),⟨⟨g.ext.frz fun a ha=>fr a ha,by rw [List.length_set]; exact g.len,fp,fun j y hy=>?_,h2⟩,fun j dd pp hj=>?_⟩,sF⟩
 ·rw [get_set] at hy
  by_cases hj:j=i
  ·subst hj
   rw [if_pos ⟨rfl,hi⟩] at hy
   cases hy
   exact ⟨v,hv,o.frz g.ext.fh (fun a ha=>(fr a ha).1) fun a ha=>ha⟩
  ·rw [if_neg fun z=>hj z.1] at hy
   obtain ⟨u,h3,h4⟩:=h1 j y hy
   refine ⟨u,h3,?_⟩
   obtain ⟨t,q⟩:=y
   cases t with
   | fz=>exact Rep.mono sF _ _ h4
   | bw d=>obtain ⟨f,z⟩:=h4; exact ⟨f,z.same sF (Same.refl _)⟩
   | ow d =>
    obtain ⟨z1,z2,z3⟩:=h4
    refine ⟨z1.same sF (Same.refl _),z2,fun a ha=>⟨?_,(z3 a ha).2⟩⟩
    unfold frzF
    rw [if_neg fun z=>h2 i j a (Ne.symm hj) z ha]
    exact (z3 a ha).1
 ·rw [get_set] at hj
  split at hj
  ·cases hj
  ·exact g.nb j dd pp hj
theorem ds_frz(i:Nat)(h:DSs C cm k N sc sts d):DSs C cm k N sc sts (dFrz i d):=by
 obtain ⟨tb,pb,qb⟩:=h
 refine ⟨tb,pb,fun W D σ Γ F0 H0 F H g h=>?_⟩
 unfold dFrz at h
 cases e:Γ.get i with
 | none=>rw [e] at h; exact h.elim
 | some x =>
  obtain ⟨t,p⟩:=x
  rw [e] at h
  cases t with
  | fz=>exact qb W D σ Γ F0 H0 F H g h
  | bw d=>exact h.elim
  | ow d =>
   obtain ⟨F',g',_⟩:=good_frz g e
   exact qb W D σ _ F0 H0 F' H g' h
theorem GoodS.forget(g:GoodS C.K F0 H0 Γ σ F H)(vs:List Nat):GoodS C.K F0 H0 (wipeE Γ vs) σ F H :=
 ⟨g.toGood.forget vs,fun i d p h=>g.nb i d p (wipe_get h).1⟩
theorem nb_set{i:Nat}{x:TV}(h:NoBw Γ)(hx:∀ d p,x ≠ (.bw d,p)):NoBw (Γ.set i (some x)):=fun j d p hj=>by
 rw [get_set] at hj
 split at hj
 ·cases hj; exact hx d p rfl
 ·exact h j d p hj
theorem GoodS.setF(g:GoodS C.K F0 H0 Γ σ F H)(i:Nat){p:PV}{v:V}(h:Rep C.K F p v):GoodS C.K F0 H0 (Γ.set i (some (.fz,p))) (σ.set i (some v)) F H :=
 ⟨g.toGood.setF i (x:=(.fz,p)) h,nb_set g.nb fun d p h=>by cases h⟩
theorem GoodS.setO(g:GoodS C.K F0 H0 Γ σ F H)(i:Nat){d:Nat}{p:PV}{v:V}(e:Ext F H F1 H1)(h:RV C.K F1 H1 H (.ow d,p) v):GoodS C.K F0 H0 (Γ.set i (some (.ow d,p))) (σ.set i (some v)) F1 H1:=by
 obtain ⟨f,o,nd,fr⟩:=h
 refine ⟨(g.toGood.next e).set i (f:=f) ⟨o,nd,fun a ha=>⟨(fr a ha).1,g.ext.hh.free (fr a ha).2⟩⟩ fun fp h1 h2=>?_,nb_set g.nb fun d p h=>by cases h⟩
 obtain ⟨fq,k1,k2⟩:=g.slots
 refine ⟨fun j=>if j=i then f else match Γ.get j with
  | some (.ow _,_)=>fq j
  | _=>[],fun j y hy hj=>?_,fun i' j a hij ha hb=>?_,if_pos rfl⟩
 ·obtain ⟨v',h3,h4⟩:=k1 j y hy
  refine ⟨v',h3,?_⟩
  simp only
  rw [if_neg hj,hy]
  obtain ⟨t,q⟩:=y
  cases t with
  | fz=>exact h4.ext e
  | bw d=>exact h4.ext e
  | ow d=>exact h4.ext e
 ·have old:∀ j',a∈(match Γ.get j' with | some (.ow _,_)=>fq j' | _=>[])→a∈fq j'∧H a ≠ none:=fun j' hm=>by
   cases q:Γ.get j' with
   | none=>rw [q] at hm; simp at hm
   | some y =>
    obtain ⟨t,pp⟩:=y
    rw [q] at hm
    cases t with
    | fz=>simp at hm
    | bw _=>simp at hm
    | ow dd =>
     obtain ⟨v',_,h4⟩:=k1 j' _ q
     refine ⟨hm,?_⟩
     obtain ⟨ws,z,_⟩:=h4.1.there dd a hm
     rw [z]; simp
  simp only at ha hb
  by_cases h1':i'=i
  ·rw [if_pos h1'] at ha
   rw [if_neg (fun z=>hij (h1'.trans z.symm))] at hb
   exact (old j hb).2 (fr a ha).2
  ·rw [if_neg h1'] at ha
   by_cases h2':j=i
   ·rw [if_pos h2'] at hb
    exact (old i' ha).2 (fr a hb).2
   ·rw [if_neg h2'] at hb
    exact k2 i' j a hij (old i' ha).1 (old j hb).1
theorem ds_set(i:Nat){x:Str}{pos':Pos}(he:DE C cm k N sc e A)(hi:N[i]? = some x:=by rfl)(hx:Loc sc x:=by first | exact Or.inl rfl | exact Or.inr rfl)
  (hs:∀ env:PySem.Env,env.scope=sc→swapsWith e (some (.Name x pos')) pos.line env=pure false:=by intro env _; rfl):DS C cm k N sc (.Assign [.Name x pos'] e pos) (dSet i A):=by
 obtain ⟨ta,pa,qa⟩:=he
 refine ⟨fun W=>tAsg (ta W) (gName i),fun X S W T=>ps_set (by rw [S.n]; exact S.nd) (by rw [S.n]; exact hi) (by rw [S.s]; exact hx) (pa X S.toSta W T) (hs _ S.s) (by
  rcases hx with hx | hx
  ·exact .inr (by rw [S.s]; exact hx)
  ·exact .inl (S.rq _ hx)),fun W D σ Γ F0 H0 F H g h=>?_⟩
 refine qa W σ Γ F0 H0 F H _ g.toGood (OutOk.bind g h fun x v F1 H1 ex e1 r1 h1=>?_)
 cases hp:putV x with
 | ok p =>
  rw [hp,after_ok] at h1
  obtain ⟨F2,e2,r2⟩:=r1.put e1 hp
  exact h1 _ F2 H1 ((g.next e2).setF i r2)
 | exc c=>exact (put_noexc hp).elim
 | bad=>rw [hp] at h1; exact h1.elim
theorem ds_setO(i:Nat){x:Str}{pos':Pos}(he:DE C cm k N sc e A)(hi:N[i]? = some x:=by rfl)(hx:Loc sc x:=by first | exact Or.inl rfl | exact Or.inr rfl)
  (hs:∀ env:PySem.Env,env.scope=sc→swapsWith e (some (.Name x pos')) pos.line env=pure false:=by intro env _; rfl):DS C cm k N sc (.Assign [.Name x pos'] e pos) (dSetO i A):=by
 obtain ⟨ta,pa,qa⟩:=he
 refine ⟨fun W=>tAsg (ta W) (gName i),fun X S W T=>ps_set (by rw [S.n]; exact S.nd) (by rw [S.n]; exact hi) (by rw [S.s]; exact hx) (pa X S.toSta W T) (hs _ S.s) (by
  rcases hx with hx | hx
  ·exact .inr (by rw [S.s]; exact hx)
  ·exact .inl (S.rq _ hx)),fun W D σ Γ F0 H0 F H g h=>?_⟩
 refine qa W σ Γ F0 H0 F H _ g.toGood (OutOk.bind g h fun x v F1 H1 ex e1 r1 h1=>?_)
 obtain ⟨t,q⟩:=x
 cases t with
 | ow d=>exact h1 _ F1 H1 (g.setO i e1 r1)
 | _=>exact h1.elim
theorem ds_setLC(i:Nat){x:Str}{py:Pos}{elt iter:Expr}{ifs:List Expr}{scope:Scope}{own:List (Str×Nat)}{lpos:Pos}{I:IX}{pat:Pat}(ow:Bool)(hi:DI C true k N sc tg iter I)(ok:blkC N sc scope own=true)(hg:DG C true k N (relS scope sc) scope tg pat)(ht:DF C true k N (relS scope sc) ifs T)(he:DE C true k N (relS scope sc) elt A)
  (hN:N[i]? = some x:=by rfl)(hyl:sc.names.lookup x=some .local:=by rfl)(hk:sc.kind = .function:=by rfl)(hl:(py.line == lpos.line)=true:=by rfl)(ha:(scope.names.any fun (n,k)=>n == x && (k == .local || k == .cell))=false:=by decide +kernel)
  (hs:∀ (env:PySem.Env) x,foldedSetIterable iter env x=pure x:=by intro _ _; rfl)(hsl:∀ i∈pat.slots,i∈own.map (·.2):=by decide):DS C true k N sc (.Assign [.Name x py] (.ListComp elt [⟨tg,iter,ifs,0⟩] scope lpos) pos) ((if ow then dSetO else dSet) i (eLC (own.map (·.2)) I pat T A)):=by
 obtain ⟨ti,pi,qi⟩:=hi
 obtain ⟨g,pg,qg⟩:=hg
 obtain ⟨tt,pt,qt⟩:=ht
 obtain ⟨te,pe,qe⟩:=he
 refine ⟨fun W=>tAsg (tLc (ti W) g (tt fun _ _ _ _=>False) (te fun _ _ _ _=>False) (own.map (·.2))) (gName i),fun X S W Tk=>?_,fun W D σ Γ F0 H0 F H gd h=>?_⟩
 ·exact ps_setLc (S.c rfl) (by rw [S.n]; exact S.nd) (by rw [S.n]; exact hN) (by rw [S.s]; exact hyl) (sw_true (by rw [S.s]; exact hk) (by rw [S.s]; exact hyl) hl ha) (pi X S.toSta W Tk) (blkOk_by (by rw [S.n,S.s]; exact ok)) (fun s H Ca cl fp=>pg _ (sta_blk S.toSta) req_blk) (fun s H Ca cl fp=>pt _ (sta_blk S.toSta) _ takesF) (fun s H Ca cl fp=>pe _ (sta_blk S.toSta) _ takesF) (hs _)
 ·show tLc _ _ _ _ _ σ H _
  cases ow with
  | true =>
   refine lc_reads gd.toGood (fun R=>qi W σ Γ F0 H0 F H R gd.toGood) qg (qt _) (qe _) hsl (OutOk.bind gd h fun x v F1 H1 ex e1 r1 h1=>?_)
   obtain ⟨t,q⟩:=x
   cases t with
   | ow d=>exact h1 _ F1 H1 (gd.setO i e1 r1)
   | _=>exact h1.elim
  | false =>
   refine lc_reads gd.toGood (fun R=>qi W σ Γ F0 H0 F H R gd.toGood) qg (qt _) (qe _) hsl (OutOk.bind gd h fun x v F1 H1 ex e1 r1 h1=>?_)
   cases hp:putV x with
   | ok p =>
    rw [hp,after_ok] at h1
    obtain ⟨F2,e2,r2⟩:=r1.put e1 hp
    exact h1 _ F2 H1 ((gd.next e2).setF i r2)
   | exc c=>exact (put_noexc hp).elim
   | bad=>rw [hp] at h1; exact h1.elim
theorem setAll_nb:∀ {is:List Nat} {ps:List PV} {Γ Γ':En},setAll Γ is ps=some Γ'→NoBw Γ→NoBw Γ'
 | [],[],_,_,h,n=>by cases h; exact n
 | i :: is,p :: ps,Γ,Γ',h,n=>setAll_nb (is:=is) (ps:=ps) h (nb_set n fun d p h=>by cases h)
 | [],_ :: _,_,_,h,_=>by cases h
 | _ :: _,[],_,_,h,_=>by cases h
theorem ds_setT{is:List Nat}{k':Nat}{tpos:Pos}(he:DE C true k N sc e A)(hg:DG C true k N sc sc (.Tuple es k' tpos) (.t is))(hs:∀ env:PySem.Env,swapsWithSole [.Tuple es k' tpos] e pos.line env=pure false:=by intro _; rfl)(hw:∀ env:PySem.Env,swappedStores [.Tuple es k' tpos] e env=pure none:=by intro _; rfl)
  (h1:∀ env:PySem.Env,(assignEach [.Tuple es k' tpos] env).map (·.2)=[assign (.Tuple es k' tpos) env]:=by intro _; rfl):DS C true k N sc (.Assign [.Tuple es k' tpos] e pos) (dSetT is A):=by
 obtain ⟨ta,pa,qa⟩:=he
 obtain ⟨t,pt,qt⟩:=hg
 refine ⟨fun W=>tAsg (ta W) t,fun X S W T=>ps_asg (pa X S.toSta W T) (pt X S.toSta S.rq) (hs _) (hw _) (h1 _),fun W D σ Γ F0 H0 F H g h=>?_⟩
 refine qa W σ Γ F0 H0 F H _ g.toGood (OutOk.bind g h fun x v F1 H1 ex e1 r1 h1=>?_)
 cases hp:putV x with
 | ok p =>
  rw [hp,after_ok] at h1
  obtain ⟨F2,e2,r2⟩:=r1.put e1 hp
  refine qt Γ σ F0 H0 F2 H1 (.fz,p) v H1 _ (g.next e2).toGood (.fz r2) ?_
  cases hb:bindP Γ (.fz,p) (.t is) with
  | ok Γ' =>
   rw [hb,after_ok] at h1
   intro σ' g' _
   refine h1 σ' F2 H1 ⟨g',?_⟩
   unfold bindP at hb
   cases q0:seqP (.fz,p) with
   | none=>simp only [q0] at hb; cases hb
   | some ps =>
    simp only [q0] at hb
    cases q:setAll Γ is ps with
    | none=>rw [q] at hb; cases hb
    | some Γ2=>rw [q] at hb; cases hb; exact setAll_nb q g.nb
  | exc c =>
   unfold bindP at hb
   cases q0:seqP (.fz,p) with
   | none=>simp only [q0] at hb; cases hb
   | some ps =>
    simp only [q0] at hb
    cases q:setAll Γ is ps with
    | none=>rw [q] at hb; cases hb
    | some Γ2=>rw [q] at hb; cases hb
  | bad=>rw [hb] at h1; exact h1.elim
 | exc c=>exact (put_noexc hp).elim
 | bad=>rw [hp] at h1; exact h1.elim
theorem ds_if{s1 s2:List Stmt}{d1 d2:ST}(ht:DT C cm k N sc c T)(h1:DSs C cm k N sc s1 d1)(h2:DSs C cm k N sc s2 d2):DS C cm k N sc (.If c s1 s2 pos) (dIf T d1 d2):=by
 obtain ⟨tc,pc,qc⟩:=ht
 obtain ⟨ta,pa,qa⟩:=h1
 obtain ⟨tb,pb,qb⟩:=h2
 refine ⟨fun W=>tIfS (tc W) (ta W) (tb W),fun X S W T=>ps_if (pc X S.toSta W T) (pa X S W T) (pb X S W T),fun W D σ Γ F0 H0 F H g h=>?_⟩
 refine qc W σ Γ F0 H0 F H _ g.toGood (OutOk.bindT g h fun b F1 H1 eb e1 h1=>?_)
 cases b with
 | true=>exact iteT (qa W D σ Γ F0 H0 F1 H1 (g.next e1) h1)
 | false=>exact iteF (qb W D σ Γ F0 H0 F1 H1 (g.next e1) h1)
theorem ds_ret(he:DE C cm k N sc e A):DS C cm k N sc (.Return (some e) pos) (dRet A):=by
 obtain ⟨ta,pa,qa⟩:=he
 refine ⟨fun W=>tRet (ta W),fun X S W T=>ps_ret (pa X S.toSta W T),fun W D σ Γ F0 H0 F H g h=>?_⟩
 refine qa W σ Γ F0 H0 F H _ g.toGood (OutOk.bind g h fun x v F1 H1 ex e1 r1 h1=>?_)
 obtain ⟨t,q⟩:=x
 have ee:=g.ext.trans e1
 have rs:=r1.start g.ext.hh
 cases t with
 | fz=>exact h1 v F1 H1 ee rs
 | ow d=>exact h1 v F1 H1 ee rs
 | bw d =>
  cases d with
  | zero=>obtain ⟨_,fp,z⟩:=rs; exact h1 v F1 H1 ee (.fz z.2)
  | succ d=>exact h1.elim
theorem ds_retV (i:Nat) {x:Str} (hN:N[i]? = some x:=by rfl) (hv:Vis sc x:=by first | exact Or.inl rfl | exact Or.inr (Or.inl rfl) | exact Or.inr (Or.inr rfl)) (hd:(x == ("__debug__":Str))=false:=by decide)
  (hcd:(x == ("__classdict__":Str))=false:=by decide):DS C cm k N sc (.Return (some (.Name x p)) pos) (dRetV i):=by
 refine ⟨fun W=>tRet (tVar i),fun X S W T=>ps_ret (pe_var (by rw [S.n]; exact hN) (by rw [S.s]; exact hv) hd hcd),fun W D σ Γ F0 H0 F H g h=>?_⟩
 obtain ⟨fp,h1,_⟩:=g.slots
 unfold dRetV at h
 cases e:Γ.get i with
 | none=>rw [e] at h; exact h.elim
 | some y =>
  obtain ⟨t,q⟩:=y
  obtain ⟨v,h3,h4⟩:=h1 i _ e
  rw [e] at h
  refine ⟨v,h3,?_⟩
  cases t with
  | fz=>exact h v F H g.ext ⟨[],h4⟩
  | ow d=>exact h v F H g.ext ⟨_,h4⟩
  | bw d=>exact h.elim
end
end Vl
end
section
set_option Elab.async false
set_option linter.all false
set_option maxRecDepth 100000
set_option maxHeartbeats 1000000
namespace Vl
open PySem L2 Vm PyProof.Rows
section
variable {C:Cn} {cm:Bool} {k:Nat} {N:List Str} {sc so:Scope} {a b c e tg:Expr} {es:List Expr} {A B:EX} {As:EXs} {T U:TX} {pos p:Pos} {X:Cx} {x:Str} {st:Stmt} {sts:List Stmt} {d d':ST}
variable {F0 H0 F H F1 H1:Hp} {Γ:En} {σ:L2.St} {W:WX} {D:Ends}
theorem bindP_nb{x:TV}{pat:Pat}{Γ':En}(hx:∃ p,x=(.fz,p))(h:bindP Γ x pat = .ok Γ')(n:NoBw Γ):NoBw Γ':=by
 obtain ⟨p,rfl⟩:=hx
 cases pat with
 | v i=>cases h; exact nb_set n fun d p h=>by cases h
 | t is =>
  unfold bindP at h
  cases q0:seqP (.fz,p) with
  | none=>simp only [q0] at h; cases h
  | some ps =>
   simp only [q0] at h
   cases q:setAll Γ is ps with
   | none=>rw [q] at h; cases h
   | some Γ2=>rw [q] at h; cases h; exact setAll_nb q n
theorem bindP_noexc{x:TV}{pat:Pat}{c:Nat}:bindP Γ x pat ≠ .exc c:=by
 intro h
 cases pat with
 | v i =>
  obtain ⟨t,p⟩:=x
  cases t with
  | fz=>cases h
  | ow d=>cases h
  | bw d=>cases d <;> cases h
 | t is =>
  unfold bindP at h
  cases q0:seqP x with
  | none=>simp only [q0] at h; cases h
  | some ps =>
   simp only [q0] at h
   cases q:setAll Γ is ps with
   | none=>rw [q] at h; cases h
   | some Γ2=>rw [q] at h; cases h
theorem GoodS.rebase(g:GoodS C.K F0 H0 Γ σ F H):GoodS C.K F H0 Γ σ F H :=
 ⟨⟨⟨Same.refl _,g.ext.hh,g.ext.fh,g.ext.tp,fun a q=>.inl q⟩,g.len,g.slots⟩,g.nb⟩
theorem Ext.back{Fx Hx Fy Hy:Hp}(e:Ext F0 H0 Fx Hx)(e2:Ext Fx H0 Fy Hy):Ext F0 H0 Fy Hy :=
 ⟨e.ff.trans e2.ff,e2.hh,e2.fh,e2.tp,fun a q=>by
  rcases e2.nw a q with q | q
  ·exact e.nw a q
  ·exact .inr q⟩
theorem GoodS.back{Fx Hx Fy Hy:Hp}{Γ':En}{σ':L2.St}(e:Ext F0 H0 Fx Hx)(g:GoodS C.K Fx H0 Γ' σ' Fy Hy):GoodS C.K F0 H0 Γ' σ' Fy Hy :=
 ⟨⟨Ext.back e g.ext,g.len,g.slots⟩,g.nb⟩
theorem ds_for{iter:Expr}{body:List Stmt}{I:IX}{pat:Pat}(ws:List Nat)(hi:DI C true k N sc tg iter I)(hg:DG C true k N sc sc tg pat)(hb:DSs C true k N sc body d)
  (hs:∀ (env:PySem.Env) x,foldedSetIterable iter env x=pure x:=by intro _ _; rfl):DS C true k N sc (.For tg iter body [] pos) (dFor I pat ws d):=by
 obtain ⟨ti,pi,qi⟩:=hi
 obtain ⟨t,pt,qt⟩:=hg
 obtain ⟨tb,pb,qb⟩:=hb
 refine ⟨fun W=>tFor (ti W) t (tb W),fun X S W T=>ps_for S.po (S.c rfl) (pi X S.toSta W T) (pt X S.toSta S.rq) (pb X S W T) (hs _),fun W D σ Γ F0 H0 F H g h=>?_⟩
 refine qi W σ Γ F0 H0 F H _ g.toGood ?_
 unfold dFor at h
 cases ei:I Γ with
 | exc c=>rw [ei] at h; exact fun F' H' e=>h σ F' H' (g.next e)
 | bad=>rw [ei] at h; exact h
 | ok y =>
  rw [ei,after_ok] at h
  intro J F1 H1 e1 it
  cases hy:y.1 with
  | false=>rw [hy] at h; exact h.elim
  | true =>
   rw [hy,if_pos rfl] at h
   rw [hy] at it
   have g1:=(g.next e1).forget ws
   refine ⟨fun i m σ' H'=>m=y.2.length - i∧i≤y.2.length∧∃ Γ' F',GoodS C.K F0 H0 Γ' σ' F' H'∧Same F1 F'∧OutOk C W F0 H0 D (forL pat ws d (y.2.drop i) Γ'),⟨_,rfl,Nat.zero_le _,wipeE Γ ws,F1,g1,Same.refl _,h⟩,?_⟩
   rintro i m σ' H' ⟨rfl,hi,Γ',F',g',sf,ho⟩
   obtain ⟨i1,i2,i3⟩:=it.2 i F' H' sf g'.ext.fh g'.ext.tp fun z=>by cases z
   by_cases hlt:i < y.2.length
   ·refine .inr ⟨i1 hlt,fun σ2 H2=>∃ Γ2 F2,GoodS C.K F0 H0 Γ2 σ2 F2 H2∧Same F1 F2∧OutOk C W F0 H0 D (forL pat ws d (y.2.drop (i+1)) Γ2),fun σ2 H2 hN=>⟨y.2.length - (i+1),by omega,rfl,hlt,hN⟩,fun xv H2 hyl=>?_⟩
    obtain ⟨itm,hit,F2,e3,rx⟩:=i3 xv H2 hlt hyl
    have hd:y.2.drop i=itm :: y.2.drop (i+1):=by
     rw [List.drop_eq_getElem_cons hlt]
     rw [List.getElem?_eq_getElem hlt] at hit
     cases hit
     rfl
    have hfz:=it.1 rfl itm (List.mem_of_getElem? hit)
    rw [hd] at ho
    unfold forL at ho
    have g2:=g'.next e3
    refine qt Γ' σ' F0 H0 F2 H2 itm xv H2 _ g2.toGood (rx H2) ?_
    cases hbp:bindP Γ' itm pat with
    | exc c=>exact (bindP_noexc hbp).elim
    | bad=>rw [hbp] at ho; exact ho.elim
    | ok Γ3 =>
     rw [hbp] at ho
     simp only at ho
     intro σ3 g3 _
     have gs3:GoodS C.K F0 H0 Γ3 σ3 F2 H2:=⟨g3,bindP_nb hfz hbp g2.nb⟩
     refine qb W _ σ3 Γ3 F2 H0 F2 H2 gs3.rebase ?_
     have e2:Ext F0 H0 F2 H2:=gs3.ext
     have sf2:Same F1 F2:=sf.trans e3.ff
     cases eo:d Γ3 with
     | nx Γ4=>rw [eo] at ho; exact fun σ4 F4 H4 g4=>⟨wipeE Γ4 ws,F4,(g4.back e2).forget ws,sf2.trans g4.ext.ff,ho⟩
     | ct Γ4=>rw [eo] at ho; exact fun σ4 F4 H4 g4=>⟨wipeE Γ4 ws,F4,(g4.back e2).forget ws,sf2.trans g4.ext.ff,ho⟩
     | bk Γ4=>rw [eo] at ho; exact fun σ4 F4 H4 g4=>ho σ4 F4 H4 ((g4.back e2).forget ws)
     | rt t p Γr=>rw [eo] at ho; exact fun v F4 H4 e4 r4=>ho v F4 H4 (Ext.back e2 e4) r4
     | exc c Γ4=>rw [eo] at ho; exact fun σ4 F4 H4 g4=>ho σ4 F4 H4 (g4.back e2)
     | bad=>rw [eo] at ho; exact ho.elim
   ·have ein:i=y.2.length:=by omega
    rw [List.drop_eq_nil_of_le (by omega)] at ho
    exact .inl ⟨i2 (by omega),ho σ' F' H' g'⟩
theorem ds_while{body:List Stmt}(ws:List Nat)(ht:DT C cm k N sc c T)(hb:DSs C cm k N sc body d):DS C cm k N sc (.While c body [] pos) (dWhile T ws d):=by
 obtain ⟨tc,pc,qc⟩:=ht
 obtain ⟨tb,pb,qb⟩:=hb
 refine ⟨fun W=>tWhile (tc W) (tb W),fun X S W Tk=>ps_while S.po (pc X S.toSta W Tk) (pb X S W Tk),fun W D σ Γ F0 H0 F H g h=>?_⟩
 have hex:∃ n o,whL T ws d n (wipeE Γ ws)=some o:=by
  unfold dWhile at h
  split at h
  ·assumption
  ·exact h.elim
 obtain ⟨n,o,hn⟩:=hex
 rw [dWhile_eq hn] at h
 refine ⟨fun m σ' H'=>∃ Γ' F' o,GoodS C.K F0 H0 Γ' σ' F' H'∧whL T ws d m Γ'=some o∧OutOk C W F0 H0 D o,⟨n,wipeE Γ ws,F,o,g.forget ws,hn,h⟩,?_⟩
 rintro m σ' H' ⟨Γ',F',o',g',hm,ho⟩
 cases m with
 | zero=>cases hm
 | succ m =>
  refine qc W σ' Γ' F0 H0 F' H' _ g'.toGood ?_
  unfold whL at hm
  cases et:T Γ' with
  | exc c=>rw [et] at hm; cases hm; exact fun F'' H'' e=>ho σ' F'' H'' (g'.next e)
  | bad=>rw [et] at hm; cases hm; exact ho
  | ok b =>
   intro F2 H2 e2
   have g2:=g'.next e2
   cases b with
   | false =>
    rw [et] at hm
    cases hm
    exact iteF (ho σ' F2 H2 g2)
   | true =>
    rw [et] at hm
    refine iteT ⟨fun σ3 H3=>∃ Γ3 F3 o,GoodS C.K F0 H0 Γ3 σ3 F3 H3∧whL T ws d m Γ3=some o∧OutOk C W F0 H0 D o,fun σ3 H3 hN=>⟨m,by omega,hN⟩,?_⟩
    refine qb W _ σ' Γ' F0 H0 F2 H2 g2 ?_
    simp only at hm
    cases eo:d Γ' with
    | nx Γ4=>rw [eo] at hm; exact fun σ4 F4 H4 g4=>⟨wipeE Γ4 ws,F4,o',g4.forget ws,hm,ho⟩
    | ct Γ4=>rw [eo] at hm; exact fun σ4 F4 H4 g4=>⟨wipeE Γ4 ws,F4,o',g4.forget ws,hm,ho⟩
    | bk Γ4=>rw [eo] at hm; cases hm; exact fun σ4 F4 H4 g4=>ho σ4 F4 H4 (g4.forget ws)
    | rt t p Γr=>rw [eo] at hm; cases hm; exact ho
    | exc c Γ4=>rw [eo] at hm; cases hm; exact ho
    | bad=>rw [eo] at hm; cases hm; exact ho.elim
theorem good_mod{i:Nat}{l:List PV}(g:GoodS C.K F0 H0 Γ σ F H)(e:Γ.get i=some (.ow 1,.lst l)):∃ ad vs,σ[i]? = some (some (.ref ad))∧H ad=some (.lst vs)∧RepL C.K F l vs∧F ad=none∧H0 ad=none ∧
  ∀ {F2 H2 l2 vs2},Ext F H F2 H2→RepL C.K F2 l2 vs2→GoodS C.K F0 H0 (Γ.set i (some (.ow 1,.lst l2))) σ F2 (upd H2 ad (.lst vs2))∧H2 ad=some (.lst vs):=by
 obtain ⟨fp,h1,h2⟩:=g.slots
 obtain ⟨v,hv,o,nd,fr⟩:=h1 i _ e
 have hi:i < Γ.length:=by
  cases Nat.lt_or_ge i Γ.length with
  | inl h=>exact h
  | inr h =>
   have:Γ.get i=none:=by unfold En.get; simp [List.getD,List.getElem?_eq_none h]
   rw [this] at e; cases e
 have o':=o
 obtain ⟨l',ad,vs,fps,e0,rfl,h3,h4,h5⟩:=o'.lst
 cases e0
 have hm:ad∈fp i:=by rw [h4]; simp
 obtain ⟨f1,f2⟩:=fr ad hm
 have r1:RepL C.K F l vs:=by
  obtain ⟨ad',vs',e6,e7,e8⟩:=own_one o
  cases e6
  rw [h3] at e7
  cases e7
  exact e8
 refine ⟨ad,vs,hv,h3,r1,f1,f2,fun {F2 H2 l2 vs2} e2 r2=>⟨⟨⟨?_,by rw [List.length_set]; exact g.len,fun j=>if j=i then [ad] else fp j,fun j y hy=>?_,fun i' j a hij ha hb=>?_⟩,nb_set g.nb fun d p h=>by cases h⟩,e2.hh _ _ h3⟩⟩
 ·have f2n:F2 ad=none:=by
   cases q:F2 ad with
   | none=>rfl
   | some o =>
    rcases e2.nw ad (by rw [q]; simp) with z | z
    ·exact (z f1).elim
    ·rw [h3] at z; cases z
  have ee:=g.ext.trans e2
  refine ⟨ee.ff,fun a o z=>?_,fun a o z=>?_,tups_new ee.tp (fun _ z=>by cases z) f2n,ee.nw⟩
  ·rw [upd_ne (ne_of_none z f2)]; exact ee.hh _ _ z
  ·rw [upd_ne (ne_of_none z f2n)]; exact ee.fh _ _ z
 ·rw [get_set] at hy
  by_cases hj:j=i
  ·subst hj
   rw [if_pos ⟨rfl,hi⟩] at hy
   cases hy
   refine ⟨_,hv,?_⟩
   simp only [if_pos]
   have f2n:F2 ad=none:=by
    cases q:F2 ad with
    | none=>rfl
    | some o =>
     rcases e2.nw ad (by rw [q]; simp) with z | z
     ·exact (z f1).elim
     ·rw [h3] at z; cases z
   exact ⟨own_new r2 upd_same,by simp,fun a ha=>by simp at ha; subst ha; exact ⟨f2n,f2⟩⟩
  ·rw [if_neg fun z=>hj z.1] at hy
   obtain ⟨u,h6,h7⟩:=h1 j y hy
   refine ⟨u,h6,?_⟩
   simp only
   rw [if_neg hj]
   have h8:=h7.ext e2
   obtain ⟨t,q⟩:=y
   cases t with
   | fz=>exact h8
   | bw d=>exact (g.nb j d q hy).elim
   | ow d =>
    obtain ⟨z1,z2,z3⟩:=h8
    exact ⟨Own.mono (Same.refl _) d z1 fun a ha=>upd_ne fun z=>by subst z; exact h2 i j a (Ne.symm hj) hm ha,z2,z3⟩
 ·simp only at ha hb
  by_cases h1':i'=i
  ·rw [if_pos h1'] at ha
   rw [if_neg (fun z=>hij (h1'.trans z.symm))] at hb
   simp at ha
   subst ha
   exact h2 i j a (fun z=>hij (h1'.trans z)) hm hb
  ·rw [if_neg h1'] at ha
   by_cases h2':j=i
   ·rw [if_pos h2'] at hb
    simp at hb
    subst hb
    exact h2 i' i a h1' ha hm
   ·rw [if_neg h2'] at hb
    exact h2 i' j a hij ha hb
theorem ds_app (i:Nat) {x:Str} {apos cpos p1:Pos} (he:DE C cm k N sc e A) (hN:N[i]? = some x:=by rfl) (hv:Vis sc x:=by first | exact Or.inl rfl | exact Or.inr (Or.inl rfl) | exact Or.inr (Or.inr rfl)) (hd:(x == ("__debug__":Str))=false:=by decide)
  (hcd:(x == ("__classdict__":Str))=false:=by decide) (hbase:∀ env:PySem.Env,attributeBase (.Name x p1) "append" env (eval (.Name x p1) env)=eval (.Name x p1) env:=by intro _; rfl)
  (hfew:∀ env:PySem.Env,((backTo cpos (starEach [e] env)).all (fun x=>!x.1) && (backToKw cpos (keywordEach [] env)).all (fun x=>x.1.isSome)
   && decide (([e]).length+([]:List Keyword).length+(if ([]:List Keyword).isEmpty then 0 else 1) < 30))=true:=by intro _; rfl)
  (hline:(apos.endLine == cpos.line)=true:=by rfl) (hst:∀ env:PySem.Env,starEach [e] env=(false,eval e env) :: starEach [] env:=by intro _; rfl) (hs:∀ env:PySem.Env,swapsWith (.Call (.Attribute (.Name x p1) "append" apos) [e] [] cpos) none pos.line env=pure false:=by intro _; rfl) :
  DS C cm k N sc (.Expr (.Call (.Attribute (.Name x p1) "append" apos) [e] [] cpos) pos) (dApp i A):=by
 obtain ⟨ta,pa,qa⟩:=he
 refine ⟨fun W=>tDrop (tBM C.K "list" rAppend (tVar i) (tCons (ta W) tNil)),fun X S W T=>by rw [← S.K]; exact ps_expr (pe_bm PySem.F.plainAttrs_list PySem.F.slot_list_append PySem.F.type_list_append mt_append (pe_var (by rw [S.n]; exact hN) (by rw [S.s]; exact hv) hd hcd) (pa_cons (pa X S.toSta W T) pa_nil (hst _)) (hbase _) (hfew _) hline (hst _) rfl) (hs _),fun W D σ Γ F0 H0 F H g h=>?_⟩
 unfold dApp at h
 split at h
 ·rename_i l eg
  obtain ⟨ad,vs,hv',hH,rl,f1,f2,go⟩:=good_mod g eg
  refine ⟨.ref ad,hv',.inl ⟨rfl,vs,SqL.of hH⟩,qa W σ Γ F0 H0 F H _ g.toGood (OutOk.bind g h fun x v F1 H1 ex e1 rv h=>?_)⟩
  cases hp:putV x with
  | exc c=>exact (put_noexc hp).elim
  | bad=>rw [hp] at h; exact h.elim
  | ok p =>
   rw [hp,after_ok] at h
   by_cases hz:l.length < 16777216
   ·rw [if_pos hz] at h
    obtain ⟨F2,e2,r2⟩:=rv.put e1 hp
    obtain ⟨gg,hH2⟩:=go e2 ((rl.mono e2.ff _ _).append (RepL.cons r2 RepL.nil))
    exact ⟨ad,vs,v,rfl,rfl,hH2,by rw [rl.len,← szL_eq]; exact hz,h σ _ _ gg⟩
   ·rw [if_neg hz] at h; exact h.elim
 ·exact h.elim
theorem get_args{n:Nat}{ps:List PV}{i:Nat}{x:TV}(h:En.get (ps.map (fun p=>some (.fz,p))++List.replicate n none) i=some x):∃ p,ps[i]? = some p∧x=(.fz,p):=by
 unfold En.get at h
 rw [List.getD,List.getElem?_append] at h
 split at h
 ·rename_i hl
  rw [List.getElem?_map] at h
  cases q:ps[i]? with
  | none=>rw [q] at h; cases h
  | some p=>rw [q] at h; exact ⟨p,rfl,by cases h; rfl⟩
 ·rename_i hl
  rw [List.getElem?_replicate] at h
  split at h <;> cases h
theorem fn_okF{x:Str}{ad:Addr}{fd:FuncData}{ps:List Str}{n ns j:Nat}{d:ST}(F:Fun C.K x x st ad fd)(S:FnScope N ps (defScope st))(hp:ps.length=n)(hN:N.length=ns)(hm:C.mg x=some (.ref ad))(hb:Binds C.K fd ps [])
  (body:DSs C true j N (defScope st) (defBody st) d):FnOk C.P C.w C.K C.mg C.base (L2.CX C.P C.w) (j+1) ad fd ps (spOf C n (runFn n ns d)):=by
 obtain ⟨tb,pb,qb⟩:=body
 have hnn:n≤ns:=by
  have:=congrArg List.length S.pre
  rw [List.length_take] at this
  omega
 refine F.okX S (fun vs H Q E h=>?_) (fun cdv A outer s H vs Q E hr h=>?_)
 ·obtain ⟨_,_,h1,_⟩:=h
  rw [h1,hp]
 ·obtain ⟨F0,qs,h1,h2,h3,h4,h5⟩:=h
  refine ⟨tb fun cls d _ H=>E cls d H,pb _ ⟨⟨rfl,rfl,rfl,S.nd,fun _=>rfl,fun _=>hr,?_⟩,passes_of rfl,fun _ _=>rfl,rfl,rfl⟩ _ (takes_of rfl rfl rfl rfl),?_⟩
  ·have h0:=hr.un
   have h1:(cxOf (L2.CX C.P C.w) C.P C.w C.K C.mg C.base N x (defScope st) ad cdv A outer s H E).A.units+100 < cLine:=by
    show (A.deeper _).units+100 < cLine
    omega
   exact h1
  ·refine qb _ _ _ (qs.map (fun p=>some (.fz,p))++List.replicate (ns - n) none) F0 H F0 H ⟨⟨Ext.refl h2 h3,?_,fun _=>[],fun i y hy=>?_,fun _ _ _ _ h=>by simp at h⟩,fun i d p hy=>?_⟩ ?_
   ·have:=h4.len
    simp [L2.start,hN]
    omega
   ·obtain ⟨p,hp,rfl⟩:=get_args hy
    obtain ⟨v,hv,r⟩:=h4.get hp
    refine ⟨v,?_,r⟩
    unfold L2.start
    rw [List.getElem?_append_left (by rw [List.length_map]; exact (List.getElem?_eq_some_iff.mp hv).1),List.getElem?_map,hv]
    rfl
   ·obtain ⟨p',hp,e⟩:=get_args hy
    cases e
   ·have hl:qs.length=n:=by rw [← h4.len]; exact h1
    unfold runFn at h5
    rw [if_pos hl] at h5
    cases eo:d (qs.map (fun p=>some (.fz,p))++List.replicate (ns - n) none) with
    | nx Γ=>rw [eo] at h5; exact fun σ' F' H' g'=>h5 _ F' H' g'.ext (.fz rep_non)
    | rt t p Γr=>rw [eo] at h5; exact fun v F' H' e r=>h5 v F' H' e r
    | bk Γ=>rw [eo] at h5; exact h5.elim
    | ct Γ=>rw [eo] at h5; exact h5.elim
    | exc c Γ=>rw [eo] at h5; exact fun σ' F' H' g'=>h5 F' H' g'.ext
    | bad=>rw [eo] at h5; exact h5.elim
theorem fn_ok{x:Str}{ad:Addr}{fd:FuncData}{ps:List Str}{n ns j:Nat}{d:ST}(F:Fun C.K x x st ad fd)(S:FnScope N ps (defScope st))(hp:ps.length=n)(hN:N.length=ns)(hm:C.mg x=some (.ref ad))(hb:Binds C.K fd ps [])
  (body:DSs C true j N (defScope st) (defBody st) d):Cal C x n (j+1) (runFn n ns d):=⟨ad,fd,ps,hp,fn_okF F S hp hN hm hb body,F.kp,hb,hm⟩
theorem cal_bad{x:Str}{ad:Addr}{fd:FuncData}{ps:List Str}{n j:Nat}(F:Fun C.K x x st ad fd)(S:FnScope N ps (defScope st))(hp:ps.length=n)(hm:C.mg x=some (.ref ad))(hb:Binds C.K fd ps []):Cal C x n j (fun _=>.bad) :=
 ⟨ad,fd,ps,hp,⟨fun vs H Q E h=>by obtain ⟨_,_,_,_,_,_,h⟩:=h; exact h.elim,fun A outer s H args us vs Q E _ _ _ _ h=>by obtain ⟨_,_,_,_,_,_,h⟩:=h; exact h.elim⟩,F.kp,hb,hm⟩
end
end Vl
end
section
set_option Elab.async false
set_option linter.all false
set_option maxRecDepth 100000
set_option maxHeartbeats 1000000
namespace Vl
open PySem L2 Vm PyProof.Rows
def spLaw(K:PySem.W.Frag):Sp:=fun vs H Q _=>∃ (a:Addr) (ns:List Int),vs=[.ref a]∧SqL K H a (ns.map V.int)∧ns.length≤63∧(∀ z∈ns,Builtin.Int.intBits z≤1048576)∧Only H∧∀ H',Q (.bl true) H'
theorem repL_ints{K:KK}{F:Hp}:∀ ns:List Int,RepL K F (ns.map PV.int) (ns.map V.int)
 | []=>RepL.nil
 | n :: ns=>RepL.cons rep_int (repL_ints ns)
theorem law_end {C:Cn} {k:Nat} {ad:Addr} {fd:FuncData} {f:FN} (h:FnOk C.P C.w C.K C.mg C.base (L2.CX C.P C.w) k ad fd ["script"] (spOf C 1 f))
  (s2:∀ ns:List Int,ns.length≤63→(∀ z∈ns,z.natAbs.log2≤1048576)→f [.lst (ns.map .int)] = .ok (.fz,.bl true)):FnOk C.P C.w C.K C.mg C.base (L2.CX C.P C.w) k ad fd ["script"] (spLaw C.K) :=
 h.imp fun vs H Q E q=>by
  obtain ⟨a,ns,rfl,hS,hl,hb,ho,hq⟩:=q
  refine ⟨H,[.lst (ns.map .int)],rfl,Same.refl _,fun _ _ z=>z,RepL.cons ?_ RepL.nil,?_⟩
  ·unfold Rep
   exact ⟨a,_,rfl,hS,repL_ints ns⟩
  ·rw [s2 ns hl fun z hz=>?_]
   ·intro v F' H' _ r
    have r:=r.ofFz
    unfold Rep at r
    subst r
    exact hq H'
   ·have:=hb z hz
    unfold Builtin.Int.intBits at this
    split at this
    ·rename_i e
     have:z=0:=by simpa using e
     subst this
     decide
    ·omega
theorem cx_no{P:Program}{w:World}{H:Hp}{s:Shared}{e:Value}{s':Shared}(h:L2.CX P w [] H s (fun _ _ _=>False) e s'):False:=by
 obtain ⟨_,_,_,_,_,_,_,_,_,_,_,_,h⟩:=h
 exact h
end Vl
end
section
set_option Elab.async false
set_option linter.all false
set_option maxRecDepth 100000
set_option maxHeartbeats 1000000
namespace Vl
open PySem PySem.Spec L2 Vm PyProof.Rows
inductive Src where | l (a:Addr) | t (a:Addr) | s (x:Str) (k:Tok)
def Src.it(h:Heap)(it:Addr)(i:Nat):Src→Prop
 | .l a=>h.IsListIter it a i
 | .t a=>h.IsTupleIter it a i
 | .s x k=>h.IsStrIter it (strIterType x) x k i
def Src.has(K:PySem.W.Frag)(H:Hp)(vs:List V):Src→Prop
 | .l a=>SqL K H a vs
 | .t a=>SqT K H a vs
 | .s x _=>vs=x.cps.toList.map fun c=>V.str ⟨#[c]⟩
def Src.val:Src→Value
 | .l a=>.ref a
 | .t a=>.ref a
 | .s x k=>.str x k
def Src.ob:Src→Obj
 | .l a=>{ cls:=.type "list_iterator",data:=.fields #[.ref a,.int 0 0] }
 | .t a=>{ cls:=.type "tuple_iterator",data:=.fields #[.ref a,.int 0 0] }
 | .s x k=>{ cls:=.type (strIterType x),data:=.fields #[.str x k,.int 0 0] }
theorem src_at{S:Src}{h h':Heap}{it:Addr}{i:Nat}(q:S.it h it i)(k:∀ o,h.get? it=some o→h'.get? it=some o):S.it h' it i:=by
 cases S with
 | l a=>exact Heap.IsListIter.at q k
 | t a=>exact Heap.IsTupleIter.at q k
 | s x t=>obtain ⟨o,e,c,d⟩:=q; exact ⟨o,k o e,c,d⟩
theorem src_cell{S:Src}{h:Heap}{it:Addr}{i:Nat}(q:S.it h it i):∃ o,h.get? it=some o∧∀ v,o.data ≠ .cell v:=by
 cases S with
 | l a=>obtain ⟨o,e,_,d⟩:=q; exact ⟨o,e,fun v z=>by rw [d] at z; cases z⟩
 | t a=>obtain ⟨o,e,_,d⟩:=q; exact ⟨o,e,fun v z=>by rw [d] at z; cases z⟩
 | s x t=>obtain ⟨o,e,_,d⟩:=q; exact ⟨o,e,fun v z=>by rw [d] at z; cases z⟩
theorem src_new{S:Src}{h:Heap}{it:Addr}(q:h.get? it=some S.ob):S.it h it 0:=by
 cases S with
 | l a=>exact ⟨_,q,rfl,rfl⟩
 | t a=>exact ⟨_,q,rfl,rfl⟩
 | s x t=>exact ⟨_,q,rfl,rfl⟩
theorem src_begins{X:Cx}{pins:List (Addr×Obj)}{σ:L2.St}{H:Hp}{s:Shared}{S:Src}{vs:List V}(I:Inv X pins σ H s)(q:S.has X.K H vs):∃ G,Begins S.val S.ob G∧G s.heap:=by
 cases S with
 | l a =>
  obtain ⟨its,_,p,_⟩:=I.list q
  exact ⟨_,begins_list a its.toArray,p.isList⟩
 | t a =>
  obtain ⟨its,_,p,_⟩:=I.tuple q
  exact ⟨_,begins_tuple a its.toArray,p⟩
 | s x t=>exact ⟨_,begins_text x t,trivial⟩
def Src.off(b:Addr):Src→Prop
 | .l a=>a ≠ b
 | .t a=>a ≠ b
 | .s _ _=>True
theorem vals_back{vs:List V}{us:List Value}{j:Nat}{u:Value}(r:Vals vs us)(h:us[j]? = some u):∃ y,vs[j]? = some y∧RelV y u:=by
 have hl:=r.length
 obtain ⟨a,b⟩:=List.getElem?_eq_some_iff.mp h
 obtain ⟨u',h1,h2⟩:=r.get (List.getElem?_eq_getElem (show j < vs.length by omega))
 rw [h] at h1
 cases h1
 exact ⟨_,List.getElem?_eq_getElem _,h2⟩
theorem src_draws{X:Cx}{pins:List (Addr×Obj)}{σ:L2.St}{H:Hp}{s:Shared}{S:Src}{vs:List V}{A:Around}{it:Addr}{i:Nat}(hh:A.handled=none)(I:Inv X pins σ H s)(q:S.has X.K H vs)(hn:S.off it)(hi:S.it s.heap it i) :
  ∃ (fp:List Addr) (P:Nat→Value→Prop) (St:Nat→Heap→Prop),Draws X.prog X.w A it fp vs.length P St∧it∈fp∧(∀ c,c ≠ it→S.off c→c ∉ fp)∧St i s.heap∧(∀ j h',St j h'→S.it h' it j)∧∀ j v,P j v→∃ y,vs[j]? = some y∧RelV y v:=by
 cases S with
 | l a =>
  obtain ⟨its,rv,p,hz⟩:=I.list q
  have hl:its.toArray.size=vs.length:=by rw [List.size_toArray]; exact rv.length.symm
  have D:=Draws.list (prog:=X.prog) (w:=X.w) hh it a hn its.toArray
  rw [hl] at D
  refine ⟨_,_,_,D,by simp,fun c h1 h2 h3=>?_,⟨hi,p.isList⟩,fun j h' st=>st.1,fun j v hv=>vals_back rv (by simpa using hv)⟩
  rcases List.mem_cons.mp h3 with e | h3
  ·exact h1 e
  ·rw [List.mem_singleton] at h3
   exact h2 h3.symm
 | t a =>
  obtain ⟨its,rv,p,hz⟩:=I.tuple q
  have hl:its.toArray.size=vs.length:=by rw [List.size_toArray]; exact rv.length.symm
  have D:=Draws.tuple (prog:=X.prog) (w:=X.w) hh it a hn its.toArray
  rw [hl] at D
  refine ⟨_,_,_,D,by simp,fun c h1 h2 h3=>?_,⟨hi,p⟩,fun j h' st=>st.1,fun j v hv=>vals_back rv (by simpa using hv)⟩
  rcases List.mem_cons.mp h3 with e | h3
  ·exact h1 e
  ·rw [List.mem_singleton] at h3
   exact h2 h3.symm
 | s x t =>
  have hl:x.cps.size=vs.length:=by rw [show vs=_ from q,List.length_map,Array.length_toList]
  have D:=Draws.text (prog:=X.prog) (w:=X.w) hh it x t
  rw [hl] at D
  refine ⟨_,_,_,D,by simp,fun c h1 h2 h3=>?_,hi,fun j h' st=>st,fun j v hv=>?_⟩
  ·rw [List.mem_singleton] at h3
   exact h1 h3
  ·obtain ⟨c,u,h1,rfl⟩:=hv
   exact ⟨V.str ⟨#[c]⟩,by rw [show vs=_ from q]; simp [h1],_,rfl⟩
theorem src_inj{X:Cx}{pins:List (Addr×Obj)}{σ:L2.St}{H:Hp}{s:Shared}{S:Src}{vs us:List V}(I:Inv X pins σ H s)(q:S.has X.K H vs)(r:S.has X.K H us):vs=us:=by
 cases S with
 | l a=>exact I.list_inj q r
 | t a=>exact I.tuple_inj q r
 | s x t=>exact Eq.trans q (Eq.symm r)
theorem src_off{X:Cx}{pins:List (Addr×Obj)}{σ:L2.St}{H:Hp}{s:Shared}{S:Src}{vs:List V}(I:Inv X pins σ H s)(q:S.has X.K H vs){b:Addr}(hb:s.heap.objs.size≤b):S.off b:=by
 cases S with
 | l a =>
  obtain ⟨its,_,p,_⟩:=I.list q
  exact Nat.ne_of_lt (Nat.lt_of_lt_of_le p.lt hb)
 | t a =>
  obtain ⟨its,_,p,_⟩:=I.tuple q
  obtain ⟨o,ho,_⟩:=p
  exact Nat.ne_of_lt (Nat.lt_of_lt_of_le (Heap.lt_size ho) hb)
 | s x t=>trivial
def ItzS(K:PySem.W.Frag)(S U:Src):It :=
 ⟨fun i H=>∃ xs ys:List V,S.has K H xs∧U.has K H ys∧i < xs.length∧i < ys.length,
  fun i H v H'=>∃ T x y,v = .ref T∧H T=none∧(∃ o:Obj,o.dict=none∧H'=upd H T (.frz o (.tup [x,y])))∧(∀ xs,S.has K H xs→xs[i]? = some x)∧∀ ys,U.has K H ys→ys[i]? = some y,
  fun i H=>∃ xs ys:List V,S.has K H xs∧U.has K H ys∧i=min xs.length ys.length⟩
structure ZOff (z TI TO i1 i2:Addr) (S U:Src):Prop where
 nd:[z,TI,TO,i1,i2].Nodup
 o1:∀ b∈[z,TI,TO,i1,i2],S.off b
 o2:∀ b∈[z,TI,TO,i1,i2],U.off b
theorem ZOff.sep{z TI TO i1 i2:Addr}{S U:Src}(D:ZOff z TI TO i1 i2 S U){fp1 fp2:List Addr}(m1:i1∈fp1)(m2:i2∈fp2)(n1:∀ c,c ≠ i1→S.off c→c ∉ fp1)(n2:∀ c,c ≠ i2→U.off c→c ∉ fp2):ZipSep2 z TI TO i1 i2 fp1 fp2:=by
 have nd:=D.nd
 simp only [List.nodup_cons,List.mem_cons,List.not_mem_nil,not_or,or_false,not_false_eq_true,List.nodup_nil,and_true] at nd
 obtain ⟨⟨a1,a2,a3,a4⟩,⟨b1,b2,b3⟩,⟨c1,c2⟩,d1⟩:=nd
 exact ⟨Ne.symm a1,Ne.symm a2,b1,b2,m1,n1 z a3 (D.o1 z (by simp)),n1 TO c1 (D.o1 TO (by simp)),b3,m2,n2 z a4 (D.o2 z (by simp)),n2 TO c2 (D.o2 TO (by simp)),n2 i1 d1 (D.o2 i1 (by simp)),n1 i2 (Ne.symm d1) (D.o1 i2 (by simp))⟩
theorem turn_zipS{P:Program}{w:World}{K:PySem.W.Frag}{elts:List Expr}{kk:Nat}{tpos:Pos}{S U:Src}{z TI TO i1 i2:Addr}(D:ZOff z TI TO i1 i2 S U) :
  Turn P w K (.Tuple elts kk tpos) (ItzS K S U) [z,TI,TO,i1,i2] z (fun i h=>IsZip h z TI TO .none∧IsTupOf2 h TI (.ref i1) (.ref i2)∧(∃ x y,IsTupOf2 h TO x y)∧S.it h i1 i∧U.it h i2 i) where
 mem:=by simp
 obj:=fun i h st c hc=>by
  obtain ⟨hz,hTI,⟨x,y,hTO⟩,q1,q2⟩:=st
  simp only [List.mem_cons,List.not_mem_nil,or_false] at hc
  rcases hc with q | q | q | q | q
  ·rw [q]; exact ⟨_,hz,fun v q=>nomatch q⟩
  ·rw [q]; exact ⟨_,hTI,fun v q=>nomatch q⟩
  ·rw [q]; exact ⟨_,hTO,fun v q=>nomatch q⟩
  ·rw [q]; exact src_cell q1
  ·rw [q]; exact src_cell q2
 keep:=fun i h h' st k=>by
  obtain ⟨hz,hTI,⟨x,y,hTO⟩,h1,h2⟩:=st
  exact ⟨k z (by simp) _ hz,k TI (by simp) _ hTI,⟨x,y,k TO (by simp) _ hTO⟩,src_at h1 fun o q=>k i1 (by simp) o q,src_at h2 fun o q=>k i2 (by simp) o q⟩
 item:=by
  intro X hP hw hK hc i pins s σ H E I hf st hg
  subst hP hw hK
  obtain ⟨hz,hTI,⟨x0,y0,hTO⟩,q1,q2⟩:=st
  obtain ⟨xs,ys,hqx,hqy,lx,ly⟩:=hg
  have hh:X.A.in1.handled=none:=I.ok.hd hc
  obtain ⟨fp1,P1,St1,D1,m1,n1,s1,b1,p1⟩:=src_draws hh I hqx (D.o1 i1 (by simp)) q1
  obtain ⟨fp2,P2,St2,D2,m2,n2,s2,b2,p2⟩:=src_draws hh I hqy (D.o2 i2 (by simp)) q2
  have sep:=D.sep m1 m2 n1 n2
  have hzl:z < s.heap.objs.size:=Heap.lt_size hz
  have hlt:∀ c∈[z,TI,TO,i1,i2],c < s.heap.objs.size:=fun c hc=>by
   simp only [List.mem_cons,List.not_mem_nil,or_false] at hc
   rcases hc with q | q | q | q | q
   ·rw [q]; exact hzl
   ·rw [q]; exact Heap.lt_size hTI
   ·rw [q]; exact Heap.lt_size hTO
   ·rw [q]; obtain ⟨_,e,_⟩:=src_cell q1; exact Heap.lt_size e
   ·rw [q]; obtain ⟨_,e,_⟩:=src_cell q2; exact Heap.lt_size e
  refine wpAny_pyNext_zipD2_item sep D1 D2 hz hTI hTO s1 s2 lx ly fun x y h' tk px py z' TO' t1 t2 hT hsz hk=>?_
  obtain ⟨u,hu,ru⟩:=p1 _ _ px
  obtain ⟨v,hv,rv⟩:=p2 _ _ py
  refine ⟨_,rfl,wpAny_letOwnedTupleGo_zip (s:={ s with heap:=h',toks:=tk }) z' fun h'' z'' sb=>?_⟩
  have hT2:h''.get? s.heap.objs.size=some { cls:=.type "tuple",data:=.seq #[x,y] }:=(sb.2 _ (Nat.ne_of_gt hzl)).trans hT
  have new:ObjOk X.prog X.w (upd H s.heap.objs.size (.frz { cls:=.type "tuple",data:=.seq #[x,y] } (.tup [u,v]))) h'' s.heap.objs.size (.frz { cls:=.type "tuple",data:=.seq #[x,y] } (.tup [u,v])) :=
   okD (its:=[x,y]) (by show 2≤sizeLine; decide) (Paired.cons ru (Paired.cons rv Paired.nil)) hT2
  have I1:Inv X pins σ (upd H s.heap.objs.size (.frz { cls:=.type "tuple",data:=.seq #[x,y] } (.tup [u,v]))) { s with heap:=h'',toks:=tk } :=
   I.turnedNew (ch:=[z,TI,TO,i1,i2]) (fun c o hb q=>by
    have c1:c ≠ z:=fun q'=>hb (by simp [q'])
    have c2:c ≠ TO:=fun q'=>hb (by simp [q'])
    have c3:c ≠ i1:=fun q'=>hb (by simp [q'])
    have c4:c ≠ i2:=fun q'=>hb (by simp [q'])
    exact (sb.2 c c1).trans (hk c o c1 c2 c3 c4 q)) hf (Nat.le_refl _) new
  refine ⟨.ref s.heap.objs.size,_,I1,rfl,⟨_,u,v,rfl,I.hok.fresh (Nat.le_refl _),⟨_,rfl,rfl⟩,fun l hl=>by rw [src_inj I hl hqx]; exact hu,fun l hl=>by rw [src_inj I hl hqy]; exact hv⟩,⟨z'',?_,⟨x,y,?_⟩,?_,?_⟩,fun c hcm=>?_⟩
  ·exact (sb.2 _ sep.TIz).trans (hk _ _ sep.TIz sep.TITO sep.TIi1 sep.TIi2 hTI)
  ·exact (sb.2 _ sep.TOz).trans TO'
  ·exact src_at (b1 _ _ t1) fun o q=>(sb.2 _ (Ne.symm sep.zi1)).trans q
  ·exact src_at (b2 _ _ t2) fun o q=>(sb.2 _ (Ne.symm sep.zi2)).trans q
  ·rw [upd_ne (Nat.ne_of_lt (hlt c hcm))]
   exact (hf c hcm).1
 done:=by
  intro X hP hw hK hc i pins s σ H E I hf st hg
  subst hP hw hK
  obtain ⟨hz,hTI,⟨x0,y0,hTO⟩,q1,q2⟩:=st
  obtain ⟨xs,ys,hqx,hqy,hend⟩:=hg
  have hh:X.A.in1.handled=none:=I.ok.hd hc
  obtain ⟨fp1,P1,St1,D1,m1,n1,s1,b1,p1⟩:=src_draws hh I hqx (D.o1 i1 (by simp)) q1
  obtain ⟨fp2,P2,St2,D2,m2,n2,s2,b2,p2⟩:=src_draws hh I hqy (D.o2 i2 (by simp)) q2
  exact wpAny_pyNext_zipD2_end (D.sep m1 m2 n1 n2) D1 D2 hz hTI hTO s1 s2 (by omega) (by omega) (by omega) fun h' tk hk=>⟨rfl,I.turnedL (t':=tk) (ch:=[z,TI,TO,i1,i2]) (fun c o hb q =>
   hk c o (fun q'=>hb (by simp [q'])) (fun q'=>hb (by simp [q'])) (fun q'=>hb (by simp [q'])) (fun q'=>hb (by simp [q'])) q) hf⟩
 self:=fun A i s Q E st h=>wpAny_pyIter_zip st.1 h
def SrcOf(K:PySem.W.Frag)(H:Hp)(v:V)(R:Src→Prop):Prop :=
 (∃ x,v = .str x∧∀ k,R (.s x k)) ∨ ∃ a,v = .ref a∧((∃ vs,SqL K H a vs)∧R (.l a) ∨ (∃ vs,SqT K H a vs)∧R (.t a))
theorem SrcOf.use{K:PySem.W.Frag}{H:Hp}{v:V}{R:Src→Prop}{u:Value}(h:SrcOf K H v R)(r:RelV v u):∃ S vs,u=S.val∧S.has K H vs∧R S:=by
 rcases h with ⟨x,rfl,q⟩ | ⟨a,rfl,⟨⟨vs,hv⟩,q⟩ | ⟨⟨vs,hv⟩,q⟩⟩
 ·obtain ⟨k,rfl⟩:=r
  exact ⟨.s x k,_,rfl,rfl,q k⟩
 ·cases r
  exact ⟨.l a,vs,rfl,hv,q⟩
 ·cases r
  exact ⟨.t a,vs,rfl,hv,q⟩
def iZipS(K:PySem.W.Frag)(ta:TA):TI:=fun σ H R=>ta σ H fun ws H1=>∃ v v',ws=[v,v']∧SrcOf K H1 v fun S=>SrcOf K H1 v' fun U=>R (ItzS K S U) H1
theorem pi_zipS {X:Cx} {e e2:Expr} {ta:TA} {p pos tpos:Pos} {elts:List Expr} {kk:Nat} (hg:Gl X "zip") (hm:X.mg "zip" = none) (ha:PA X [e,e2] ta)
  (hs:starEach [e,e2] X.env=(false,eval e X.env) :: starEach [e2] X.env:=by rfl) (hpl:(backTo pos (starEach [e2] X.env)).any (·.1)=false:=by rfl) :
  PI X (.Tuple elts kk tpos) (.Call (.Name "zip" p) [e,e2] [] pos) (iZipS X.K ta):=by
 refine ⟨fun pins s σ H R I h=>?_⟩
 refine Call_ (ld_blt I hg hm PyProof.Rows.boot_zip (PyProof.Rows.callWith_type1 (thn (ha.run pos pins s σ H _ I h) fun us s1 ⟨ws,H1,I1,r1,q1⟩=>?_) hs hpl))
 obtain ⟨v,v',rfl,q1⟩:=q1
 cases r1 with
 | cons r rr =>
  cases rr with
  | cons r' rr =>
   cases rr
   obtain ⟨S,xs,rfl,hx,q1⟩:=q1.use r
   obtain ⟨U,ys,rfl,hy,q⟩:=q1.use r'
   obtain ⟨G,B,hG⟩:=src_begins I1 hx
   obtain ⟨G2,B2,hG2⟩:=src_begins I1 hy
   refine zip_begins2 B B2 hG hG2 fun h' hz hTI hTO h1 h2 hsz hk=>wpAny_pyIter_zip hz ?_
   have I2:Inv X pins σ H1 { s1 with heap:=h' }:=I1.kept (t':=s1.toks) hk
   have le:∀ b∈[s1.heap.objs.size+4,s1.heap.objs.size+2,s1.heap.objs.size+3,s1.heap.objs.size,s1.heap.objs.size+1],s1.heap.objs.size≤b:=fun b hb=>by
    simp only [List.mem_cons,List.not_mem_nil,or_false] at hb
    omega
   refine ⟨s1.heap.objs.size+4,_,_,_,H1,rfl,I2,turn_zipS ⟨?_,fun b hb=>src_off I1 hx (le b hb),fun b hb=>src_off I1 hy (le b hb)⟩,⟨hz,hTI,⟨_,_,hTO⟩,src_new h1,src_new h2⟩,fun b hb=>I1.fpOk (le b hb) (I1.hok.fresh (le b hb)),q⟩
   simp
end Vl
end
section
set_option Elab.async false
set_option linter.all false
set_option maxRecDepth 100000
set_option maxHeartbeats 1000000
namespace Vl
open PySem L2 Vm PyProof.Rows
def SeqOk(K:KK)(S:Src)(fl:Bool)(l:List PV)(F1 H1:Hp):Prop:=∀ F H,Same F1 F→Same F H→(fl=false→Same H1 H)→∃ vs,S.has K H vs∧RepL K F l vs
theorem SeqOk.weak{K:KK}{S:Src}{fl:Bool}{l:List PV}{F H F' H':Hp}(h:SeqOk K S fl l F H)(e:Ext F H F' H'):SeqOk K S fl l F' H':=fun Fx Hx a b c=>h Fx Hx (e.ff.trans a) b fun z=>e.hh.trans (c z)
theorem SeqOk.false{K:KK}{S:Src}{fl:Bool}{l:List PV}{F H:Hp}(h:SeqOk K S fl l F H):SeqOk K S false l F H:=fun Fx Hx a b c=>h Fx Hx a b fun _=>c rfl
theorem srcOf_mono{K:PySem.W.Frag}{H:Hp}{v:V}{R R':Src→Prop}(h:SrcOf K H v R)(q:∀ S,R S→R' S):SrcOf K H v R':=by
 rcases h with ⟨x,rfl,r⟩ | ⟨a,rfl,⟨hv,r⟩ | ⟨hv,r⟩⟩
 ·exact .inl ⟨x,rfl,fun k=>q _ (r k)⟩
 ·exact .inr ⟨a,rfl,.inl ⟨hv,q _ r⟩⟩
 ·exact .inr ⟨a,rfl,.inr ⟨hv,q _ r⟩⟩
theorem repL_str{K:KK}{F:Hp}:∀ {l:List Nat},l.all (fun c=>decide (c < 1114112))=true→RepL K F (l.map fun c=>.str [c]) (l.map fun c=>V.str ⟨#[c]⟩)
 | [],_=>RepL.nil
 | c :: l,h=>by
  rw [List.all_cons,Bool.and_eq_true] at h
  refine RepL.cons (rep_str (l:=[c]) ?_) (repL_str h.2)
  show (decide (1≤16777216) && (decide (c < 1114112) && true))=true
  rw [h.1]
  rfl
theorem seq_src{K:KK}{F0 H0 F H:Hp}{x:TV}{v:V}{fl:Bool}{l:List PV}(e:Ext F0 H0 F H)(h:RV K F H H0 x v)(hs:seqV x = .ok (fl,l)):∃ F',Ext F0 H0 F' H∧Same F F'∧SrcOf K H v fun S=>SeqOk K S fl l F' H:=by
 obtain ⟨t,p⟩:=x
 have frozen:∀ {F':Hp},Same F' H→Rep K F' (.lst l) v→SrcOf K H v fun S=>SeqOk K S true l F' H:=fun hf r=>by
  unfold Rep at r
  obtain ⟨a,vs,rfl,s,r⟩:=r
  exact .inr ⟨a,rfl,.inl ⟨⟨vs,hf.seq s⟩,fun Fx Hx q1 q2 _=>⟨vs,(q1.trans q2).seq s,r.mono q1 _ _⟩⟩⟩
 have seen:∀ {t:Tg},flat1 t=true→RV K F H H0 (t,.lst l) v→SrcOf K H v fun S=>SeqOk K S false l F H:=fun f1 h=>by
  obtain ⟨a,vs,rfl,s,r⟩:=rv_flat e.fh h f1
  exact .inr ⟨a,rfl,.inl ⟨⟨vs,s⟩,fun Fx Hx q1 q2 q3=>⟨vs,(q3 rfl).seq s,r.mono q1 _ _⟩⟩⟩
 cases p with
 | lst m =>
  cases t with
  | fz=>cases hs; exact ⟨F,e,Same.refl _,frozen e.fh h.ofFz⟩
  | bw d =>
   match d,hs with
   | 0,hs=>cases hs; exact ⟨F,e,Same.refl _,seen rfl h⟩
   | 1,hs=>cases hs; exact ⟨F,e,Same.refl _,seen rfl h⟩
  | ow d =>
   cases hs
   obtain ⟨fp,h⟩:=h
   obtain ⟨F',e',sm,r,_⟩:=h.put e rfl
   exact ⟨F',e',sm,frozen e'.fh r⟩
 | tup m =>
  cases hs
  obtain ⟨a,vs,rfl,s,r⟩:=rv_tup h
  exact ⟨F,e,Same.refl _,.inr ⟨a,rfl,.inr ⟨⟨vs,(TupAt.sq (TupAt.mono e.fh s))⟩,fun Fx Hx q1 q2 _=>⟨vs,((s.mono q1).mono q2).sq,r.mono q1 _ _⟩⟩⟩⟩
 | str m =>
  cases hs
  have r:=h.rep e.fh
  unfold Rep at r
  obtain ⟨rfl,hg⟩:=r
  unfold strG at hg
  rw [Bool.and_eq_true] at hg
  exact ⟨F,e,Same.refl _,.inl ⟨_,rfl,fun k Fx Hx q1 q2 _=>⟨_,rfl,by simpa using repL_str hg.2⟩⟩⟩
 | _=>cases hs
theorem new_tup{K:KK}{F H:Hp}{T:Addr}{ps:List PV}{vs:List V}{o:Obj}(hd:o.dict=none)(hf:Same F H)(ht:Tups F H)(r:RepL K F ps vs)(hT:H T=none):∃ F',Ext F H F' (upd H T (tq (o,vs)))∧∀ Hs,RV K F' (upd H T (tq (o,vs))) Hs (.fz,.tup ps) (.ref T):=by
 have e:=Ext.tup hf ht (o:=o) (vs:=vs) hT
 refine ⟨_,e,fun Hs=>.fz ?_⟩
 unfold Rep
 exact ⟨T,vs,rfl,.new hd,r.mono e.ff _ _⟩
theorem fz_all(l:List PV):∀ x∈l.map (fun p=>((.fz,p):TV)),∃ p,x=(.fz,p):=fun x hx=>by
 obtain ⟨p,_,rfl⟩:=List.mem_map.mp hx
 exact ⟨p,rfl⟩
theorem zipL_get{l m:List PV}{i:Nat}{p q:PV}(h:l[i]? = some p)(g:m[i]? = some q):(zipL l m)[i]? = some (.tup [p,q]):=by
 unfold zipL
 rw [List.getElem?_zipWith,h,g]
theorem zipL_len(l m:List PV):(zipL l m).length=min l.length m.length:=by unfold zipL; rw [List.length_zipWith]
theorem itok_zip{K:KK}{F H:Hp}{S U:Src}{fl gl:Bool}{l m:List PV}(h:SeqOk K S fl l F H)(g:SeqOk K U gl m F H):ItOk K (ItzS K S U) (fl && gl) ((zipL l m).map fun p=>(.fz,p)) F H:=by
 refine ⟨fun _=>fz_all _,fun i F1 H1 hf e1 t1 hh=>?_⟩
 obtain ⟨vs,hv,r⟩:=h F1 H1 hf e1 fun z=>hh (by rw [z]; rfl)
 obtain ⟨us,hu,r2⟩:=g F1 H1 hf e1 fun z=>hh (by rw [z,Bool.and_false])
 have hl:=r.len
 have hl2:=r2.len
 rw [List.length_map,zipL_len]
 refine ⟨fun hi=>⟨vs,us,hv,hu,by omega,by omega⟩,fun hi=>⟨vs,us,hv,hu,by omega⟩,fun x H' hlt y=>?_⟩
 obtain ⟨T,a,b,rfl,hT,⟨ob,hd,rfl⟩,ha,hb⟩:=y
 obtain ⟨p,hp,rp⟩:=r.getV (ha vs hv)
 obtain ⟨q,hq,rq⟩:=r2.getV (hb us hu)
 obtain ⟨F',e',rv⟩  :=new_tup hd e1 t1 (RepL.cons rp (RepL.cons rq RepL.nil)) hT
 exact ⟨_,by rw [List.getElem?_map,zipL_get hp hq]; rfl,F',e',rv⟩
section
variable {C:Cn} {cm:Bool} {k:Nat} {N:List Str} {sc so:Scope} {a b c e tg:Expr} {es:List Expr} {A B:EX} {As:EXs} {T U:TX} {pos p tpos:Pos} {X:Cx} {x:Str} {elts:List Expr} {kk:Nat}
theorem di_zip (ha:DE C cm k N sc a A) (hb:DE C cm k N sc b B) (mx:C.mg "zip" = none) (hg:sc.names.lookup ("zip":Str)=some .globalImplicit:=by rfl)
  (hst:∀ env:PySem.Env,starEach [a,b] env=(false,eval a env) :: starEach [b] env:=by intro _; rfl) (hst2:∀ env:PySem.Env,starEach [b] env=[(false,eval b env)]:=by intro _; rfl)
  (hpl:∀ env:PySem.Env,(backTo pos (starEach [b] env)).any (·.1)=false:=by intro _; rfl):DI C cm k N sc (.Tuple elts kk tpos) (.Call (.Name "zip" p) [a,b] [] pos) (jZip A B):=by
 obtain ⟨ta,pa,qa⟩:=ha
 obtain ⟨tb,pb,qb⟩:=hb
 refine ⟨fun W=>iZipS C.K (tCons (ta W) (tCons (tb W) tNil)),fun X S W T=>by rw [← S.K]; exact pi_zipS (S.gl hg) (by rw [S.mg]; exact mx) (pa_cons (pa X S W T) (pa_cons (pb X S W T) pa_nil (hst2 _)) (hst _)) (hst _) (hpl _),fun W σ Γ F0 H0 F H R g h=>?_⟩
 unfold jZip at h
 refine qa W σ Γ F0 H0 F H _ g (EOk.bindI h fun x v F1 H1 ex e1 r1 h1=>?_)
 have noexc:∀ {x:TV} {c:Nat},seqV x ≠ .exc c:=fun {x c} hs=>by obtain ⟨t,q⟩:=x; revert hs; cases q <;> first | (intro z; cases z; done) | (unfold seqV; rcases t with _ | (_ | _ | _) | _ <;> (intro z; cases z))
 refine qb W σ Γ F0 H0 F1 H1 _ (g.next e1) ?_
 cases eb:B Γ with
 | exc z=>rw [eb] at h1; exact fun F' H' e'=>h1 F' H' (e1.trans e')
 | bad=>rw [eb] at h1; exact h1.elim
 | ok y =>
  rw [eb,bind_ok] at h1
  intro u F2 H2 e2 r2
  refine ⟨v,u,rfl,?_⟩
  cases hs:seqV x with
  | ok l =>
   cases ht:seqV y with
   | ok m =>
    rw [hs,bind_ok,ht,bind_ok] at h1
    obtain ⟨F3,e3,sm,s2⟩:=seq_src e2 r2 ht
    obtain ⟨F4,e4,sm4,s1⟩:=seq_src (e1.trans e3) (r1.ext e3) hs
    exact srcOf_mono s1 fun S hS=>srcOf_mono s2 fun U hU=>h1 _ F4 H2 e4 (itok_zip hS fun Fx Hx q1 q2 q3=>hU Fx Hx (sm4.trans q1) q2 q3)
   | exc z=>exact (noexc ht).elim
   | bad=>rw [hs,bind_ok,ht] at h1; exact h1.elim
  | exc z=>exact (noexc hs).elim
  | bad=>rw [hs] at h1; exact h1.elim
end
end Vl
end
section
set_option Elab.async false
set_option linter.all false
set_option maxRecDepth 100000
set_option maxHeartbeats 1000000
namespace Vl
open PySem L2 Vm PyProof.Rows
section
open PySem.Builtin PySem.Builtin.Str PySem.StrLaws
end
end Vl
end
section
set_option Elab.async false
set_option linter.all false
set_option maxRecDepth 100000
set_option maxHeartbeats 1000000
namespace Vl
open PySem L2 Vm PyProof.Rows
theorem itok_rev{K:KK}{F H:Hp}{S:Src}{J:Nat→It}{fl:Bool}{l:List PV}(h:SeqOk K S fl l F H)
  (hJ:∀ n i H x H',(∀ vs:List V,S.has K H vs→i < n→n=vs.length→(J n).go i H)∧(n≤i→(J n).stop i H)∧((J n).yld i H x H'→H'=H∧∀ vs,S.has K H vs→vs[n - 1 - i]? = some x)):ItOk K (J l.length) fl (l.reverse.map fun p=>(.fz,p)) F H:=by
 refine ⟨fun _=>fz_all _,fun i F1 H1 hf e1 t1 hh=>?_⟩
 obtain ⟨vs,hv,r⟩:=h F1 H1 hf e1 hh
 have hl:=r.len
 rw [List.length_map,List.length_reverse]
 refine ⟨fun hi=>(hJ l.length i H1 .non H1).1 vs hv hi hl.symm,fun hi=>(hJ l.length i H1 .non H1).2.1 (Nat.le_of_eq hi.symm),fun x H' hlt y=>?_⟩
 obtain ⟨rfl,hx⟩:=(hJ l.length i H1 x H').2.2 y
 obtain ⟨p,hp,rp⟩:=r.getV (hx vs hv)
 refine ⟨(.fz,p),?_,F1,Ext.refl e1 t1,fun Hs=>.fz rp⟩
 rw [List.getElem?_map,List.getElem?_reverse hlt,hp]
 rfl
section
variable {C:Cn} {cm:Bool} {k:Nat} {N:List Str} {sc so:Scope} {a b c e tg:Expr} {es:List Expr} {A B:EX} {As:EXs} {T U:TX} {pos p tpos:Pos} {X:Cx} {x:Str} {elts:List Expr} {kk:Nat}
theorem seqV_noexc{x:TV}{c:Nat}:seqV x ≠ .exc c:=fun hs=>by obtain ⟨t,q⟩:=x; revert hs; cases q <;> first | (intro z; cases z; done) | (unfold seqV; rcases t with _ | (_ | _ | _) | _ <;> (intro z; cases z))
theorem di_rev (ha:DE C cm k N sc a A) (mx:C.mg "reversed" = none) (hg:sc.names.lookup ("reversed":Str)=some .globalImplicit:=by rfl)
  (hst:∀ env:PySem.Env,starEach [a] env=(false,eval a env) :: starEach [] env:=by intro _; rfl):DI C cm k N sc tg (.Call (.Name "reversed" p) [a] [] pos) (jRev A):=by
 obtain ⟨ta,pa,qa⟩:=ha
 refine ⟨fun W=>RT.iRevA C.K (ta W),fun X S W T=>by rw [← S.K]; exact RT.pi_revA (S.gl hg) (by rw [S.mg]; exact mx) (pa X S W T) (hst _),fun W σ Γ F0 H0 F H R g h=>?_⟩
 refine qa W σ Γ F0 H0 F H _ g (EOk.bindI h fun x v F1 H1 ex e1 r1 h1=>?_)
 cases hb:isStr x.2 with
 | true=>rw [hb] at h1; exact h1.elim
 | false =>
  rw [hb] at h1
  cases hs:seqV x with
  | ok y =>
   rw [hs] at h1
   obtain ⟨F2,e2,_,s⟩:=seq_src e1 r1 hs
   rcases s with ⟨z,rfl,_⟩ | ⟨ad,rfl,⟨⟨vs,hv⟩,q⟩ | ⟨⟨vs,hv⟩,q⟩⟩
   ·have r:=r1.rep e1.fh
    obtain ⟨t,q⟩:=x
    cases q <;> unfold Rep at r
    case str=>cases hb
    case non=>cases r
    case bl=>cases r
    case int=>cases r
    case tup=>obtain ⟨_,_,z,_⟩:=r; cases z
    case lst=>obtain ⟨_,_,z,_⟩:=r; cases z
    case dic=>obtain ⟨_,_,_,z,_⟩:=r; cases z
    case exo c l =>
     cases c with
     | zero=>obtain ⟨_,_,_,_,z,_⟩:=r; cases z
     | succ c =>
      cases c with
      | zero=>obtain ⟨_,_,_,z,_⟩:=r; cases z
      | succ c=>obtain ⟨_,_,z,_⟩:=r; cases z
   ·obtain ⟨us,hu,ru⟩:=q F2 H1 (Same.refl _) e2.fh fun _=>Same.refl _
    refine ⟨ad,us,rfl,.inl ⟨hu,h1 _ F2 H1 e2 ?_⟩⟩
    rw [ru.len]
    exact itok_rev (J:=Itv C.K ad) q fun n i H x H'=>⟨fun ws hw hi hn=>⟨hi,ws,ws[n - 1 - i]'(by omega),hw,List.getElem?_eq_getElem _⟩,fun h=>h,fun h=>h⟩
   ·obtain ⟨us,hu,ru⟩:=q F2 H1 (Same.refl _) e2.fh fun _=>Same.refl _
    refine ⟨ad,us,rfl,.inr ⟨hu,h1 _ F2 H1 e2 ?_⟩⟩
    rw [ru.len]
    exact itok_rev (J:=RT.ItvT C.K ad) q fun n i H x H'=>⟨fun ws hw hi hn=>⟨hi,ws,ws[n - 1 - i]'(by omega),hw,List.getElem?_eq_getElem _⟩,fun h=>h,fun h=>h⟩
  | exc z=>exact (seqV_noexc hs).elim
  | bad=>rw [hs] at h1; exact h1.elim
theorem itok_revR{K:KK}{F H:Hp}(n:Int):ItOk K (Itc (0+(((n - 0).toNat:Nat):Int) - 1) (-1) (n - 0).toNat) true ((rngL 0 n).reverse.map fun p=>(.fz,p)) F H:=by
 have hl:((rngL 0 n).reverse.map fun p=>((.fz,p):TV)).length=(n - 0).toNat:=by simp [rngL]
 refine ⟨fun _=>fz_all _,fun i F1 H1 _ e1 t1 _=>⟨fun h=>by rw [hl] at h; exact h,fun h=>by rw [hl] at h; rw [h]; exact Nat.le_refl _,fun x H' hlt y=>?_⟩⟩
 obtain ⟨rfl,rfl⟩:=y
 rw [hl] at hlt
 refine ⟨(.fz,.int (0+(((n - 0).toNat:Nat):Int) - 1+(i:Nat) * (-1))),?_,F1,Ext.refl e1 t1,fun Hs=>.fz rep_int⟩
 rw [List.getElem?_map,List.getElem?_reverse (by simpa [rngL] using hlt)]
 simp only [rngL,List.length_map,List.length_range,List.getElem?_map]
 rw [List.getElem?_range (by omega)]
 simp only [Option.map_some]
 congr 3
 omega
theorem di_revR {p2 pos2:Pos} (ha:DE C cm k N sc a A) (mx:C.mg "reversed" = none) (mx2:C.mg "range" = none) (hg:sc.names.lookup ("reversed":Str)=some .globalImplicit:=by rfl) (hg2:sc.names.lookup ("range":Str)=some .globalImplicit:=by rfl)
  (hst:∀ env:PySem.Env,starEach [.Call (.Name "range" p2) [a] [] pos2] env=(false,eval (.Call (.Name "range" p2) [a] [] pos2) env) :: starEach [] env:=by intro _; rfl) (hst2:∀ env:PySem.Env,starEach [a] env=(false,eval a env) :: starEach [] env:=by intro _; rfl) :
  DI C cm k N sc tg (.Call (.Name "reversed" p) [.Call (.Name "range" p2) [a] [] pos2] [] pos) (jRevR A):=by
 obtain ⟨ta,pa,qa⟩:=ha
 refine ⟨fun W=>iRevR (tRg1 (ta W)),fun X S W T=>pi_revR (S.gl hg) (by rw [S.mg]; exact mx) (prg_1 (S.gl hg2) (by rw [S.mg]; exact mx2) (pa X S W T) (hst2 _)) (hst _),fun W σ Γ F0 H0 F H R g h=>?_⟩
 refine qa W σ Γ F0 H0 F H _ g (EOk.bindI h fun x v F1 H1 ex e1 r1 h1=>?_)
 have r:=r1.rep e1.fh
 obtain ⟨t,q⟩:=x
 cases q with
 | int n =>
  unfold Rep at r
  subst r
  simp only at h1
  by_cases hn:rngOk n=true
  ·rw [if_pos hn] at h1
   have hn2:=rngOk_iff.mp hn
   exact ⟨n,rfl,by omega,by omega,hn2.1,hn2.2,h1 _ F1 H1 e1 (itok_revR n)⟩
  ·rw [if_neg hn] at h1; exact h1.elim
 | _=>exact h1.elim
theorem de_int1 (ha:DE C cm k N sc a A) (mx:C.mg "int" = none) (hg:sc.names.lookup ("int":Str)=some .globalImplicit:=by rfl)
  (hst:∀ env:PySem.Env,starEach [a] env=(false,eval a env) :: starEach [] env:=by intro _; rfl):DE C cm k N sc (.Call (.Name "int" p) [a] [] pos) (eInt A) :=
 de_t1 (fun X S=>call_int1) (fun W σ x v F H Hs Q hf ht rv h=>by
  have r:=rv.rep hf
  obtain ⟨t,q⟩:=x
  have fin:Ext F H F H:=Ext.refl hf ht
  cases q with
  | int i=>unfold Rep at r; subst r; exact .inl ⟨i,rfl,h _ F H fin (.fz rep_int)⟩
  | bl b=>unfold Rep at r; subst r; exact .inr ⟨b,rfl,h _ F H fin (.fz rep_int)⟩
  | _=>exact h.elim) mx (by decide +kernel) (by decide) (by decide) ha hg hst
theorem de_b2 {bid:String} {f:PV→PV→Res PV} {r:List V→Hp→VK→Prop} (hc:∀ X,Sta C cm k N sc X→CallR X (.builtin bid) r)
  (hr:∀ p q v u H Q,Rep C.K H p v→Rep C.K H q u→match f p q with
   | .ok z=>((∀ F,Rep C.K F z (toV z))→Q (toV z) H)→r [v,u] H Q
   | .exc _=>False
   | .bad=>True) (mx:C.mg x=none) (hv:bootBuiltins x=some (.builtin bid)) (hn:x ≠ "__name__") (hdb:(x == ("__debug__":Str))=false)
  (ha:DE C cm k N sc a A) (hb:DE C cm k N sc b B) (hg:sc.names.lookup x=some .globalImplicit)
  (hst:∀ env:PySem.Env,starEach [a,b] env=(false,eval a env) :: starEach [b] env) (hst2:∀ env:PySem.Env,starEach [b] env=(false,eval b env) :: starEach [] env)
  (hpl:∀ env:PySem.Env,(backTo pos (starEach [b] env)).any (·.1)=false):DE C cm k N sc (.Call (.Name x p) [a,b] [] pos) (eOp2 f A B):=by
 obtain ⟨ta,pa,qa⟩:=ha
 obtain ⟨tb,pb,qb⟩:=hb
 refine ⟨fun W=>tCB r (tCons (ta W) (tCons (tb W) tNil)),fun X S W T=>pe_callB (hc X S) (S.gl hg) (by rw [S.mg]; exact mx) hv (pa_cons (pa X S W T) (pa_cons (pb X S W T) pa_nil (hst2 _)) (hst _)) hn hdb (hst _) (hpl _),fun W σ Γ F0 H0 F H Q g h=>?_⟩
 refine qa W σ Γ F0 H0 F H _ g (EOk.bind h fun x v F1 H1 ex e1 r1 h1=>?_)
 refine qb W σ Γ F0 H0 F1 H1 _ (g.next e1) (EOk.bind (h1.next e1) fun y u F2 H2 ey e2 r2 h2=>?_)
 have q:=hr x.2 y.2 v u H2 Q ((r1.ext e2).rep e2.fh) (r2.rep e2.fh)
 cases e:f x.2 y.2 with
 | ok z =>
  rw [e] at q h2
  exact q fun rz=>(h2.next e2).fzv (Ext.refl e2.fh e2.tp) z (toV z) rfl (rz _)
 | exc c=>rw [e] at q; exact q.elim
 | bad=>rw [e] at h2; exact h2.elim
theorem de_max2 (ha:DE C true k N sc a A) (hb:DE C true k N sc b B) (mx:C.mg "max" = none) (hg:sc.names.lookup ("max":Str)=some .globalImplicit:=by rfl)
  (hst:∀ env:PySem.Env,starEach [a,b] env=(false,eval a env) :: starEach [b] env:=by intro _; rfl) (hst2:∀ env:PySem.Env,starEach [b] env=(false,eval b env) :: starEach [] env:=by intro _; rfl)
  (hpl:∀ env:PySem.Env,(backTo pos (starEach [b] env)).any (·.1)=false:=by intro _; rfl):DE C true k N sc (.Call (.Name "max" p) [a,b] [] pos) (eOp2 opMax2 A B) :=
 de_b2 (fun X S=>call_max2 (S.c rfl)) (fun p q v u H Q rp rq=>by
  cases p <;> cases q <;> simp only [opMax2] <;> (try trivial)
  unfold Rep at rp rq
  subst rp rq
  exact fun h=>⟨_,_,rfl,h fun F=>rep_int⟩) mx (by decide +kernel) (by decide) (by decide) ha hb hg hst hst2 hpl
theorem de_min2 (ha:DE C true k N sc a A) (hb:DE C true k N sc b B) (mx:C.mg "min" = none) (hg:sc.names.lookup ("min":Str)=some .globalImplicit:=by rfl)
  (hst:∀ env:PySem.Env,starEach [a,b] env=(false,eval a env) :: starEach [b] env:=by intro _; rfl) (hst2:∀ env:PySem.Env,starEach [b] env=(false,eval b env) :: starEach [] env:=by intro _; rfl)
  (hpl:∀ env:PySem.Env,(backTo pos (starEach [b] env)).any (·.1)=false:=by intro _; rfl):DE C true k N sc (.Call (.Name "min" p) [a,b] [] pos) (eOp2 opMin2 A B) :=
 de_b2 (fun X S=>call_min2 (S.c rfl)) (fun p q v u H Q rp rq=>by
  cases p <;> cases q <;> simp only [opMin2] <;> (try trivial)
  unfold Rep at rp rq
  subst rp rq
  exact fun h=>⟨_,_,rfl,h fun F=>rep_int⟩) mx (by decide +kernel) (by decide) (by decide) ha hb hg hst hst2 hpl
end
end Vl
end
section
set_option Elab.async false
set_option linter.all false
set_option maxRecDepth 100000
set_option maxHeartbeats 1000000
namespace Vl
open PySem L2 Vm PyProof.Rows
section
variable {C:Cn} {cm:Bool} {k:Nat} {N:List Str} {sc so:Scope} {a b c e o tg:Expr} {es:List Expr} {A B:EX} {As:EXs} {T U:TX} {pos p tpos apos cpos:Pos} {X:Cx} {x:Str} {elts:List Expr} {kk:Nat}
end
end Vl
end
section
set_option Elab.async false
set_option linter.all false
set_option maxRecDepth 100000
set_option maxHeartbeats 1000000
namespace Vl
open PySem L2 Vm PyProof.Rows
section
open PySem.AutoSeq1
theorem ext_list(l b:Addr)(its us:Array Value)(n m:Nat)(dc:Option Addr)(sl:Array (Option Value))(h0:¬(!its.isEmpty && Builtin.List.listTooLong (its.size+us.size))=true)(h1:its.size≤sizeLine)(h2:its.size+us.size≤sizeLine+1) :
  Meets (Builtin.«list.extend» ⟨[.ref l,.ref b],[]⟩) (fun _ R s=>s.heap.get? l=some { cls:=.type "list",data:=.seq its n }∧s.heap.get? b=some { cls:=.type "list",dict:=dc,data:=.seq us m,slots:=sl } ∧
   R (.ok (.ret Value.none)) { s with heap:=s.heap.update l (Obj.mapSeq fun x=>x++us),toks:=s.toks }):=.of_wp fun prog w A R s h=>by
 obtain ⟨hp,g,d,tk,os⟩:=s
 obtain ⟨hl,hb,h⟩:=h
 have f1:=idx_int
 have f2:=AutoSeq1.sub_tuple_tuple
 have f3:=AutoSeq1.sub_list_list
 have f4:=AutoSeq1.sub_tuple_list
 have f5:=AutoSeq1.sub_list_tuple
 have hz:(its++us).size≤sizeLine+1:=by rw [Array.size_append]; exact h2
 wp_walk using (wpAny_updateSeq hl rfl (hz:=h1) (_hz':=hz)),wpAny_loadPart' hl,wpAny_loadPart' hb
 exact ⟨_,rfl,h⟩
theorem ext_tuple(l b:Addr)(its us:Array Value)(n m:Nat)(dc:Option Addr)(sl:Array (Option Value))(h0:¬(!its.isEmpty && Builtin.List.listTooLong (its.size+us.size))=true)(h1:its.size≤sizeLine)(h2:its.size+us.size≤sizeLine+1) :
  Meets (Builtin.«list.extend» ⟨[.ref l,.ref b],[]⟩) (fun _ R s=>s.heap.get? l=some { cls:=.type "list",data:=.seq its n }∧s.heap.get? b=some { cls:=.type "tuple",dict:=dc,data:=.seq us m,slots:=sl } ∧
   R (.ok (.ret Value.none)) { s with heap:=s.heap.update l (Obj.mapSeq fun x=>x++us),toks:=s.toks }):=.of_wp fun prog w A R s h=>by
 obtain ⟨hp,g,d,tk,os⟩:=s
 obtain ⟨hl,hb,h⟩:=h
 have f1:=idx_int
 have f2:=AutoSeq1.sub_tuple_tuple
 have f3:=AutoSeq1.sub_list_list
 have f4:=AutoSeq1.sub_tuple_list
 have f5:=AutoSeq1.sub_list_tuple
 have hz:(its++us).size≤sizeLine+1:=by rw [Array.size_append]; exact h2
 wp_walk using (wpAny_updateSeq hl rfl (hz:=h1) (_hz':=hz)),wpAny_loadPart' hl,wpAny_loadPart' hb
 exact ⟨_,rfl,h⟩
end
def rExtG(K:PySem.W.Frag):V→List V→Hp→VK→Prop:=fun x vs H Q=>∃ l b xs zs,x = .ref l∧vs=[.ref b]∧H l=some (.lst xs)∧(SqL K H b zs ∨ SqT K H b zs)∧xs.length+zs.length≤sizeLine∧Q .non (upd H l (.lst (xs++zs)))
theorem mt_extG{X:Cx}:MtM X "list.extend" (rExtG X.K):=by
 intro pins s σ H x vs v us Q I rx rv h
 obtain ⟨l,b,xs,zs,rfl,rfl,hH,hB,hz,q⟩:=h
 cases rx
 obtain ⟨u,rfl,ru⟩:=rv.one
 cases ru
 obtain ⟨z,its,n,r,hl,e⟩:=I.lstM hH
 have fit:∀ {its2:List Value},Vals zs its2→its.toArray.size+its2.toArray.size≤sizeLine∧¬ (!its.toArray.isEmpty && Builtin.List.listTooLong (its.toArray.size+its2.toArray.size))=true∧L2.Inv X pins σ (upd H l (.lst (xs++zs))) { s with heap:=s.heap.update l (Obj.mapSeq fun x=>x++its2.toArray),toks:=s.toks }:=fun {its2} r2=>by
  have hl2:=r2.length
  have hsz:its.toArray.size+its2.toArray.size≤sizeLine:=by rw [List.size_toArray,List.size_toArray]; omega
  refine ⟨hsz,?_,I.lset (its':=its++its2) (t':=s.toks) hH e (f:=fun x=>x++its2.toArray) (by simp) (r.append r2) (by rw [List.length_append]; omega)⟩
  rw [notLongL hsz,Bool.and_false]
  exact Bool.false_ne_true
 have hs1:its.toArray.size≤sizeLine:=by rw [List.size_toArray]; omega
 rcases hB with hB | hB
 ·obtain ⟨its2,r2,⟨⟨oc,od,ot,os⟩,n2,e2,c2,d2,t2⟩,_⟩:=I.list hB
  simp only at c2 t2
  subst c2 t2
  obtain ⟨a1,a2,a3⟩:=fit r2
  exact call_meets F.slot_list_extend ⟨_,e,rfl⟩ F.entry_list_extend (F.args_list_extend_2 _ _) (ext_list l b its.toArray its2.toArray n n2 _ _ a2 hs1 (by omega)) ⟨e,e2,.non,_,a3,rfl,q⟩
 ·obtain ⟨its2,r2,⟨⟨oc,od,ot,os⟩,e2,c2,n2,t2⟩,_⟩:=I.tuple hB
  simp only at c2 t2
  subst c2 t2
  obtain ⟨a1,a2,a3⟩:=fit r2
  exact call_meets F.slot_list_extend ⟨_,e,rfl⟩ F.entry_list_extend (F.args_list_extend_2 _ _) (ext_tuple l b its.toArray its2.toArray n n2 _ _ a2 hs1 (by omega)) ⟨e,e2,.non,_,a3,rfl,q⟩
section
variable {C:Cn} {cm:Bool} {k:Nat} {N:List Str} {sc so:Scope} {a b c e o tg:Expr} {es:List Expr} {A B:EX} {As:EXs} {T U:TX} {pos p tpos apos cpos p1:Pos} {X:Cx} {x:Str} {elts:List Expr} {kk:Nat}
theorem ds_ext (i:Nat) (he:DE C cm k N sc e A) (hN:N[i]? = some x:=by rfl) (hv:Vis sc x:=by first | exact Or.inl rfl | exact Or.inr (Or.inl rfl) | exact Or.inr (Or.inr rfl)) (hd:(x == ("__debug__":Str))=false:=by decide)
  (hcd:(x == ("__classdict__":Str))=false:=by decide) (hbase:∀ env:PySem.Env,attributeBase (.Name x p1) "extend" env (eval (.Name x p1) env)=eval (.Name x p1) env:=by intro _; rfl)
  (hfew:∀ env:PySem.Env,((backTo cpos (starEach [e] env)).all (fun x=>!x.1) && (backToKw cpos (keywordEach [] env)).all (fun x=>x.1.isSome)
   && decide (([e]).length+([]:List Keyword).length+(if ([]:List Keyword).isEmpty then 0 else 1) < 30))=true:=by intro _; rfl)
  (hline:(apos.endLine == cpos.line)=true:=by rfl) (hst:∀ env:PySem.Env,starEach [e] env=(false,eval e env) :: starEach [] env:=by intro _; rfl) (hs:∀ env:PySem.Env,swapsWith (.Call (.Attribute (.Name x p1) "extend" apos) [e] [] cpos) none pos.line env=pure false:=by intro _; rfl) :
  DS C cm k N sc (.Expr (.Call (.Attribute (.Name x p1) "extend" apos) [e] [] cpos) pos) (dExt i A):=by
 obtain ⟨ta,pa,qa⟩:=he
 refine ⟨fun W=>tDrop (tBM C.K "list" (rExtG C.K) (tVar i) (tCons (ta W) tNil)),fun X S W T=>by rw [← S.K]; exact ps_expr (pe_bm PySem.F.plainAttrs_list PySem.F.slot_list_extend PySem.F.type_list_extend mt_extG (pe_var (by rw [S.n]; exact hN) (by rw [S.s]; exact hv) hd hcd) (pa_cons (pa X S.toSta W T) pa_nil (hst _)) (hbase _) (hfew _) hline (hst _) rfl) (hs _),fun W D σ Γ F0 H0 F H g h=>?_⟩
 unfold dExt at h
 split at h
 ·rename_i l eg
  obtain ⟨ad,vs,hv',hH,rl,f1,f2,go⟩:=good_mod g eg
  refine ⟨.ref ad,hv',.inl ⟨rfl,vs,SqL.of hH⟩,qa W σ Γ F0 H0 F H _ g.toGood (OutOk.bind g h fun y v F1 H1 ex e1 rv h=>?_)⟩
  obtain ⟨t,q⟩:=y
  cases q with
  | lst m =>
   simp only at h
   by_cases hz:(flat1 t && decide (l.length+m.length≤16777216))=true
   ·rw [if_pos hz] at h
    rw [Bool.and_eq_true,decide_eq_true_eq] at hz
    obtain ⟨ad2,us,rfl,s2,r2⟩:=rv_flat e1.fh rv hz.1
    obtain ⟨gg,hH2⟩:=go e1 ((rl.mono e1.ff _ _).append r2)
    exact ⟨ad,ad2,vs,us,rfl,rfl,hH2,.inl s2,by rw [rl.len,r2.len,← szL_eq]; exact hz.2,h σ _ _ gg⟩
   ·rw [if_neg hz] at h; exact h.elim
  | tup m =>
   simp only at h
   by_cases hz:l.length+m.length≤16777216
   ·rw [if_pos hz] at h
    obtain ⟨ad2,us,rfl,s2,r2⟩:=rv_tup rv
    obtain ⟨gg,hH2⟩:=go e1 ((rl.mono e1.ff _ _).append r2)
    exact ⟨ad,ad2,vs,us,rfl,rfl,hH2,.inr ((TupAt.sq (TupAt.mono e1.fh s2))),by rw [rl.len,r2.len,← szL_eq]; exact hz,h σ _ _ gg⟩
   ·rw [if_neg hz] at h; exact h.elim
  | _=>exact h.elim
 ·exact h.elim
theorem ds_setIx (i:Nat) {xpos:Pos} (hj:DE C true k N sc b B) (he:DE C true k N sc e A) (hN:N[i]? = some x:=by rfl) (hv:Vis sc x:=by first | exact Or.inl rfl | exact Or.inr (Or.inl rfl) | exact Or.inr (Or.inr rfl)) (hd:(x == ("__debug__":Str))=false:=by decide)
  (hcd:(x == ("__classdict__":Str))=false:=by decide) (hs:∀ env:PySem.Env,swapsWithSole [.Subscript (.Name x p1) b xpos] e pos.line env=pure false:=by intro _; rfl) (hw:∀ env:PySem.Env,swappedStores [.Subscript (.Name x p1) b xpos] e env=pure none:=by intro _; rfl)
  (h1:∀ env:PySem.Env,(assignEach [.Subscript (.Name x p1) b xpos] env).map (·.2)=[assign (.Subscript (.Name x p1) b xpos) env]:=by intro _; rfl)
  (ha:∀ (env:PySem.Env) v,assign (.Subscript (.Name x p1) b xpos) env v=(do
   let ov ← holding [v] (eval (.Name x p1) env)
   let iv ← holding [v,ov] (eval b env)
   standAt xpos
   holding [v,ov,iv] (setItem ov iv v)
   release [v,ov,iv] []):=by intro _ _; rfl):DS C true k N sc (.Assign [.Subscript (.Name x p1) b xpos] e pos) (dSetIx i B A):=by
 obtain ⟨ta,pa,qa⟩:=he
 obtain ⟨tb,pb,qb⟩:=hj
 refine ⟨fun W=>tAsg (ta W) (gSub (tVar i) (tb W) rSetL),fun X S W T=>ps_asg (pa X S.toSta W T) (pg_sub (pe_var (by rw [S.n]; exact hN) (by rw [S.s]; exact hv) hd hcd) (pb X S.toSta W T) set_list (ha _)) (hs _) (hw _) (h1 _),fun W D σ Γ F0 H0 F H g h=>?_⟩
 unfold dSetIx at h
 split at h
 ·rename_i l eg
  obtain ⟨ad,vs,hv',hH,rl,f1,f2,go⟩:=good_mod g eg
  refine qa W σ Γ F0 H0 F H _ g.toGood (OutOk.bind g h fun y v F1 H1 ex e1 rv h=>?_)
  refine ⟨.ref ad,hv',qb W σ Γ F0 H0 F1 H1 _ (g.next e1).toGood (OutOk.bind (g.next e1) h fun z u F2 H2 ez e2 r2 h=>?_)⟩
  cases hp:putV y with
  | exc c=>exact (put_noexc hp).elim
  | bad=>rw [hp] at h; exact h.elim
  | ok q =>
   rw [hp,after_ok] at h
   obtain ⟨t,z⟩:=z
   have rz:=r2.rep e2.fh
   cases z with
   | int j =>
    unfold Rep at rz
    subst rz
    simp only at h
    cases hn:vIxN l.length j with
    | none=>rw [hn] at h; exact h.elim
    | some n =>
     rw [hn] at h
     obtain ⟨F3,e3,r3⟩:=(rv.ext e2).put (e1.trans e2) hp
     obtain ⟨gg,hH2⟩:=go e3 ((rl.mono e3.ff _ _).set r3 n)
     exact ⟨ad,vs,j,n,rfl,rfl,hH2,by rw [rl.len]; exact hn,h σ _ _ gg⟩
   | _=>exact h.elim
 ·exact h.elim
end
end Vl
end
section
set_option Elab.async false
set_option linter.all false
set_option maxRecDepth 100000
set_option maxHeartbeats 1000000
namespace Vl
open PySem L2 Vm PyProof.Rows
section
variable {C:Cn} {cm:Bool} {k:Nat} {N:List Str} {sc so:Scope} {a b c e o tg:Expr} {es:List Expr} {A B:EX} {As:EXs} {T U:TX} {pos p tpos apos cpos p1:Pos} {X:Cx} {x:Str} {elts:List Expr} {kk:Nat}
end
end Vl
end
section
set_option Elab.async false
set_option linter.all false
set_option maxRecDepth 100000
set_option maxHeartbeats 1000000
namespace Vl
open PySem L2 Vm PyProof.Rows
theorem firstIx_spec{α:Type}{p:α→Bool}:∀ {l:List α} {k:Nat},firstIx p l=some k→(∃ x,l[k]? = some x∧p x=true)∧∀ m x,m < k→l[m]? = some x→p x=false
 | [],k,h=>by cases h
 | y :: l,k,h=>by
  unfold firstIx at h
  by_cases hp:p y=true
  ·rw [if_pos hp] at h
   cases h
   exact ⟨⟨y,rfl,hp⟩,fun m x hm=>by omega⟩
  ·rw [if_neg hp] at h
   cases hf:firstIx p l with
   | none=>rw [hf] at h; cases h
   | some j =>
    rw [hf] at h
    cases h
    obtain ⟨⟨x,hx,hpx⟩,h2⟩:=firstIx_spec hf
    refine ⟨⟨x,by simpa using hx,hpx⟩,fun m z hm hz=>?_⟩
    cases m with
    | zero =>
     have:y=z:=by simpa using hz
     subst this
     exact Bool.eq_false_iff.mpr hp
    | succ m=>exact h2 m z (Nat.lt_of_succ_lt_succ hm) (by simpa using hz)
section
variable {C:Cn} {cm:Bool} {k:Nat} {N:List Str} {sc so:Scope} {a b c e o tg:Expr} {es:List Expr} {A B:EX} {As:EXs} {T U:TX} {pos p tpos apos cpos p1:Pos} {X:Cx} {x:Str} {elts:List Expr} {kk:Nat}
end
end Vl
end
section
set_option Elab.async false
set_option linter.all false
set_option maxRecDepth 100000
set_option maxHeartbeats 1000000
namespace Vl
open PySem PySem.Calls PySem.W L2 Vm PyProof.Rows
theorem tkLt_is(x y:Tk):itemOrd.blt x y=tkLt x y:=by
 cases x <;> cases y <;> rfl
theorem lexT_is:∀ (a b:List Tk),PyProof.Rows.lexLt itemOrd a b=lexT a b
 | [],[]=>rfl
 | [],_ :: _=>rfl
 | _ :: _,[]=>rfl
 | x :: r,y :: t=>by
  rw [PyProof.Rows.lex_cons,lexT,lexT_is r t,tkLt_is,tkLt_is]
mutual
theorem toks_dat:∀ (n:Nat) (p:PV),shp n p=true→keyToks (dat p)=toks p
 | _,.non,_=>rfl
 | _,.bl b,_=>rfl
 | _,.int i,_=>rfl
 | _,.str l,_=>rfl
 | 0,.tup l,h=>by simp at h
 | 0,.lst l,h=>by simp at h
 | n+1,.tup l,h=>by rw [dat,keyToks,toks]; exact toks_datL n l (by simpa using h)
 | n+1,.lst l,h=>by rw [dat,keyToks,toks]; exact toks_datL n l (by simpa using h)
 | _,.dic _ _,h=>by simp at h
 | _,.exo _ _,h=>by simp at h
theorem toks_datL:∀ (n:Nat) (l:List PV),shpL n l=true→keyToksAll (datL l)=toksL l
 | _,[],_=>rfl
 | n,x :: xs,h=>by
  rw [shpL,Bool.and_eq_true] at h
  rw [datL,keyToksAll,toksL,toks_dat n x h.1,toks_datL n xs h.2]
end
theorem ltv_is{n m:Nat}{p q:PV}(h:shp n p=true)(g:shp m q=true):dataLt (dat p) (dat q)=ltv p q:=by
 unfold dataLt ltv
 rw [lexT_is,toks_dat n p h,toks_dat m q g]
mutual
theorem alk_dat:∀ (n m:Nat) (p q:PV),shp n p=true→shp m q=true→alike (dat p) (dat q)=alk p q
 | _,_,.non,q,_,h=>by cases q <;> first | rfl | (simp at h)
 | _,_,.bl _,q,_,h=>by cases q <;> first | rfl | (simp at h)
 | _,_,.int _,q,_,h=>by cases q <;> first | rfl | (simp at h)
 | _,_,.str _,q,_,h=>by cases q <;> first | rfl | (simp at h)
 | n,m,.tup l,q,s,h=>by
  cases n with
  | zero=>simp at s
  | succ n =>
   cases q with
   | tup k =>
    cases m with
    | zero=>simp at h
    | succ m=>rw [dat,dat,alike,alk]; exact alk_datL n m l k (by simpa using s) (by simpa using h)
   | dic _=>simp at h
   | exo _ _=>simp at h
   | _=>rfl
 | n,m,.lst l,q,s,h=>by
  cases n with
  | zero=>simp at s
  | succ n =>
   cases q with
   | lst k =>
    cases m with
    | zero=>simp at h
    | succ m=>rw [dat,dat,alike,alk]; exact alk_datL n m l k (by simpa using s) (by simpa using h)
   | dic _=>simp at h
   | exo _ _=>simp at h
   | _=>rfl
 | _,_,.dic _ _,_,s,_=>by simp at s
 | _,_,.exo _ _,_,s,_=>by simp at s
theorem alk_datL:∀ (n m:Nat) (p q:List PV),shpL n p=true→shpL m q=true→alikeAll (datL p) (datL q)=alkL p q
 | _,_,[],q,_,_=>by cases q <;> rfl
 | _,_,_ :: _,[],_,_=>rfl
 | n,m,x :: xs,y :: ys,s,h=>by
  rw [shpL,Bool.and_eq_true] at s h
  rw [datL,datL,alikeAll,alkL,alk_dat n m x y s.1 h.1,alk_datL n m xs ys s.2 h.2]
end
mutual
theorem dat_inj:∀ (n m:Nat) (p q:PV),shp n p=true→shp m q=true→dat p=dat q→p=q
 | _,_,.non,q,_,h,e=>by cases q <;> first | rfl | (cases e; done) | (simp at h)
 | _,_,.bl b,q,_,h,e=>by cases q <;> first | (cases e; rfl) | (cases e; done) | (simp at h)
 | _,_,.int b,q,_,h,e=>by cases q <;> first | (cases e; rfl) | (cases e; done) | (simp at h)
 | _,_,.str b,q,_,h,e=>by
  cases q with
  | str c =>
   have:(⟨b.toArray⟩:Str)=⟨c.toArray⟩:=by injection e
   injection this with e2
   have:=congrArg Array.toList e2
   simp at this
   rw [this]
  | dic _=>simp at h
  | exo _ _=>simp at h
  | _=>cases e
 | n,m,.tup l,q,s,h,e=>by
  cases n with
  | zero=>simp at s
  | succ n =>
   cases q with
   | tup k =>
    cases m with
    | zero=>simp at h
    | succ m=>rw [dat_injL n m l k (by simpa using s) (by simpa using h) (by injection e)]
   | dic _=>simp at h
   | exo _ _=>simp at h
   | _=>cases e
 | n,m,.lst l,q,s,h,e=>by
  cases n with
  | zero=>simp at s
  | succ n =>
   cases q with
   | lst k =>
    cases m with
    | zero=>simp at h
    | succ m=>rw [dat_injL n m l k (by simpa using s) (by simpa using h) (by injection e)]
   | dic _=>simp at h
   | exo _ _=>simp at h
   | _=>cases e
 | _,_,.dic _ _,_,s,_,_=>by simp at s
 | _,_,.exo _ _,_,s,_,_=>by simp at s
theorem dat_injL:∀ (n m:Nat) (p q:List PV),shpL n p=true→shpL m q=true→datL p=datL q→p=q
 | _,_,[],[],_,_,_=>rfl
 | _,_,[],_ :: _,_,_,e=>by cases e
 | _,_,_ :: _,[],_,_,e=>by cases e
 | n,m,x :: xs,y :: ys,s,h,e=>by
  rw [shpL,Bool.and_eq_true] at s h
  injection e with e1 e2
  rw [dat_inj n m x y s.1 h.1 e1,dat_injL n m xs ys s.2 h.2 e2]
end
theorem shpL_mem{n:Nat}:∀ {l:List PV} {p:PV},shpL n l=true→p∈l→shp n p=true
 | x :: xs,p,h,hp=>by
  rw [shpL,Bool.and_eq_true] at h
  rcases List.mem_cons.mp hp with e | hp
  ·rw [e]; exact h.1
  ·exact shpL_mem h.2 hp
theorem depth_mem{n:Nat}:∀ {l:List PyData},PyData.depthAll l≤n→∀ d∈l,d.depth≤n
 | x :: xs,h,d,hd=>by
  unfold PyData.depthAll at h
  rcases List.mem_cons.mp hd with e | hd
  ·rw [e]; omega
  ·exact depth_mem (l:=xs) (by omega) d hd
theorem minP_mem:∀ (xs:List PV) (x:PV),minP x xs∈x :: xs
 | [],x=>by simp [minP]
 | y :: ys,x=>by
  have:=minP_mem ys (if ltv y x then y else x)
  show minP (if ltv y x then y else x) ys∈_
  rcases List.mem_cons.mp this with e | e
  ·rw [e]; split <;> simp
  ·simp [e]
theorem minD_is{n:Nat}:∀ (xs:List PV) (x:PV),shp n x=true→shpL n xs=true→minD (dat x) (datL xs)=dat (minP x xs)
 | [],x,_,_=>rfl
 | y :: ys,x,hx,hs=>by
  rw [shpL,Bool.and_eq_true] at hs
  show (datL ys).foldl (fun a y=>if dataLt y a then y else a) (if dataLt (dat y) (dat x) then dat y else dat x)=dat (ys.foldl _ (if ltv y x then y else x))
  rw [ltv_is hs.1 hx]
  by_cases h:ltv y x=true
  ·rw [if_pos h,if_pos h]; exact minD_is ys y hs.1 hs.2
  ·rw [if_neg h,if_neg h]; exact minD_is ys x hx hs.2
theorem ordOk_spec{l:List PV}(h:ordOk l=true):shpL 50 l=true∧(∀ x∈l,∀ y∈l,alk x y=true)∧∀ x∈l,isNon x=false:=by
 unfold ordOk at h
 rw [Bool.and_eq_true,List.all_eq_true] at h
 refine ⟨h.2,fun x hx y hy=>?_,fun x hx=>?_⟩
 ·have:=h.1 x hx
  rw [Bool.and_eq_true,List.all_eq_true] at this
  exact this.2 y hy
 ·have:=h.1 x hx
  rw [Bool.and_eq_true] at this
  simpa using this.1
theorem dat_non{n:Nat}{p:PV}(hs:shp n p=true)(h:isNon p=false):dat p ≠ .none:=by
 cases p <;> first | (cases h; done) | (simp at hs; done) | (intro z; cases z)
theorem alikeAll_of{l:List PV}(h:ordOk l=true):AlikeAll (datL l):=by
 obtain ⟨h1,h2,h3⟩:=ordOk_spec h
 rw [datL_map]
 refine ⟨fun x hx y hy=>?_,fun x hx=>?_⟩
 ·obtain ⟨p,hp,rfl⟩:=List.mem_map.mp hx
  obtain ⟨q,hq,rfl⟩:=List.mem_map.mp hy
  rw [alk_dat 50 50 p q (shpL_mem h1 hp) (shpL_mem h1 hq)]
  exact h2 p hp q hq
 ·obtain ⟨p,hp,rfl⟩:=List.mem_map.mp hx
  exact dat_non (shpL_mem h1 hp) (h3 p hp)
section
variable {X:Cx}
def rBest(K:KK)(f:PV→List PV→PV):List V→Hp→VK→Prop:=fun vs H Q=>∃ (a:Addr) (us:List V) (y:PV) (ys:List PV),vs=[.ref a]∧(SqL K H a us ∨ SqT K H a us)∧RepL K H (y :: ys) us∧ordOk (y :: ys)=true ∧
 ∀ (i:Nat) v,us[i]? = some v→(y :: ys)[i]? = some (f y ys)→Q v H
theorem best_fin{pins:List (Addr×Obj)}{s:Shared}{σ:L2.St}{H:Hp}{its:List Value}{as:List Addr}{us:List V}{y:PV}{ys:List PV}{f:PV→List PV→PV}{Q:VK}(I:Inv X pins σ H s)(rv:Vals us its)(rl:RepL (kkX X) H (y :: ys) us)(ho:ordOk (y :: ys)=true)(hr:ReadsAll s.heap its (datL (y :: ys)) as)
  (fm:f y ys∈y :: ys)(q:∀ (i:Nat) v,us[i]? = some v→(y :: ys)[i]? = some (f y ys)→Q v H){i:Nat}{v:Value}{h':Heap}{tk:Nat}{bs:List Addr}(hi:its.toArray[i]? = some v)(r:Reads h' v (dat (f y ys)) bs)(hk:∀ b o,s.heap.get? b=some o→h'.get? b=some o):EP X pins σ Q v { s with heap:=h',toks:=tk }:=by
 obtain ⟨h1,h2,h3⟩:=ordOk_spec ho
 obtain ⟨z,hz,rz⟩:=vals_back rv (by simpa using hi)
 obtain ⟨p,hp,rp⟩:=rl.getV hz
 obtain ⟨cs,rr,_⟩:=readsAll_atA (vs:=its.toArray) hr i v hi
 have e:(datL (y :: ys)).getD i .none=dat p:=by rw [datL_map,List.getD,List.getElem?_map,hp]; rfl
 rw [e] at rr
 have pm:=List.mem_of_getElem? hp
 have al:alike (dat p) (dat (f y ys))=true:=by rw [alk_dat 50 50 _ _ (shpL_mem h1 pm) (shpL_mem h1 fm)]; exact h2 _ pm _ fm
 have:=alike_unique _ _ _ _ _ al (reads_keeps hk rr) r
 have:=dat_inj 50 50 _ _ (shpL_mem h1 pm) (shpL_mem h1 fm) this
 subst this
 exact ⟨z,H,I.kept hk,rz,q i z hz hp⟩
theorem cr_minD(hc:X.calm=true)(hu:X.A.units+100 < cLine):CallR X (.builtin "min") (rBest (kkX X) minP):=by
 intro pins s σ H vs us Q I r h
 obtain ⟨a,ws,y,ys,rfl,hs,rl,ho,q⟩:=h
 obtain ⟨h1,_,_⟩:=ordOk_spec ho
 have h1':=h1
 rw [shpL,Bool.and_eq_true] at h1'
 obtain ⟨d1,d2,d3⟩:=rep_dpL 50 (y :: ys) ws h1 rl
 rw [Vals.ref1 r]
 have hd:X.A.units+1+PyData.depthAll (dat y :: datL ys) < cLine:=by
  have:PyData.depthAll (dat y :: datL ys)≤50:=d3
  omega
 rcases hs with hs | hs
 ·obtain ⟨its,rv,hl,_⟩:=I.list hs
  obtain ⟨as,hr⟩:=Dp.readsAll I _ _ its d1 rv
  exact min_list_data (I.ok.hd hc) hl.isList (x:=dat y) (xs:=datL ys) hr (alikeAll_of ho) hd fun i v h' tk bs hi r hk=>by
   rw [minD_is ys y h1'.1 h1'.2] at r
   exact best_fin I rv rl ho hr (minP_mem ys y) q hi r hk
 ·obtain ⟨its,rv,hl,_⟩:=I.tuple hs
  obtain ⟨as,hr⟩:=Dp.readsAll I _ _ its d1 rv
  exact min_tuple_data (I.ok.hd hc) (show s.heap.IsTuple a its.toArray from hl) (x:=dat y) (xs:=datL ys) hr (alikeAll_of ho) hd fun i v h' tk bs hi r hk=>by
   rw [minD_is ys y h1'.1 h1'.2] at r
   exact best_fin I rv rl ho hr (minP_mem ys y) q hi r hk
def rBestD(K:KK)(f:PV→List PV→PV):List V→List V→Hp→VK→Prop:=fun vs zs H Q=>∃ (a:Addr) (us:List V) (l:List PV) (d:V),vs=[.ref a]∧zs=[d]∧(SqL K H a us ∨ SqT K H a us)∧RepL K H l us∧(l=[]→Q d H) ∧
 ∀ y ys,l=y :: ys→ordOk (y :: ys)=true∧∀ (i:Nat) v,us[i]? = some v→(y :: ys)[i]? = some (f y ys)→Q v H
theorem ordOk_or{l:List PV}(h:∀ y ys,l=y :: ys→ordOk (y :: ys)=true):shpL 50 l=true∧AlikeAll (datL l):=by
 cases l with
 | nil=>exact ⟨rfl,fun _ h=>(by cases h),fun _ h=>(by cases h)⟩
 | cons y ys=>exact ⟨(ordOk_spec (h y ys rfl)).1,alikeAll_of (h y ys rfl)⟩
theorem cr_minDf(hc:X.calm=true)(hu:X.A.units+100 < cLine):CallRK X (.builtin "min") ["default"] (rBestD (kkX X) minP):=by
 intro pins s σ H vs zs us ws Q I r rz h
 obtain ⟨a,us',l,d,rfl,rfl,hs,rl,q0,q1⟩:=h
 rw [Vals.ref1 r]
 obtain ⟨dv,rfl,rd⟩:=vals1 rz
 obtain ⟨h1,h2⟩:=ordOk_or fun y ys e=>(q1 y ys e).1
 obtain ⟨d1,d2,d3⟩:=rep_dpL 50 l us' h1 rl
 have hd:X.A.units+1+PyData.depthAll (datL l) < cLine:=by omega
 have e0:datL l=[]→l=[]:=fun e=>by cases l with
  | nil=>rfl
  | cons _ _=>cases e
 rcases hs with hs | hs
 ·obtain ⟨its,rv,hl,_⟩:=I.list hs
  obtain ⟨as,hr⟩:=Dp.readsAll I _ _ its d1 rv
  refine min_list_default (I.ok.hd hc) hl.isList hr h2 hd (fun e h' tk hk=>⟨d,H,I.kept hk,rd,q0 (e0 e)⟩) fun z zs' i v h' tk bs e hi r hk=>?_
  cases l with
  | nil=>cases e
  | cons y ys =>
   rw [shpL,Bool.and_eq_true] at h1
   have e':dat y :: datL ys=z :: zs':=e
   injection e' with e1 e2
   subst e1 e2
   rw [minD_is ys y h1.1 h1.2] at r
   obtain ⟨ho,q⟩:=q1 y ys rfl
   exact best_fin I rv rl ho hr (minP_mem ys y) q hi r hk
 ·obtain ⟨its,rv,hl,_⟩:=I.tuple hs
  obtain ⟨as,hr⟩:=Dp.readsAll I _ _ its d1 rv
  refine min_tuple_default (I.ok.hd hc) (show s.heap.IsTuple a its.toArray from hl) hr h2 hd (fun e h' tk hk=>⟨d,H,I.kept hk,rd,q0 (e0 e)⟩) fun z zs' i v h' tk bs e hi r hk=>?_
  cases l with
  | nil=>cases e
  | cons y ys =>
   rw [shpL,Bool.and_eq_true] at h1
   have e':dat y :: datL ys=z :: zs':=e
   injection e' with e1 e2
   subst e1 e2
   rw [minD_is ys y h1.1 h1.2] at r
   obtain ⟨ho,q⟩:=q1 y ys rfl
   exact best_fin I rv rl ho hr (minP_mem ys y) q hi r hk
end
theorem items_of{K:KK}{F H Hs:Hp}{x:TV}{v:V}{l:List PV}(hf:Same F H)(h:RV K F H Hs x v)(hi:itemsV x = .ok l):∃ a us,v = .ref a∧(SqL K H a us ∨ SqT K H a us)∧RepL K F l us:=by
 obtain ⟨t,p⟩:=x
 cases p with
 | lst m =>
  unfold itemsV at hi
  by_cases f1:flat1 t=true
  ·simp only [f1,if_true] at hi
   cases hi
   obtain ⟨a,vs,rfl,s,r⟩:=rv_flat hf h f1
   exact ⟨a,vs,rfl,.inl s,r⟩
  ·simp only [f1] at hi; cases hi
 | tup m =>
  cases hi
  obtain ⟨a,vs,rfl,s,r⟩:=rv_tup h
  exact ⟨a,vs,rfl,.inr ((TupAt.sq (TupAt.mono hf s))),r⟩
 | _=>cases hi
theorem itemsV_noexc{x:TV}{c:Nat}:itemsV x ≠ .exc c:=by
 obtain ⟨t,p⟩:=x
 intro h
 cases p <;> unfold itemsV at h <;> simp only at h <;> first | (cases h; done) | (split at h <;> cases h)
section
variable {C:Cn} {cm:Bool} {k:Nat} {N:List Str} {sc so:Scope} {a b c e o tg:Expr} {es:List Expr} {A B:EX} {As:EXs} {T U:TX} {pos p tpos apos cpos p1 kpos:Pos} {X:Cx} {x:Str} {elts:List Expr} {kk:Nat}
theorem best_use{f:PV→List PV→PV}(fm:∀ y ys,f y ys∈y :: ys){W:WX}{σ:L2.St}{x:TV}{v:V}{F H Hs:Hp}{Q:VK}(hf:Same F H)(ht:Tups F H)(rv:RV C.K F H Hs x v)(h:EOk C W σ F H Q (bestV f x)):rBest C.K f [v] H Q:=by
 unfold bestV at h
 cases hi:itemsV x with
 | exc c=>exact (itemsV_noexc hi).elim
 | bad=>rw [hi] at h; exact h.elim
 | ok l =>
  rw [hi,bind_ok] at h
  obtain ⟨ad,us,rfl,hs,rl⟩:=items_of hf rv hi
  cases l with
  | nil=>exact h.elim
  | cons y ys =>
   simp only at h
   by_cases ho:ordOk (y :: ys)=true
   ·rw [if_pos ho] at h
    refine ⟨ad,us,y,ys,rfl,hs,rl.mono hf _ _,ho,fun i w hw hp=>?_⟩
    obtain ⟨w',h1,h2⟩:=rl.get hp
    rw [hw] at h1
    cases h1
    exact h w F H (Ext.refl hf ht) (.fz h2)
   ·rw [if_neg ho] at h; exact h.elim
theorem de_minD (ha:DE C true k N sc a A) (mx:C.mg "min" = none) (hg:sc.names.lookup ("min":Str)=some .globalImplicit:=by rfl)
  (hst:∀ env:PySem.Env,starEach [a] env=(false,eval a env) :: starEach [] env:=by intro _; rfl):DE C true k N sc (.Call (.Name "min" p) [a] [] pos) (eMinD A) :=
 de_b1 (r:=rBest C.K minP) (fun X S=>by rw [← S.KK]; exact cr_minD (S.c rfl) S.u) (fun W σ x v F H Hs Q hf ht rv h=>best_use (fun y ys=>minP_mem ys y) hf ht rv h) mx (by decide +kernel) (by decide) (by decide) ha hg hst
theorem bestD_use{f:PV→List PV→PV}{W:WX}{σ:L2.St}{x:TV}{v:V}{d:PV}{u:V}{F H Hs:Hp}{Q:VK}(hf:Same F H)(ht:Tups F H)(rv:RV C.K F H Hs x v)(rd:Rep C.K H d u)(h:EOk C W σ F H Q (bestDV f x d)):rBestD C.K f [v] [u] H Q:=by
 unfold bestDV at h
 cases hi:itemsV x with
 | exc c=>exact (itemsV_noexc hi).elim
 | bad=>rw [hi] at h; exact h.elim
 | ok l =>
  rw [hi,bind_ok] at h
  obtain ⟨ad,us,rfl,hs,rl⟩:=items_of hf rv hi
  refine ⟨ad,us,l,u,rfl,rfl,hs,rl.mono hf _ _,fun e=>?_,fun y ys e=>?_⟩
  ·subst e
   simp only at h
   by_cases hp:plainP d=true
   ·rw [if_pos hp] at h
    refine h u F H (Ext.refl hf ht) (.fz ?_)
    obtain ⟨e1,e2⟩:=plain_rep hp rd
    cases d <;> first | (simp [plainP] at hp; done) | (unfold Rep at rd ⊢; exact rd)
   ·rw [if_neg hp] at h; exact h.elim
  ·subst e
   simp only at h
   by_cases ho:ordOk (y :: ys)=true
   ·rw [if_pos ho] at h
    refine ⟨ho,fun i w hw hp=>?_⟩
    obtain ⟨w',h1,h2⟩:=rl.get hp
    rw [hw] at h1
    cases h1
    exact h w F H (Ext.refl hf ht) (.fz h2)
   ·rw [if_neg ho] at h; exact h.elim
theorem de_bestDf {f:PV→List PV→PV} {bid:String} (hc:∀ X,Sta C true k N sc X→CallRK X (.builtin bid) ["default"] (rBestD C.K f)) (mx:C.mg x=none) (hv:bootBuiltins x=some (.builtin bid)) (hn:x ≠ "__name__") (hdb:(x == ("__debug__":Str))=false)
  (ha:DE C true k N sc a A) (hb:DE C true k N sc b B) (hg:sc.names.lookup x=some .globalImplicit)
  (hst:∀ env:PySem.Env,starEach [a] env=(false,eval a env) :: starEach [] env) (he:∀ env:PySem.Env,backTo pos (starEach [a] env)=(false,eval a env) :: backTo pos (starEach [] env)) (hpl:∀ env:PySem.Env,(backTo pos (starEach [a] env)).any (·.1)=false)
  (hall:∀ env:PySem.Env,(backToKw pos (keywordEach [⟨some "default",b,kpos⟩] env)).all (·.1.isSome)=true) (hnone:∀ env:PySem.Env,(backToKw pos (keywordEach [⟨some "default",b,kpos⟩] env)).any (·.1.isNone)=false) (hks:∀ env:PySem.Env,(backToKw pos (keywordEach [⟨some "default",b,kpos⟩] env)).filterMap (·.1)=(["default"]:List Str)) :
  DE C true k N sc (.Call (.Name x p) [a] [⟨some "default",b,kpos⟩] pos) (fun Γ=>(A Γ).bind fun x=>(B Γ).bind fun d=>bestDV f x d.2):=by
 obtain ⟨ta,pa,qa⟩:=ha
 obtain ⟨tb,pb,qb⟩:=hb
 refine ⟨fun W=>tCKw (rBestD C.K f) (tCons (ta W) tNil) (tCons (tb W) tNil),fun X S W T=>pe_callBK (hc X S) (S.gl hg) (by rw [S.mg]; exact mx) hv (pa_cons (pa X S W T) pa_nil (hst _)) (pk_cons (pb X S W T) pk_nil) hn hdb (he _) (hpl _) (hall _) (hnone _) (hks _),fun W σ Γ F0 H0 F H Q g h=>?_⟩
 refine qa W σ Γ F0 H0 F H _ g (EOk.bind h fun x v F1 H1 ex e1 r1 h1=>?_)
 refine qb W σ Γ F0 H0 F1 H1 _ (g.next e1) (EOk.bind (h1.next e1) fun y u F2 H2 ey e2 r2 h2=>?_)
 exact bestD_use e2.fh e2.tp (r1.ext e2) (r2.rep e2.fh) (h2.next e2)
theorem de_minDf (ha:DE C true k N sc a A) (hb:DE C true k N sc b B) (mx:C.mg "min" = none) (hg:sc.names.lookup ("min":Str)=some .globalImplicit:=by rfl)
  (hst:∀ env:PySem.Env,starEach [a] env=(false,eval a env) :: starEach [] env:=by intro _; rfl) (he:∀ env:PySem.Env,backTo pos (starEach [a] env)=(false,eval a env) :: backTo pos (starEach [] env):=by intro _; rfl) (hpl:∀ env:PySem.Env,(backTo pos (starEach [a] env)).any (·.1)=false:=by intro _; rfl)
  (hall:∀ env:PySem.Env,(backToKw pos (keywordEach [⟨some "default",b,kpos⟩] env)).all (·.1.isSome)=true:=by intro _; rfl) (hnone:∀ env:PySem.Env,(backToKw pos (keywordEach [⟨some "default",b,kpos⟩] env)).any (·.1.isNone)=false:=by intro _; rfl) (hks:∀ env:PySem.Env,(backToKw pos (keywordEach [⟨some "default",b,kpos⟩] env)).filterMap (·.1)=(["default"]:List Str):=by intro _; rfl) :
  DE C true k N sc (.Call (.Name "min" p) [a] [⟨some "default",b,kpos⟩] pos) (eMinDf A B) :=
 de_bestDf (fun X S=>by rw [← S.KK]; exact cr_minDf (S.c rfl) S.u) mx (by decide +kernel) (by decide) (by decide) ha hb hg hst he hpl hall hnone hks
end
theorem repL_zip{K:KK}{F:Hp}:∀ {z:List (V×PV)},(∀ x∈z,Rep K F x.2 x.1)→RepL K F (z.map (·.2)) (z.map (·.1))
 | [],_=>RepL.nil
 | x :: z,h=>RepL.cons (h x (by simp)) (repL_zip fun y hy=>h y (by simp [hy]))
theorem repL_each{K:KK}{F:Hp}:∀ {l:List PV} {us:List V},RepL K F l us→∀ x∈us.zip l,Rep K F x.2 x.1
 | [],us,h,x,hx=>by simp at hx
 | p :: l,us,h,x,hx=>by
  unfold RepL at h
  obtain ⟨v,r,rfl,h1,h2⟩:=h
  rw [List.zip_cons_cons] at hx
  rcases List.mem_cons.mp hx with e | hx
  ·subst e; exact h1
  ·exact repL_each h2 x hx
theorem eachZ:∀ {us:List V} {its:List Value} {l:List PV},Vals us its→us.length=l.length→PySem.W.EachIs (fun (v:Value) (b:V×PV)=>RelV b.1 v) its (us.zip l)
 | [],_,[],.nil,_=>.nil
 | u :: us,_,p :: l,.cons r t,h=>.cons r (eachZ t (by simpa using h))
 | [],_,_ :: _,_,h=>by simp at h
 | _ :: _,_,[],_,h=>by simp at h
theorem each_vals:∀ {out:List Value} {z:List (V×PV)},PySem.W.EachIs (fun (v:Value) (b:V×PV)=>RelV b.1 v) out z→Vals (z.map (·.1)) out
 | _,_,.nil=>.nil
 | _,_,.cons r t=>.cons r (each_vals t)
section
variable {C:Cn} {cm:Bool} {k:Nat} {N:List Str} {sc so:Scope} {a b c e o tg:Expr} {es:List Expr} {A B:EX} {As:EXs} {T U:TX} {pos p tpos apos cpos p1 kpos:Pos} {X:Cx} {x:Str} {elts:List Expr} {kk:Nat}
end
end Vl
end
section
set_option Elab.async false
set_option linter.all false
set_option maxRecDepth 100000
set_option maxHeartbeats 1000000
namespace HT
open PySem PySem.Spec PyProof.Rows L2
section
variable {prog:Program} {w:World} {A:Around} {E:Value→Shared→Prop} {s:Shared}
theorem sliceApplied_rev{sl:Addr}{vs:Value}{n:Nat}{Q:Int×Int×Nat→Shared→Prop}(hs:s.heap.IsSliceOf sl .none .none vs)(ps:IsPart vs (some (-1)))
  (h:Q ((n:Int) - 1,-1,n) s):wpAny (model prog w) A (Builtin.Slice.sliceApplied (.ref sl) (pure (n:Int))) Q E s:=by
 obtain ⟨os,hos,hcs,hds⟩:=id hs
 unfold Builtin.Slice.sliceApplied Builtin.Slice.sliceFields
 refine wpAny_bind (wpAny_bind (wpAny_field hos hds (x:=.none) rfl (wpAny_bind (wpAny_field hos hds (x:=.none) rfl (wpAny_bind (wpAny_field hos hds (x:=vs) rfl (wpAny_pure ?_)))))))
 refine wpAny_bind (slicePart_ ps ?_)
 show wpAny _ _ (if ((-1:Int) == 0)=true then _ else _) _ _ s
 rw [if_neg (by decide)]
 refine wpAny_bind (slicePart_ .none (wpAny_bind (slicePart_ .none (wpAny_bind (wpAny_pure ?_)))))
 show wpAny _ _ (pure ((n:Int) - 1,(-1:Int),Builtin.Slice.slicePlaces ((n:Int) - 1) (-1) (-1))) _ _ s
 have e:Builtin.Slice.slicePlaces ((n:Int) - 1) (-1) (-1)=n:=by
  unfold Builtin.Slice.slicePlaces
  rw [if_neg (by decide)]
  have e2:-(-1:Int)=1:=rfl
  rw [e2,Int.ediv_one]
  split <;> omega
 rw [e]
 exact wpAny_pure h
theorem fm_congr{α β:Type}{f g:α→Option β}:∀ {l:List α},(∀ x∈l,f x=g x)→l.filterMap f=l.filterMap g
 | [],_=>rfl
 | x :: l,h=>by rw [List.filterMap_cons,List.filterMap_cons,h x (by simp),fm_congr fun y hy=>h y (by simp [hy])]
theorem fm_all{α:Type}:∀ (l m:List α),(List.range' m.length l.length).filterMap (fun k=>(m++l)[k]?)=l
 | [],m=>rfl
 | x :: l,m=>by
  have e:(m++x :: l)[m.length]? = some x:=by simp
  rw [List.length_cons,List.range'_succ,List.filterMap_cons,e]
  have ih:=fm_all l (m++[x])
  rw [List.length_append,List.append_assoc] at ih
  show x :: _=_
  congr 1
theorem pick_rev(xs:List Value):((List.range xs.length).filterMap fun (k:Nat)=>xs.toArray[((xs.length:Int) - 1+(k:Int) * (-1)).toNat]?).toArray=xs.reverse.toArray:=by
 congr 1
 have e:∀ k∈List.range xs.length,xs.toArray[((xs.length:Int) - 1+(k:Int) * (-1)).toNat]? = xs.reverse[k]?:=fun k hk=>by
  have hk:k < xs.length:=by simpa using hk
  have:((xs.length:Int) - 1+(k:Int) * (-1)).toNat=xs.length - 1 - k:=by omega
  rw [this,List.getElem?_reverse hk]
  simp
 rw [fm_congr e]
 have:=fm_all xs.reverse []
 rw [List.length_reverse] at this
 rw [List.range_eq_range']
 exact this
theorem getItem_tuple_rev {t sl:Addr} {xs:List Value} {vs:Value} {Q:Value→Shared→Prop} (ht:IsTup s.heap t xs.toArray) (hs:s.heap.IsSliceOf sl .none .none vs) (ps:IsPart vs (some (-1)))
  (h:Q (.ref s.heap.objs.size) { s with heap:=s.heap.push { cls:=.type "tuple",data:=.seq xs.reverse.toArray } })
  (hsz:xs.length≤sizeLine):wpAny (model prog w) A (getItem (.ref t) (.ref sl)) Q E s:=by
 have htake:sizeOk (.seq xs.reverse.toArray):=by
  show xs.reverse.toArray.size≤sizeLine
  rw [List.size_toArray,List.length_reverse]; exact hsz
 obtain ⟨os,hos,hcs,hds⟩:=id hs
 have hTs:s.TypeIs (.ref sl) "slice":=⟨os,hos,hcs⟩
 unfold getItem
 try with_reducible refine wpAny_holding ?_
 first | refine wpAny_bind (wpAny_pure ?_) | skip
 refine wpAny_bind (wpAny_sequenceKey ht.typeIs (by decide) ?_)
 refine wpAny_bind (wpAny_callSpecial?_slot (name:=Str.ofString "__getitem__") ht.typeIs PyProof.Rows.slot_tuple_getitem
  (wpAny_call_entry PyProof.Rows.slot_tuple_getitem ht.typeIs entry_tuple_getitem ?_ (args_tuple_getitem _ _)))
 show wpAny _ _ (Builtin.Tuple.tupleItemsOf (.ref t) >>= _) _ _ s
 refine wpAny_bind (tupleItemsOf_ ht ?_)
 refine wpAny_bind (wpAny_typeOf hTs ?_)
 rw [if_pos (by decide)]
 refine wpAny_bind (sliceApplied_rev hs ps ?_)
 have hno:¬ ((((xs.toArray.size:Nat):Int) - 1 == 0 && (-1:Int) == 1 && xs.toArray.size == xs.toArray.size)=true):=by
  intro q
  rw [Bool.and_eq_true,Bool.and_eq_true] at q
  exact absurd q.1.2 (by decide)
 show wpAny _ _ (if (((xs.toArray.size:Nat):Int) - 1 == 0 && (-1:Int) == 1 && xs.toArray.size == xs.toArray.size)=true then _ else _) _ _ s
 rw [if_neg hno,List.size_toArray,pick_rev]
 first
  | exact wpAny_bind (m:=Builtin.Tuple.tupleExact _) (wpAny_newObj_type (wpAny_pure ⟨_,rfl,wpAny_pure h⟩) htake)
  | exact wpAny_bind (m:=Builtin.Tuple.tupleExact _) (wpAny_newObj_type (wpAny_bind (wpAny_pure (wpAny_pure ⟨_,rfl,wpAny_pure h⟩))) htake)
  | exact wpAny_bind (wpAny_bind (m:=Builtin.Tuple.tupleExact _) (wpAny_newObj_type (wpAny_pure (wpAny_pure ⟨_,rfl,wpAny_pure h⟩)) htake))
  | exact wpAny_bind (wpAny_bind (m:=Builtin.Tuple.tupleExact _) (wpAny_newObj_type (wpAny_pure ⟨_,rfl,wpAny_pure h⟩) htake))
end
end HT
namespace Vl
open PySem L2 Vm PyProof.Rows
section
variable {X:Cx}
def tRevA(K:PySem.W.Frag)(te:TE):TE:=fun σ H Q=>te σ H fun x H1=>∃ a xs,x = .ref a∧((SqL K H1 a xs∧∀ p,H1 p=none→Q (.ref p) (upd H1 p (.lst xs.reverse))) ∨ (SqT K H1 a xs∧NewT xs.reverse H1 Q))
theorem pe_revA{e:Expr}{te:TE}{k:Nat}{p1 p2 p3 pos:Pos}(he:PE X e te):PE X (.Subscript e (.Slice none none (some (.UnaryOp .USub (.Constant (.int 1) k p1) p2)) p3) pos) (tRevA X.K te):=by
 refine ⟨fun pins s σ H Q I h=>?_⟩
 refine Subscript_ (thn (he.run pins s σ H _ I h) fun v s1 ⟨x,H1,I1,r1,q1⟩=>?_)
 obtain ⟨a,xs,ex,q1⟩:=q1
 subst ex
 cases r1
 have hst:PO X (some (.UnaryOp .USub (.Constant (.int 1) k p1) p2)) (tPart (tUn (rU fun i=>.int (-i)) (tC (.int 1)))):=po_some (pe_un un_neg pe_int)
 refine wpAny_Slice (thn (po_none.run pins s1 σ H1 (fun o H2=>o=none∧H2=H1) I1 ⟨rfl,rfl⟩) fun vl s2 ⟨l,H2,I2,pl,el,e2⟩=>?_)
 subst el e2
 refine thn (po_none.run pins s2 σ H2 (fun o H3=>o=none∧H3=H2) I2 ⟨rfl,rfl⟩) fun vu s3 ⟨u,H3,I3,pu,eu,e3⟩=>?_
 subst eu e3
 refine thn (hst.run pins s3 σ H3 (fun o H4=>o=some (-1)∧H4=H3) I3 ⟨1,rfl,-1,rfl,rfl,rfl⟩) fun vs s4 ⟨o,H4,I4,ps,eo,e4⟩=>?_
 subst eo e4
 have I5:Inv X pins σ H4 { s4 with heap:=s4.heap.push { cls:=.type "slice",data:=.fields #[vl,vu,vs] } }:=I4.kept (t':=s4.toks) fun b ob q=>Heap.get?_push_of_some _ q
 show wpAny (model X.prog X.w) X.A (subscriptTail e (.Slice none none (some (.UnaryOp .USub (.Constant (.int 1) k p1) p2)) p3) (.ref a) (.ref s4.heap.objs.size)) (EP X pins σ Q) X.xe { s4 with heap:=s4.heap.push { cls:=.type "slice",data:=.fields #[vl,vu,vs] } }
 rcases q1 with ⟨hx,q⟩ | ⟨hx,q⟩
 ·obtain ⟨its,r,ht,hz⟩:=I5.list hx
  have hlen:=r.length
  refine tail_any (ops:=[.ref a,.ref s4.heap.objs.size]) ht.isList.typeIs (PySem.slot_list_getitem.lookup) ?_ (by with_unfolding_all rfl)
  refine wpAny_getItem_list_slice ht.isList (Heap.IsSliceOf.new _ vl vu vs) pl pu ps (by decide) ?_ (by rw [List.size_toArray]; omega)
  rw [PySem.W.krv_pick]
  refine ⟨.ref _,_,I5.laid (t':=s4.toks) (o:=.lst xs.reverse) (fun b ob q=>Heap.get?_push_of_some _ q) (Nat.le_refl _) ?_,rfl,q _ (I5.hok.fresh (Nat.le_refl _))⟩
  exact ⟨by rw [List.length_reverse]; exact hz,_,0,r.reverse,Heap.get?_push_size _ rfl⟩
 ·obtain ⟨its,r,ht,hz⟩:=I5.tuple hx
  have hlen:=r.length
  cases pl
  cases pu
  refine tail_any (ops:=[.ref a,.ref s4.heap.objs.size]) ht.typeIs (PyProof.Rows.slot_tuple_getitem.lookup) ?_ (by with_unfolding_all rfl)
  refine HT.getItem_tuple_rev ht (Heap.IsSliceOf.new _ .none .none vs) ps ?_ (by omega)
  exact newD s4.toks I5 (by rw [List.length_reverse]; exact hz) r.reverse q
end
section
variable {C:Cn} {cm:Bool} {k:Nat} {N:List Str} {sc so:Scope} {a b c e o tg:Expr} {es:List Expr} {A B E:EX} {As:EXs} {T U:TX} {pos p tpos apos cpos p1 p2 p3 kpos:Pos} {X:Cx} {x:Str} {elts:List Expr} {kk:Nat}
theorem de_revS(ha:DE C cm k N sc a A):DE C cm k N sc (.Subscript a (.Slice none none (some (.UnaryOp .USub (.Constant (.int 1) kk p1) p2)) p3) pos) (eRevS A):=by
 obtain ⟨ta,pa,qa⟩:=ha
 refine ⟨fun W=>tRevA C.K (ta W),fun X S W T=>by rw [← S.K]; exact pe_revA (pa X S W T),fun W σ Γ F0 H0 F H Q g h=>?_⟩
 refine qa W σ Γ F0 H0 F H _ g (EOk.bind h fun x v F1 H1 ex e1 r1 h1=>?_)
 obtain ⟨t,q⟩:=x
 have h2:=h1.next e1
 cases q with
 | lst l =>
  unfold revV at h2
  simp only at h2
  by_cases hf:flat1 t=true
  ·rw [if_pos hf] at h2
   obtain ⟨ad,vs,rfl,s2,r3⟩:=rv_flat e1.fh r1 hf
   exact ⟨ad,vs,rfl,.inl ⟨s2,fun p hp=>h2 _ F1 _ (Ext.lst e1.fh e1.tp hp) (rv_new r3.reverse upd_same (e1.fh.free hp) hp)⟩⟩
  ·rw [if_neg hf] at h2; exact h2.elim
 | tup l =>
  obtain ⟨ad,vs,rfl,s2,r3⟩:=rv_tup r1
  refine ⟨ad,vs,rfl,.inr ⟨(TupAt.sq (TupAt.mono e1.fh s2)),fun p o hp hd=>?_⟩⟩
  obtain ⟨F2,e2,rv⟩:=new_tup hd e1.fh e1.tp r3.reverse hp
  exact h2 _ F2 _ e2 (rv _)
 | _=>exact h1.elim
structure CmpI (C:Cn) (cm:Bool) (k:Nat) (N:List Str) (sc:Scope) (op:CmpOp) (f:PV→PV→Res PV):Prop where
 x:∃ r,(∀ X,Sta C cm k N sc X→OpR X (compareOp op) r)∧Op2 C r f
 b:∀ p q z,f p q = .ok z→∃ b:Bool,z = .bl b
theorem stepN_is{i j c:Int}(hc:0 < c):Builtin.Range.rangeSize i j c=(stepN i j c:Nat):=by
 unfold Builtin.Range.rangeSize stepN
 rw [if_pos hc]
 by_cases h:i < j
 ·rw [if_pos h]
  have e:j - i+c - 1=(j - i - 1)+1 * c:=by omega
  have h0:0≤(j - i - 1) / c:=Int.ediv_nonneg (by omega) (by omega)
  rw [e,Int.add_mul_ediv_right _ _ (by omega)]
  omega
 ·rw [if_neg h]
  have:(j - i+c - 1) / c≤0:=by
   have:(j - i+c - 1) / c < 1:=Int.ediv_lt_of_lt_mul hc (by omega)
   omega
  omega
theorem itok_step{K:KK}{F H:Hp}(i j c:Int):ItOk K (Itc i c (stepN i j c)) true ((stepL i j c).map fun p=>(.fz,p)) F H:=by
 have hl:((stepL i j c).map fun p=>((.fz,p):TV)).length=stepN i j c:=by simp [stepL]
 refine ⟨fun _=>fz_all _,fun n F1 H1 _ e1 t1 _=>⟨fun h=>by rw [hl] at h; exact h,fun h=>by rw [hl] at h; rw [h]; exact Nat.le_refl _,fun x H' hlt y=>?_⟩⟩
 obtain ⟨rfl,rfl⟩:=y
 rw [hl] at hlt
 refine ⟨(.fz,.int (i+(n:Nat) * c)),?_,F1,Ext.refl e1 t1,fun Hs=>.fz rep_int⟩
 simp [stepL,hlt]
end
end Vl
end
section
set_option Elab.async false
set_option linter.all false
set_option maxRecDepth 100000
set_option maxHeartbeats 1000000
namespace Vl
open PySem L2 Vm PyProof.Rows
theorem step_small{i j c:Int}(h:0 < c∧c < 1073741824∧0≤i∧i < 1073741824∧0≤j∧j < 1073741824):Builtin.Range.small i j c=true:=by
 have hn:=stepN_is (i:=i) (j:=j) h.1
 have hb:(stepN i j c:Int)≤2147483647:=by
  have h2:(j - i+c - 1) / c≤j - i+c - 1 ∨ j - i+c - 1 < 0:=by
   by_cases hh:0≤j - i+c - 1
   ·left; exact Int.ediv_le_self _ hh
   ·right; omega
  rcases h2 with h2 | h2
  ·have:(stepN i j c:Int)≤2147483647:=by unfold stepN; omega
   exact Int.le_trans this (by decide)
  ·have:(j - i+c - 1) / c < 0:=Int.ediv_neg_of_neg_of_pos h2 h.1
   have:(stepN i j c:Int)≤0:=by unfold stepN; omega
   exact Int.le_trans this (by decide)
 have fit:∀ x:Int,-4611686018427387904≤x→x < 4611686018427387904→Builtin.Range.rangeFitsLong x=true:=fun x p q=>by
  unfold Builtin.Range.rangeFitsLong
  rw [Bool.and_eq_true,decide_eq_true_eq,decide_eq_true_eq]
  exact ⟨Int.le_trans (by decide) p,Int.lt_of_lt_of_le q (by decide)⟩
 have h0:(0:Int)≤stepN i j c:=by omega
 unfold Builtin.Range.small
 rw [hn,if_pos (show c > 0 from h.1),fit i (by omega) (by omega),fit j (by omega) (by omega),fit c (by omega) (by omega),fit (stepN i j c) (by omega) (by omega),fit (j+(c - 1)) (by omega) (by omega),Bool.or_true]
 rfl
section
variable {C:Cn} {cm:Bool} {k:Nat} {N:List Str} {sc so:Scope} {a b c e o tg:Expr} {es:List Expr} {A B E:EX} {As:EXs} {T U:TX} {pos p tpos apos cpos p1 p2 p3 kpos:Pos} {X:Cx} {x:Str} {elts:List Expr} {kk:Nat}
theorem di_range3 (ha:DE C cm k N sc a A) (hb:DE C cm k N sc b B) (hc:DE C cm k N sc c E) (mx:C.mg "range" = none) (hg:sc.names.lookup ("range":Str)=some .globalImplicit:=by rfl)
  (hst:∀ env:PySem.Env,starEach [a,b,c] env=(false,eval a env) :: starEach [b,c] env:=by intro _; rfl) (hst2:∀ env:PySem.Env,starEach [b,c] env=(false,eval b env) :: starEach [c] env:=by intro _; rfl) (hst3:∀ env:PySem.Env,starEach [c] env=(false,eval c env) :: starEach [] env:=by intro _; rfl)
  (hpl:∀ env:PySem.Env,(backTo pos (starEach [b,c] env)).any (·.1)=false:=by intro _; rfl):DI C cm k N sc tg (.Call (.Name "range" p) [a,b,c] [] pos) (jRange3 A B E):=by
 obtain ⟨ta,pa,qa⟩:=ha
 obtain ⟨tb,pb,qb⟩:=hb
 obtain ⟨tc,pc,qc⟩:=hc
 refine ⟨fun W=>iRng3 (tCons (ta W) (tCons (tb W) (tCons (tc W) tNil))),fun X S W T=>pi_range3 (S.gl hg) (by rw [S.mg]; exact mx) (pa_cons (pa X S W T) (pa_cons (pb X S W T) (pa_cons (pc X S W T) pa_nil (hst3 _)) (hst2 _)) (hst _)) (hst _) (hpl _),fun W σ Γ F0 H0 F H R g h=>?_⟩
 unfold jRange3 at h
 have shift:∀ {F1 H1:Hp} {r:Res (Bool×List TV)},Ext F H F1 H1→(match r with
  | .ok y=>∀ J F' H',Ext F H F' H'→ItOk C.K J y.1 y.2 F' H'→R J H'
  | .exc c=>∀ F' H',Ext F H F' H'→W (C.xc c) none σ H'
  | .bad=>False)→(match r with
  | .ok y=>∀ J F' H',Ext F1 H1 F' H'→ItOk C.K J y.1 y.2 F' H'→R J H'
  | .exc c=>∀ F' H',Ext F1 H1 F' H'→W (C.xc c) none σ H'
  | .bad=>False):=fun {F1 H1 r} e q=>by
  cases r with
  | ok y=>exact fun J F' H' e'=>q J F' H' (e.trans e')
  | exc c=>exact fun F' H' e'=>q F' H' (e.trans e')
  | bad=>exact q
 refine qa W σ Γ F0 H0 F H _ g (EOk.bindI h fun x v F1 H1 ex e1 r1 h1=>?_)
 refine qb W σ Γ F0 H0 F1 H1 _ (g.next e1) (EOk.bindI (shift e1 h1) fun y u F2 H2 ey e2 r2 h2=>?_)
 have h2':(match (E Γ).bind (fun z=>match x.2,y.2,z.2 with
  | .int i,.int j,.int k=>if 0 < k∧k < 1073741824∧0≤i∧i < 1073741824∧0≤j∧j < 1073741824 then (.ok (true,(stepL i j k).map fun p=>(.fz,p)):Res (Bool×List TV)) else .bad
  | _,_,_=>.bad) with
  | .ok y=>∀ J F' H',Ext F2 H2 F' H'→ItOk C.K J y.1 y.2 F' H'→R J H'
  | .exc c=>∀ F' H',Ext F2 H2 F' H'→W (C.xc c) none σ H'
  | .bad=>False):=by
  revert h2
  generalize (E Γ).bind _=r
  intro h2
  cases r with
  | ok y=>exact fun J F' H' e'=>h2 J F' H' (e2.trans e')
  | exc c=>exact fun F' H' e'=>h2 F' H' (e2.trans e')
  | bad=>exact h2
 refine qc W σ Γ F0 H0 F2 H2 _ ((g.next e1).next e2) (EOk.bindI h2' fun z w F3 H3 ez e3 r3 h3=>?_)
 have rx:=((r1.ext e2).ext e3).rep e3.fh
 have ry:=(r2.ext e3).rep e3.fh
 have rz:=r3.rep e3.fh
 obtain ⟨t,q⟩:=x
 obtain ⟨t',q'⟩:=y
 obtain ⟨t'',q''⟩:=z
 cases q with
 | int i =>
  cases q' with
  | int j =>
   cases q'' with
   | int l =>
    unfold Rep at rx ry rz
    subst rx ry rz
    simp only at h3
    by_cases hn:0 < l∧l < 1073741824∧0≤i∧i < 1073741824∧0≤j∧j < 1073741824
    ·rw [if_pos hn] at h3
     exact ⟨i,j,l,stepN i j l,rfl,⟨by omega,by omega,step_small hn,stepN_is hn.1⟩,h3 (Itc i l (stepN i j l)) F3 H3 e3 (itok_step i j l)⟩
    ·rw [if_neg hn] at h3
     exact h3.elim
   | _=>exact h3.elim
  | _=>exact h3.elim
 | _=>exact h3.elim
end
end Vl
end
section
set_option Elab.async false
set_option linter.all false
set_option maxRecDepth 100000
set_option maxHeartbeats 1000000
namespace L2
open PySem PySem.Spec PyProof.Rows
theorem tuple_mulS(l:Addr)(items:Array Value)(n:Nat)(dd:Option Addr)(sl:Array (Option Value))(x:Int)(u:Tok)(c0:(decide (x < -(2 ^ 63)) || decide (x ≥ 2 ^ 63))=false)(c1:(items.isEmpty || x == 1)=true) :
  Meets (Builtin.«tuple.__mul__» ⟨[.ref l,.int x u],[]⟩) (fun _ R s=>s.heap.get? l=some { cls:=.type "tuple",dict:=dd,data:=.seq items n,slots:=sl }∧R (.ok (.ret (Value.ref l))) s) :=
 .of_wp fun prog w A R s h=>by
  obtain ⟨hp,g,d,tk,os⟩:=s
  obtain ⟨hl,h⟩:=h
  have f1:=AutoSeq1.idx_int
  wp_walk using wpAny_loadPart' hl
  repeat (first
   | (refine wpAny_ite_false (decide_eq_false (by rw [c0]; exact Bool.false_ne_true)) ?_; wp_walk using wpAny_loadPart' hl)
   | (refine wpAny_ite_true (decide_eq_true c1) ?_; wp_walk using wpAny_loadPart' hl))
  exact ⟨_,rfl,h⟩
theorem tuple_mulZ(l:Addr)(items:Array Value)(n:Nat)(dd:Option Addr)(sl:Array (Option Value))(x:Int)(u:Tok)(c0:(decide (x < -(2 ^ 63)) || decide (x ≥ 2 ^ 63))=false)(c1:(items.isEmpty || x == 1)=false)(c2:(decide (x≤0) || items.isEmpty)=true) :
  Meets (Builtin.«tuple.__mul__» ⟨[.ref l,.int x u],[]⟩) (fun _ R s=>s.heap.get? l=some { cls:=.type "tuple",dict:=dd,data:=.seq items n,slots:=sl } ∧
   R (.ok (.ret (Value.ref s.heap.objs.size))) { s with heap:=s.heap.push { cls:=Value.type "tuple",data:=Data.seq #[] },toks:=s.toks }) :=
 .of_wp fun prog w A R s h=>by
  obtain ⟨hp,g,d,tk,os⟩:=s
  obtain ⟨hl,h⟩:=h
  have f1:=AutoSeq1.idx_int
  wp_walk using wpAny_loadPart' hl
  repeat (first
   | (refine wpAny_ite_false (decide_eq_false (by rw [c0]; exact Bool.false_ne_true)) ?_; wp_walk using wpAny_loadPart' hl)
   | (refine wpAny_ite_false (decide_eq_false (by rw [c1]; exact Bool.false_ne_true)) ?_; wp_walk using wpAny_loadPart' hl)
   | (refine wpAny_ite_true (decide_eq_true c2) ?_; wp_walk using wpAny_loadPart' hl))
  exact ⟨_,rfl,h⟩
section
variable {X:Cx}
def rMulT(K:PySem.W.Frag):R2:=fun x y H Q=>∃ l k xs,x = .ref l∧y = .int k∧SqT K H l xs∧-1000≤k∧k≤1000∧xs.length≤1000∧(xs=[] ∨ k=1→Q (.ref l) H)∧(xs ≠ []→k ≠ 1→NewT (List.replicate k.toNat xs).flatten H Q)
theorem op_mulT:OpR X (binaryOp .Mult) (rMulT X.K):=by
 intro pins s σ H x y v u Q I rx ry h
 obtain ⟨l,k,xs,rfl,rfl,hT,h0,h2,hz,q0,q⟩:=h
 by_cases hsame:xs=[] ∨ k=1
 ·cases rx
  obtain ⟨t,rfl⟩:=ry
  obtain ⟨its,r,⟨⟨cls,dd,data,sl⟩,ho,hc,n,hd⟩,hs⟩:=I.tuple hT
  simp only at hc hd
  subst hc hd
  have c0:(decide (k < -(2 ^ 63)) || decide (k ≥ 2 ^ 63))=false:=by
   rw [decide_eq_false (by omega),decide_eq_false (by omega)] <;> rfl
  have c1:(its.toArray.isEmpty || k == 1)=true:=by
   rcases hsame with e | e
   ·have:its=[]:=by
     have:=r.length
     rw [e] at this
     exact List.eq_nil_of_length_eq_zero this.symm
    subst this; rfl
   ·rw [e]; simp
  exact wpAny_binaryOp_repeat_ref (T:="tuple") (U:="int") (by decide) ⟨_,ho,rfl⟩ (fun s'=>typeIs_int s' k t) noFill_tuple_mul F.fills_int_mul F.slot_int_rmul repeat_tuple F.slot_int_index.lookup
   (call_meets F.slot_int_rmul (typeIs_int s k t) F.entry_int_rmul (F.args_int_rmul_2 _ _) (int_rmul_tuple k t l its.toArray n dd sl)
    ⟨ho,rfl,⟨_,ho,rfl⟩,call_meets F.slot_tuple_mul ⟨_,ho,rfl⟩ F.entry_tuple_mul (F.args_tuple_mul_2 _ _) (tuple_mulS l its.toArray n dd sl k t c0 c1) ⟨ho,.ref l,H,I,rfl,q0 hsame⟩⟩)
 ·have hne:xs ≠ []:=fun e=>hsame (.inl e)
  have hk1:k ≠ 1:=fun e=>hsame (.inr e)
  by_cases h1:2≤k
  ·exact op_repD pins s σ H _ _ v u Q I rx ry ⟨l,k,xs,rfl,rfl,hT,hne,h1,h2,hz,q hne hk1⟩
  ·cases rx
   obtain ⟨t,rfl⟩:=ry
   obtain ⟨its,r,⟨⟨cls,dd,data,sl⟩,ho,hc,n,hd⟩,hs⟩:=I.tuple hT
   simp only at hc hd
   subst hc hd
   have hn:its ≠ []:=fun e=>hne (by
    have:=r.length
    rw [e] at this
    exact List.eq_nil_of_length_eq_zero this)
   have hi:its.toArray.isEmpty=false:=by
    cases its with
    | nil=>exact absurd rfl hn
    | cons a b=>rfl
   have c0:(decide (k < -(2 ^ 63)) || decide (k ≥ 2 ^ 63))=false:=by
    rw [decide_eq_false (by omega),decide_eq_false (by omega)] <;> rfl
   have c1:(its.toArray.isEmpty || k == 1)=false:=by
    rw [hi,Bool.false_or]
    exact beq_eq_false_iff_ne.mpr (by omega)
   have c2:(decide (k≤0) || its.toArray.isEmpty)=true:=by
    rw [decide_eq_true (by omega)]; rfl
   have hq:=q hne hk1
   rw [show k.toNat=0 by omega,List.replicate_zero,List.flatten_nil] at hq
   refine wpAny_binaryOp_repeat_ref (T:="tuple") (U:="int") (by decide) ⟨_,ho,rfl⟩ (fun s'=>typeIs_int s' k t) noFill_tuple_mul F.fills_int_mul F.slot_int_rmul repeat_tuple F.slot_int_index.lookup
    (call_meets F.slot_int_rmul (typeIs_int s k t) F.entry_int_rmul (F.args_int_rmul_2 _ _) (int_rmul_tuple k t l its.toArray n dd sl)
     ⟨ho,rfl,⟨_,ho,rfl⟩,call_meets F.slot_tuple_mul ⟨_,ho,rfl⟩ F.entry_tuple_mul (F.args_tuple_mul_2 _ _) (tuple_mulZ l its.toArray n dd sl k t c0 c1 c2) ⟨ho,?_⟩⟩)
   exact newD (its:=[]) s.toks I (Nat.zero_le _) .nil hq
def rMulL(K:PySem.W.Frag):R2:=fun x y H Q=>∃ l k xs,x = .ref l∧y = .int k∧SqL K H l xs∧-(2 ^ 63)≤k∧k < 2 ^ 63∧xs.length * k.toNat≤sizeLine ∧
 ∀ p,H p=none→Q (.ref p) (upd H p (.lst (List.replicate k.toNat xs).flatten))
theorem op_mulL:OpR X (binaryOp .Mult) (rMulL X.K):=by
 intro pins s σ H x y v u Q I rx ry h
 obtain ⟨l,k,xs,rfl,rfl,hH,h1,h2,hz,q⟩:=h
 cases rx
 obtain ⟨t,rfl⟩:=ry
 obtain ⟨its,r,⟨⟨cls,dd,data,sl⟩,n,e,hc,hd1,hd⟩,hl⟩:=I.list hH
 simp only at hc hd
 subst hc hd
 have hlx:xs.length=its.length:=r.length
 have hlen:its.toArray.size * k.toNat≤sizeLine:=by rw [List.size_toArray,← hlx]; exact hz
 have hcap:¬ its.toArray.size * k.toNat > (2 ^ 63 - 1) / 8:=by
  have:(sizeLine:Nat)≤(2 ^ 63 - 1) / 8:=by decide
  omega
 have hfit:¬ (!Builtin.List.listFitsIndex k)=true:=by
  rw [fitsIndex_both h1 h2]
  exact Bool.false_ne_true
 have hlong:¬ Builtin.List.listTooLong (its.toArray.size * k.toNat)=true:=by
  rw [notLongL hlen]
  exact Bool.false_ne_true
 have hnew:List.foldl (fun x1 x2=>x1++x2) #[] (List.replicate (if its.toArray.isEmpty=true then 0 else k.toNat) its.toArray)=(List.replicate k.toNat its).flatten.toArray:=by
  have f0:∀ m:Nat,List.foldl (fun x1 x2=>x1++x2) #[] (List.replicate m its.toArray)=(List.replicate m its).flatten.toArray:=fun m=>by
   have:=foldl_rep its m []
   rw [List.nil_append] at this
   exact this
  rw [f0]
  cases its with
  | nil=>simp
  | cons a r'=>rw [if_neg (by simp)]
 refine wpAny_binaryOp_repeat_ref (T:="list") (U:="int") (by decide) ⟨_,e,rfl⟩ (fun s'=>typeIs_int s' k t) noFill_list_mul F.fills_int_mul F.slot_int_rmul repeat_list F.slot_int_index.lookup
  (call_meets F.slot_int_rmul (typeIs_int s k t) F.entry_int_rmul (F.args_int_rmul_2 _ _) (lm_int_rmul_list_any k t l its.toArray n dd sl)
   ⟨e,rfl,⟨_,e,rfl⟩,call_meets F.slot_list_mul ⟨_,e,rfl⟩ F.entry_list_mul (F.args_list_mul_2 _ _) (lm_list_mul_any l its.toArray n dd sl k t hfit hcap hlong) ⟨e,?_⟩⟩)
 rw [hnew]
 exact ⟨.ref _,_,I.lnew (t':=s.toks) (r.rep k.toNat) (by rw [PyProof.Rows.lm_len_rep_flat,Nat.mul_comm]; exact hz),rfl,q _ I.fresh⟩
end
end L2
namespace Vl
open PySem L2 Vm PyProof.Rows
section
variable {C:Cn} {cm:Bool} {k:Nat} {N:List Str} {sc:Scope} {a b:Expr} {A B:EX} {pos:Pos} {X:Cx}
theorem de_mul2(ha:DE C cm k N sc a A)(hb:DE C cm k N sc b B):DE C cm k N sc (.BinOp a .Mult b pos) (eMul2 A B):=by
 obtain ⟨ta,pa,qa⟩:=ha
 obtain ⟨tb,pb,qb⟩:=hb
 refine ⟨fun W=>tOp (fun x y H Q=>rMulL C.K x y H Q ∨ rMulT C.K x y H Q ∨ rI (fun i j=>mulOk i j=true) (fun i j=>.int (i * j)) x y H Q) (ta W) (tb W),fun X S W T=>by rw [← S.K]; exact pe_op (op_mulL.or (op_mulT.or op_mulV)) (pa X S W T) (pb X S W T),fun W σ Γ F0 H0 F H Q g h=>?_⟩
 refine qa W σ Γ F0 H0 F H _ g (EOk.bind h fun x v F1 H1 ex e1 r1 h1=>?_)
 refine qb W σ Γ F0 H0 F1 H1 _ (g.next e1) (EOk.bind (h1.next e1) fun y u F2 H2 ey e2 r2 h2=>?_)
 have h3:=h2.next e2
 have rx:=r1.ext e2
 have ex':=rx.rep e2.fh
 have ey':=r2.rep e2.fh
 obtain ⟨t,p⟩:=x
 obtain ⟨t',q⟩:=y
 have fin:Ext F2 H2 F2 H2:=Ext.refl e2.fh e2.tp
 cases q with
 | int j =>
  unfold Rep at ey'
  subst ey'
  cases p with
  | int i =>
   unfold Rep at ex'
   subst ex'
   have h4:EOk C W σ F2 H2 Q ((if mulOk i j then .ok (.int (i * j)) else .bad:Res PV).bind fzv):=h3
   by_cases hm:mulOk i j=true
   ·rw [if_pos hm] at h4
    exact .inr (.inr ⟨i,j,rfl,rfl,hm,h4 _ F2 H2 fin (.fz rep_int)⟩)
   ·rw [if_neg hm] at h4; exact h4.elim
  | lst l =>
   have h4:EOk C W σ F2 H2 Q (if flat1 t && repOk l.length j then .ok (.ow 1,.lst (List.replicate j.toNat l).flatten) else .bad):=h3
   by_cases hc:(flat1 t && repOk l.length j)=true
   ·rw [if_pos hc] at h4
    rw [Bool.and_eq_true] at hc
    have hc2:=repOk_iff.mp hc.2
    obtain ⟨ad,vs,rfl,s5,r3⟩:=rv_flat e2.fh rx hc.1
    refine .inl ⟨_,j,vs,rfl,rfl,s5,by omega,by omega,by rw [r3.len,← szL_eq]; exact hc2.2.2,fun p hp=>?_⟩
    exact h4 _ F2 _ (Ext.lst e2.fh e2.tp hp) (rv_new (rep_flat r3 j.toNat) upd_same (e2.fh.free hp) hp)
   ·rw [if_neg hc] at h4; exact h4.elim
  | tup l =>
   have h4:EOk C W σ F2 H2 Q (if repT l.length j then .ok (.fz,.tup (List.replicate j.toNat l).flatten) else .bad):=h3
   by_cases hc:repT l.length j=true
   ·rw [if_pos hc] at h4
    unfold repT at hc
    rw [Bool.and_eq_true,Bool.and_eq_true,decide_eq_true_iff,decide_eq_true_iff,decide_eq_true_iff] at hc
    obtain ⟨ad,vs,rfl,s2,r3⟩:=rv_tup rx
    refine .inr (.inl ⟨ad,j,vs,rfl,rfl,(TupAt.sq (TupAt.mono e2.fh s2)),hc.1.2,hc.1.1,by rw [r3.len]; exact hc.2,fun z=>?_,fun _ _ p o hp hd=>?_⟩)
    ·have e:(List.replicate j.toNat l).flatten=l:=by
      rcases z with z | z
      ·subst z
       have hl:l=[]:=List.eq_nil_of_length_eq_zero (by have:=r3.len; simpa using this.symm)
       subst hl
       simp
      ·subst z; simp
     rw [e] at h4
     refine h4 _ F2 H2 fin (.fz ?_)
     unfold Rep
     exact ⟨ad,vs,rfl,s2,r3⟩
    ·refine h4 _ (upd F2 p (tq (o,(List.replicate j.toNat vs).flatten))) _ (Ext.tup e2.fh e2.tp hp) (.fz ?_)
     unfold Rep
     exact ⟨p,_,rfl,.new hd,(rep_flat r3 j.toNat).mono (same_new (e2.fh.free hp)) _ _⟩
   ·rw [if_neg hc] at h4; exact h4.elim
  | _=>exact h3.elim
 | _=>cases p <;> exact h3.elim
end
end Vl
end
section
set_option Elab.async false
set_option linter.all false
set_option maxRecDepth 100000
set_option maxHeartbeats 1000000
namespace Vl
open PySem L2 Vm PyProof.Rows
section
variable {C:Cn} {cm:Bool} {k:Nat} {N:List Str} {sc:Scope} {a b:Expr} {A B:EX} {pos:Pos} {X:Cx}
end
end Vl
end
section
set_option Elab.async false
set_option linter.all false
set_option maxRecDepth 100000
set_option maxHeartbeats 1000000
namespace Vl
open PySem L2 Vm PyProof.Rows
section
variable {C:Cn} {cm:Bool} {k:Nat} {N:List Str} {sc:Scope} {pos np pos':Pos} {X:Cx} {d e:ST} {body suite:List Stmt} {b₀:Stmt}
def Xs(C:Cn)(j:Nat)(cs:List (Nat×Bool)):Prop:=∃ ad:Addr,C.mg (xName j)=some (.ref ad)∧∀ c b,takesC cs c=some b→PySem.W.exmOne C.K (C.xc c) (.ref ad)=some b
def XsA(C:Cn)(ad:Addr)(cs:List (Nat×Bool)):Prop:=∀ c b,takesC cs c=some b→PySem.W.exmOne C.K (C.xc c) (.ref ad)=some b
theorem XsA.nil{ad:Addr}:XsA C ad []:=fun c b h=>by cases h
theorem XsA.cons{ad a:Addr}{c:Nat}{b:Bool}{cs:List (Nat×Bool)}(hc:C.mg (xName c)=some (.ref a))(hx:PySem.W.exmOne C.K (.ref a) (.ref ad)=some b)(r:XsA C ad cs):XsA C ad ((c,b) :: cs):=fun c' b' h=>by
 unfold takesC at h
 by_cases e:c=c'
 ·subst e
  rw [List.find?_cons_of_pos (by simp)] at h
  cases h
  have e2:C.xc c = .ref a:=by show (C.mg (xName c)).getD .none=_; rw [hc]; rfl
  rw [e2]; exact hx
 ·rw [List.find?_cons_of_neg (by simpa using e)] at h
  exact r c' b' h
theorem Xs.of{ad:Addr}{j:Nat}{cs:List (Nat×Bool)}(h:C.mg (xName j)=some (.ref ad))(r:XsA C ad cs):Xs C j cs:=⟨ad,h,r⟩
end
end Vl
end
section
set_option linter.all false
set_option maxHeartbeats 1000000
namespace Vm
def isC(tab:List (Nat×Bool))(c:Nat):Bool:=((takesC tab c).getD false)
def isCs(tabs:List (List (Nat×Bool)))(c:Nat):Bool:=tabs.any fun t=>isC t c
@[simp] def eIsC (tab:List (Nat×Bool)) (c:Nat):EX:=fun _=>.ok (.fz,.bl (isC tab c))
@[simp] def eIsCs (tabs:List (List (Nat×Bool))) (c:Nat):EX:=fun _=>.ok (.fz,.bl (isCs tabs c))
@[simp] def dTryC (cs:List (Nat×Bool)) (i:Nat) (b:ST) (h:Nat→ST):ST:=fun Γ=>match b Γ with
 | .exc c Γ'=>match takesC cs c with
  | some true=>if Nat.ble (i+1) Γ'.length then match h c (Γ'.set i none) with
   | .nx Γ2=>.nx (Γ2.set i none)
   | _=>.bad
   else .bad
  | some false=>.exc c Γ'
  | none=>.bad
 | o=>o
@[simp] def dRetF (e:EX):ST:=fun Γ=>aft (e Γ) Γ fun x=>aft (putV x) Γ fun p=>.rt .fz p Γ
end Vm
end
section
set_option Elab.async false
set_option linter.all false
set_option maxRecDepth 100000
set_option maxHeartbeats 1000000
namespace Vl
open PySem L2 Vm PyProof.Rows
section
variable {C:Cn} {cm:Bool} {k i c:Nat} {N:List Str} {sc:Scope} {pos np pos' p p1 p2:Pos} {X:Cx} {d d':ST} {a b e:Expr} {es:List Expr} {A B:EX} {As:EXs} {st:Stmt} {sts:List Stmt}
def ExAt(C:Cn)(c:Nat)(X:Cx)(ad:Addr):Prop:=∃ oe,(ad,oe)∈X.pn∧Zc (C.xc c) none oe∧∃ vs,oe.data = .fields vs
variable (C k N sc) in
def DE2 (c i:Nat) (e:Expr) (E:EX):Prop:=∃ tb:Addr→WX→TE,(∀ X a,Sta C false k N sc X→ExAt C c X a→∀ W,Takes X W→PE X e (tb a W)) ∧
 ∀ a W σ Γ F0 H0 F H Q,Good C.K F0 H0 Γ σ F H→σ[i]? = some (some (.ref a))→EOk C W σ F H Q (E Γ)→tb a W σ H Q
variable (C k N sc) in
def DA2 (c i:Nat) (es:List Expr) (E:EXs):Prop:=∃ tb:Addr→WX→TA,(∀ X a,Sta C false k N sc X→ExAt C c X a→∀ W,Takes X W→PA X es (tb a W)) ∧
 ∀ a W σ Γ F0 H0 F H Q,Good C.K F0 H0 Γ σ F H→σ[i]? = some (some (.ref a))→AOk C W σ F H Q (E Γ)→tb a W σ H Q
def Ends.at(D:Ends)(i:Nat)(a:Addr):Ends:={ D with nx:=fun σ H=>σ[i]? = some (some (.ref a))→D.nx σ H }
variable (C k N sc) in
def DS2 (c i:Nat) (st:Stmt) (d:ST):Prop:=∃ tb:Addr→WX→TS,(∀ X a,StaS C false k N sc X→ExAt C c X a→∀ W,Takes X W→PS X st (tb a W)) ∧
 ∀ a W D σ Γ F0 H0 F H,GoodS C.K F0 H0 Γ σ F H→σ[i]? = some (some (.ref a))→OutOk C W F0 H0 (Ends.at D i a) (d Γ)→tb a W D σ H
variable (C k N sc) in
def DSs2 (c i:Nat) (st:List Stmt) (d:ST):Prop:=∃ tb:Addr→WX→TS,(∀ X a,StaS C false k N sc X→ExAt C c X a→∀ W,Takes X W→PSs X st (tb a W)) ∧
 ∀ a W D σ Γ F0 H0 F H,GoodS C.K F0 H0 Γ σ F H→σ[i]? = some (some (.ref a))→OutOk C W F0 H0 (Ends.at D i a) (d Γ)→tb a W D σ H
structure Iq (C:Cn) (y:Str) (tab:List (Nat×Bool)):Prop where
 ex:∃ (v:V) (u:Value),(C.mg y=some u ∨ (C.mg y=none∧bootBuiltins y=some u∧y ≠ "__name__"))∧RelV v u∧(∀ u',RelV v u'→u'=u) ∧
  ∀ c b,takesC tab c=some b→∃ D:Addr,C.xc c = .ref D∧ExcC C.K D∧PySem.W.kitOne C.K (.ref D) u=some b
def tCl:List V→TA
 | []=>tNil
 | v :: r=>tCons (tC v) (tCl r)
variable (C k N sc) in
def TCs (c:Nat) (es:List Expr) (tabs:List (List (Nat×Bool))):Prop:=∃ (vs:List V) (us:List Value),(∀ X,Sta C false k N sc X→PA X es (tCl vs))∧vs.length=tabs.length∧(∀ us',Vals vs us'→us'=us) ∧
 ∀ D,C.xc c = .ref D→PySem.W.kitAny C.K (.ref D) us=some (isCs tabs c)
theorem Iq.dd{y:Str}{tab:List (Nat×Bool)}(iq:Iq C y tab)(hc:(takesC tab c).isSome=true):∃ D,C.xc c = .ref D∧ExcC C.K D:=by
 obtain ⟨⟨v,u,hm,hr,hinj,hk⟩⟩:=iq
 obtain ⟨b,hb⟩:=Option.isSome_iff_exists.mp hc
 obtain ⟨D,hD,hE,hkit⟩:=hk c b hb
 exact ⟨D,hD,hE⟩
def IqA(C:Cn)(u:Value)(tab:List (Nat×Bool)):Prop:=∀ c b,takesC tab c=some b→∃ D:Addr,C.xc c = .ref D∧ExcC C.K D∧PySem.W.kitOne C.K (.ref D) u=some b
theorem IqA.nil{u:Value}:IqA C u []:=fun c b h=>by cases h
theorem IqA.cons{u:Value}{ad:Addr}{c:Nat}{b:Bool}{cs:List (Nat×Bool)}(hc:C.mg (xName c)=some (.ref ad))(hE:ExcC C.K ad)(hx:PySem.W.kitOne C.K (.ref ad) u=some b)(r:IqA C u cs):IqA C u ((c,b) :: cs):=fun c' b' h=>by
 unfold takesC at h
 by_cases e:c=c'
 ·subst e
  rw [List.find?_cons_of_pos (by simp)] at h
  cases h
  have e2:C.xc c = .ref ad:=by show (C.mg (xName c)).getD .none=_; rw [hc]; rfl
  exact ⟨ad,e2,hE,hx⟩
 ·rw [List.find?_cons_of_neg (by simpa using e)] at h
  exact r c' b' h
theorem good_hold{K:KK}{F0 H0 F H:Hp}{Γ:En}{σ:L2.St}{v:Option V}(g:GoodS K F0 H0 Γ σ F H)(hi:Γ.get i=none):GoodS K F0 H0 Γ (σ.set i v) F H:=by
 obtain ⟨⟨e,l,fp,h1,h2⟩,nb⟩:=g
 refine ⟨⟨e,by rw [List.length_set]; exact l,fp,fun j x hj=>?_,h2⟩,nb⟩
 obtain ⟨u,h3,h4⟩:=h1 j x hj
 refine ⟨u,?_,h4⟩
 by_cases q:i=j
 ·subst q; rw [hi] at hj; cases hj
 ·rw [List.getElem?_set_ne q]; exact h3
end
end Vl
end
section
set_option Elab.async false
set_option linter.all false
set_option maxRecDepth 100000
set_option maxHeartbeats 1000000
namespace Vl
open PySem L2 Vm PyProof.Rows
section
variable {C:Cn} {cm:Bool} {k:Nat} {N:List Str} {sc:Scope} {pos p1 p2:Pos} {X:Cx}
end
end Vl
end
section
set_option linter.all false
set_option maxHeartbeats 1000000
namespace Vm
def dicAt(ks:List (List Nat))(ps:List PV)(s:List Nat):Option PV:=((ks.zip ps).find? fun kv=>decide (kv.1=s)).map (·.2)
@[simp] def dDispRet (i:Nat) (ks:List (List Nat)) (as:EXs) (b:EX):ST:=fun Γ=>if Nat.ble (i+1) Γ.length && (Γ.get i).isNone then aft (as Γ) Γ fun xs=>aft (putVs xs) Γ fun ps=>aft (b Γ) Γ fun y=>match y.2 with
 | .str s=>(match dicAt ks ps s with
  | some p=>.rt .fz p Γ
  | none=>.bad)
 | _=>.bad
 else .bad
end Vm
end
section
set_option Elab.async false
set_option linter.all false
set_option maxRecDepth 100000
set_option maxHeartbeats 1000000
namespace Vl
open PySem L2 Vm PyProof.Rows
section
variable {C:Cn} {cm:Bool} {k i:Nat} {N:List Str} {sc:Scope} {pos p1 p2 dpos apos spos rpos:Pos} {X:Cx} {e b:Expr} {A B:EX} {As:EXs}
theorem Ext.any{F H:Hp}(h:Same F H)(t:Tups F H){p:Addr}{o:HO}(ho:∀ xs,o ≠ tq xs)(hp:H p=none):Ext F H F (upd H p o) :=
 ⟨Same.refl _,same_new hp,h.trans (same_new hp),tups_new t ho (h.free hp),fun _ q=>.inl q⟩
variable (C cm k N sc dpos) in
def DP (keys:List (Option Expr)) (values:List Expr) (ks:List Str) (As:EXs):Prop:=∃ tb:WX→List (TE×TE),(∀ X,Sta C cm k N sc X→∀ W,Takes X W→PPs X dpos keys values (tb W)) ∧
 ∀ W σ Γ F0 H0 F H (Q:List (V×V)→Hp→Prop),Good C.K F0 H0 Γ σ F H→AOk C W σ F H (fun vs H'=>vs.length=ks.length→Q ((ks.map V.str).zip vs) H') (As Γ)→tPairs (tb W) σ H Q
theorem dp_nil:DP C cm k N sc dpos [] [] [] eNil:=⟨fun _=>[],fun _ _ _ _=>pps_nil,fun W σ Γ F0 H0 F H Q g h=>h [] [] F H g.here ⟨rfl,rfl⟩ rfl⟩
theorem dp_cons{x:Str}{j:Nat}{keys:List (Option Expr)}{values:List Expr}{ks:List Str}(ha:DE C cm k N sc e A)(hs:DP C cm k N sc dpos keys values ks As):DP C cm k N sc dpos (some (.Constant (.str x) j p1) :: keys) (e :: values) (x :: ks) (eCons A As):=by
 obtain ⟨ta,pa,qa⟩:=ha
 obtain ⟨tb,pb,qb⟩:=hs
 refine ⟨fun W=>(tC (.str x),ta W) :: tb W,fun X S W T=>pps_cons pe_str (pa X S W T) (pb X S W T),fun W σ Γ F0 H0 F H Q g h=>?_⟩
 show ta W σ H _
 refine qa W σ Γ F0 H0 F H _ g ?_
 unfold eCons at h
 cases ex:A Γ with
 | exc c=>rw [ex] at h; exact h
 | bad=>rw [ex] at h; exact h
 | ok x' =>
  rw [ex,bind_ok] at h
  intro v F1 H1 e1 r1
  refine qb W σ Γ F0 H0 F1 H1 _ (g.next e1) ?_
  cases exs:As Γ with
  | exc c=>rw [exs] at h; exact fun F' H' e'=>h F' H' (e1.trans e')
  | bad=>rw [exs] at h; exact h
  | ok xs =>
   rw [exs,bind_ok] at h
   intro vs fp F2 H2 e2 r2 hl
   obtain ⟨f,rf,hf⟩:=r1.norm
   exact h (v :: vs) (f++fp) F2 H2 (e1.trans e2) ⟨v,vs,f,fp,rfl,rfl,rf.ext e2,r2.start e1.hh,fun a ha hm=>(hf a ha).2 (r2.news a hm).1,fun a ha=>⟨(hf a ha).1,fun z=>(hf a ha).2 (e2.hh.free z)⟩⟩ (by simp [hl])
theorem dp_cons'{x:Str}{j:Nat}{keys:List (Option Expr)}{values:List Expr}{ks:List (List Nat)}(l:List Nat)(ha:DE C cm k N sc e A)(hs:DP C cm k N sc dpos keys values (ks.map fun l=>(⟨l.toArray⟩:Str)) As)(hx:x=⟨l.toArray⟩:=by rfl):DP C cm k N sc dpos (some (.Constant (.str x) j p1) :: keys) (e :: values) ((l :: ks).map fun l=>(⟨l.toArray⟩:Str)) (eCons A As):=by
 subst hx
 exact dp_cons ha hs
theorem dp_nil':DP C cm k N sc dpos [] [] (([]:List (List Nat)).map fun l=>(⟨l.toArray⟩:Str)) eNil:=dp_nil
theorem putK_snoc{kvs:List (Key×V)}{p:Key×V}(h:p.1 ∉ kvs.map (·.1)):putK kvs p.1 p.2=kvs++[p]:=by
 have hn:valV kvs p.1=none:=by
  unfold valV
  rw [Option.map_eq_none_iff,List.find?_eq_none]
  intro x hx q
  exact h (List.mem_map.mpr ⟨x,hx,of_decide_eq_true q⟩)
 rw [putK_new p.2 hn]
theorem merge_new:∀ (more kvs:List (Key×V)),((kvs++more).map (·.1)).Nodup→mergeK kvs more=kvs++more
 | [],kvs,_=>by simp [mergeK]
 | p :: r,kvs,h=>by
  have hp:p.1 ∉ kvs.map (·.1):=by
   intro q
   rw [List.map_append,List.map_cons,List.nodup_append] at h
   exact h.2.2 _ q _ List.mem_cons_self rfl
  show mergeK (putK kvs p.1 p.2) r=_
  rw [putK_snoc hp,merge_new r (kvs++[p]) (by simpa using h)]
  simp
def keyS(l:List Nat):Key:=.inr ⟨l.toArray⟩
theorem keyS_inj{a b:List Nat}(h:keyS a=keyS b):a=b:=by
 have h2:=Sum.inr.inj h
 have h3:a.toArray=b.toArray:=congrArg Str.cps h2
 have:=congrArg Array.toList h3
 simpa using this
theorem look_rep{K:KK}{F:Hp}{s:List Nat}{p:PV}:∀ {ks:List (List Nat)} {ps:List PV} {vs:List V},RepL K F ps vs→((ks.zip ps).find? fun kv=>decide (kv.1=s)).map (·.2)=some p→∃ v,valV ((ks.map keyS).zip vs) (keyS s)=some v∧Rep K F p v
 | [],ps,vs,_,h=>by simp at h
 | k :: ks,[],vs,_,h=>by simp at h
 | k :: ks,q :: ps,vs,r,h=>by
  unfold RepL at r
  obtain ⟨v,r',rfl,h2,h3⟩:=r
  rw [List.zip_cons_cons] at h
  rw [List.map_cons,List.zip_cons_cons]
  by_cases e:k=s
  ·rw [List.find?_cons_of_pos (by simpa using e)] at h
   cases h
   exact ⟨v,by rw [valV_pos (show (keyS k,v).1=keyS s by rw [e])],h2⟩
  ·rw [List.find?_cons_of_neg (by simpa using e)] at h
   obtain ⟨u,a1,a2⟩:=look_rep (ks:=ks) h3 h
   exact ⟨u,by rw [valV_neg (show ¬ (keyS k,v).1=keyS s from fun z=>e (keyS_inj z))]; exact a1,a2⟩
theorem zip_kv:∀ (ks:List (List Nat)) (vs:List V),(((ks.map keyS).zip vs).map fun kv:Key×V=>(kV kv.1,kv.2))=((ks.map fun l=>(⟨l.toArray⟩:Str)).map V.str).zip vs
 | [],vs=>by simp
 | k :: ks,[]=>by simp
 | k :: ks,v :: vs=>by
  simp only [List.map_cons,List.zip_cons_cons]
  rw [zip_kv ks vs]
  rfl
theorem ds_dispRet {x:Str} {pos':Pos} {keys:List (Option Expr)} {values:List Expr} (i:Nat) (ks:List (List Nat)) (hp:DP C cm k N sc dpos keys values (ks.map fun l=>(⟨l.toArray⟩:Str)) As) (hb:DE C cm k N sc b B) (hall:keys.all (·.isSome)=true:=by rfl) (hkl:keys.length=values.length:=by rfl) (h0:keys ≠ []:=by exact List.cons_ne_nil _ _) (h15:keys.length≤15:=by decide) (hk15:ks.length≤15:=by decide) (hnd:ks.Nodup:=by decide)
  (hi:N[i]? = some x:=by rfl) (hx:Loc sc x:=by first | exact Or.inl rfl | exact Or.inr rfl) (hv:Vis sc x:=by first | exact Or.inl rfl | exact Or.inr (Or.inl rfl) | exact Or.inr (Or.inr rfl)) (hd:(x == ("__debug__":Str))=false:=by decide) (hcd:(x == ("__classdict__":Str))=false:=by decide)
  (hs:∀ env:PySem.Env,env.scope=sc→swapsWith (.Dict keys values dpos) (some (.Name x pos')) apos.line env=pure false:=by intro env _; rfl) (hns:NoSl b:=by exact fun _ _=>rfl) :
  DSs C cm k N sc [.Assign [.Name x pos'] (.Dict keys values dpos) apos,.Return (some (.Subscript (.Name x p1) b spos)) rpos] (dDispRet i ks As B):=by
 obtain ⟨tp,pp,qp⟩:=hp
 obtain ⟨tb,pb,qb⟩:=hb
 refine ⟨fun W=>tSeq (tAsg (tDisp (tp W)) (gName i)) (tRet (tDGet (tVar i) (tb W))),fun X S W T=>pss_cons (ps_set (by rw [S.n]; exact S.nd) (by rw [S.n]; exact hi) (by rw [S.s]; exact hx) (pe_disp (pp X S.toSta W T) hall hkl h0 h15) (hs _ S.s) (by
  rcases hx with hx | hx
  ·exact .inr (by rw [S.s]; exact hx)
  ·exact .inl (S.rq _ hx))) (pss_one (ps_ret (pe_dget (by have:=S.u; omega) (pe_var (by rw [S.n]; exact hi) (by rw [S.s]; exact hv) hd hcd) (pb X S.toSta W T) hns))),fun W D σ Γ F0 H0 F H g h=>?_⟩
 have h:OutOk C W F0 H0 D (dDispRet i ks As B Γ):=h
 unfold dDispRet at h
 by_cases hc:(Nat.ble (i+1) Γ.length && (Γ.get i).isNone)=true
 ·rw [if_pos hc] at h
  rw [Bool.and_eq_true] at hc
  have hlt:i < σ.length:=by rw [← g.len]; exact Nat.le_of_ble_eq_true hc.1
  have hno:Γ.get i=none:=Option.isNone_iff_eq_none.mp hc.2
  show tDisp (tp W) σ H fun v H1=>tRet (tDGet (tVar i) (tb W)) D (σ.set i (some v)) H1
  intro p hp
  have e0:Ext F H F (upd H p (.dK [])):=Ext.any g.ext.fh g.ext.tp (fun _ z=>by cases z) hp
  refine qp W σ Γ F0 H0 F (upd H p (.dK [])) _ (g.toGood.next e0) ?_
  cases eA:As Γ with
  | bad=>rw [eA] at h; exact h.elim
  | exc c=>rw [eA] at h; exact fun F' H' e'=>h σ F' H' (g.next (e0.trans e'))
  | ok xs =>
   rw [eA,after_ok] at h
   intro vs fp F2 H2 e2 rvs hlen
   have hH2:H2 p=some (.dK []):=e2.hh _ _ upd_same
   refine ⟨hH2,(ks.map keyS).zip vs,(zip_kv ks vs).symm,by rw [List.length_zip,List.length_map]; omega,?_⟩
   have hmk:mergeK [] ((ks.map keyS).zip vs)=(ks.map keyS).zip vs:=by
    rw [merge_new _ [] ?_,List.nil_append]
    rw [List.nil_append,List.map_fst_zip (by rw [List.length_map] at hlen ⊢; omega)]
    exact List.pairwise_map.mpr (hnd.imp fun h z=>h (keyS_inj z))
   rw [hmk]
   cases hps:putVs xs with
   | exc c=>exact (putVs_noexc hps).elim
   | bad=>rw [hps] at h; exact h.elim
   | ok ps =>
    rw [hps,after_ok] at h
    obtain ⟨F3,e3,s3,r3,_⟩:=RVs.put e2 rvs hps
    have hF3:F3 p=none:=by
     cases z:F3 p with
     | none=>rfl
     | some o =>
      rcases e3.nw p (by rw [z]; simp) with q | q
      ·exact absurd (g.ext.fh.free hp) q
      ·rw [upd_same] at q; cases q
    have eX:Ext F H F3 (upd H2 p (.dK ((ks.map keyS).zip vs))):=by
     refine ⟨e3.ff,fun a o z=>?_,fun a o z=>?_,?_,fun a z=>?_⟩
     ·have ha:a ≠ p:=fun q=>by subst q; rw [hp] at z; cases z
      rw [upd_ne ha]
      exact e2.hh _ _ (by rw [upd_ne ha]; exact z)
     ·have ha:a ≠ p:=fun q=>by subst q; rw [hF3] at z; cases z
      rw [upd_ne ha]
      exact e3.fh _ _ z
     ·exact tups_new e3.tp (fun _ z=>by cases z) hF3
     ·rcases e3.nw a z with q | q
      ·exact .inl q
      ·by_cases ha:a=p
       ·subst ha; exact .inr hp
       ·rw [upd_ne ha] at q; exact .inr q
    have g':GoodS C.K F0 H0 Γ (σ.set i (some (.ref p))) F3 (upd H2 p (.dK ((ks.map keyS).zip vs))):=good_hold (g.next eX) hno
    refine ⟨.ref p,List.getElem?_set_self hlt,?_⟩
    refine qb W _ Γ F0 H0 _ _ _ g'.toGood ?_
    cases eB:B Γ with
    | bad=>rw [eB] at h; exact h.elim
    | exc c =>
     rw [eB] at h
     exact fun F' H' e'=>h _ F' H' (g'.next e')
    | ok y =>
     rw [eB,after_ok] at h
     intro yv F4 H4 e4 ry
     have ry':=ry.rep e4.fh
     obtain ⟨ty,py⟩:=y
     cases py with
     | str s =>
      simp only at h
      unfold Rep at ry'
      obtain ⟨rfl,_⟩:=ry'
      cases hf:dicAt ks ps s with
      | none=>rw [hf] at h; exact h.elim
      | some kv =>
       rw [hf] at h
       obtain ⟨v,w1,w2⟩:=look_rep (ks:=ks) r3 hf
       refine ⟨p,v,rfl,.inl ⟨(ks.map keyS).zip vs,keyS s,.inl (e4.hh _ _ upd_same),rfl,w1.symm⟩,?_⟩
       exact h v F4 H4 (g'.ext.trans e4) (.fz (Rep.mono e4.ff _ _ w2))
     | _=>exact h.elim
 ·rw [if_neg hc] at h; exact h.elim
end
end Vl
end
section
set_option linter.all false
set_option maxHeartbeats 1000000
namespace Vm
def tgEq:Tg→Tg→Bool
 | .fz,.fz=>true
 | .ow a,.ow b=>a == b
 | .bw a,.bw b=>a == b
 | _,_=>false
theorem tgEq_eq:∀ {a b:Tg},tgEq a b=true→a=b
 | .fz,.fz,_=>rfl
 | .ow a,.ow b,h=>by rw [eq_of_beq h]
 | .bw a,.bw b,h=>by rw [eq_of_beq h]
 | .fz,.ow _,h=>by cases h
 | .fz,.bw _,h=>by cases h
 | .ow _,.fz,h=>by cases h
 | .ow _,.bw _,h=>by cases h
 | .bw _,.fz,h=>by cases h
 | .bw _,.ow _,h=>by cases h
@[simp] def isOw:Tg→Bool
 | .ow _=>true
 | _=>false
def takeA(Γ:En):List (Nat×Tg)→Option (List PV)
 | []=>some []
 | (j,t) :: r=>match Γ.get j with
  | some (t',p)=>if tgEq t' t then (takeA Γ r).map (p :: ·) else none
  | none=>none
def putA(Γ:En):List (Nat×Tg)→List PV→En
 | (j,.ow d) :: r,p :: ps=>putA (Γ.set j (some (.ow d,p))) r ps
 | (_,_) :: r,_ :: ps=>putA Γ r ps
 | _,_=>Γ
def startM(ts:List Tg)(ps:List PV):En:=(ts.zip ps).map some
def readA(Γ:En):Nat→List Tg→List PV→Res (List PV)
 | _,[],[]=>.ok []
 | i,.ow d :: ts,_ :: ps=>match Γ.get i with
  | some (t,p)=>if tgEq t (.ow d) then (readA Γ (i+1) ts ps).bind fun r=>.ok (p :: r) else .bad
  | none=>.bad
 | i,_ :: ts,p :: ps=>(readA Γ (i+1) ts ps).bind fun r=>.ok (p :: r)
 | _,_,_=>.bad
abbrev FM:=List PV→Res (List PV)
def runM(ts:List Tg)(ns:Nat)(body:ST):FM:=fun args=>if args.length=ts.length then
  match body (startM ts args++List.replicate (ns - ts.length) none) with
  | .nx Γ=>readA Γ 0 ts args
  | _=>.bad
 else .bad
def dCallM(f:FM)(js:List (Nat×Tg)):ST:=fun Γ=>match takeA Γ js with
 | some ps=>(match f ps with
  | .ok news=>.nx (putA Γ js news)
  | _=>.bad)
 | none=>.bad
end Vm
end
section
set_option Elab.async false
set_option linter.all false
set_option maxRecDepth 100000
set_option maxHeartbeats 1000000
namespace Vl
open PySem L2 Vm PyProof.Rows
def OutK(C:Cn)(F0 H0:Hp)(D:Ends)(keep:List Nat)(σ0:L2.St):Out→Prop
 | .nx Γ=>∀ σ F H,GoodS C.K F0 H0 Γ σ F H→(∀ i∈keep,σ[i]? = σ0[i]?)→D.nx σ H
 | .bk Γ=>∀ σ F H,GoodS C.K F0 H0 Γ σ F H→(∀ i∈keep,σ[i]? = σ0[i]?)→D.bk σ H
 | .ct Γ=>∀ σ F H,GoodS C.K F0 H0 Γ σ F H→(∀ i∈keep,σ[i]? = σ0[i]?)→D.ct σ H
 | _=>False
def OutT(C:Cn)(F0 H0:Hp)(D:Ends)(keep:List Nat)(σ0:L2.St):Out→Prop
 | .nx Γ=>∀ σ F H,GoodS C.K F0 H0 Γ σ F H→(∀ i∈keep,σ[i]? = σ0[i]?)→D.nx σ H∧D.rt .non H
 | _=>False
def DSK(keep:List Nat)(C:Cn)(cm:Bool)(k:Nat)(N:List Str)(sc:Scope)(st:Stmt)(d:ST):Prop:=∃ tb:WX→TS,(∀ X,StaS C cm k N sc X→∀ W,Takes X W→PS X st (tb W)) ∧
 ∀ W D σ Γ F0 H0 F H,GoodS C.K F0 H0 Γ σ F H→OutK C F0 H0 D keep σ (d Γ)→tb W D σ H
def DSsK(keep:List Nat)(C:Cn)(cm:Bool)(k:Nat)(N:List Str)(sc:Scope)(st:List Stmt)(d:ST):Prop:=∃ tb:WX→TS,(∀ X,StaS C cm k N sc X→∀ W,Takes X W→PSs X st (tb W)) ∧
 ∀ W D σ Γ F0 H0 F H,GoodS C.K F0 H0 Γ σ F H→OutK C F0 H0 D keep σ (d Γ)→tb W D σ H
def DSsT(keep:List Nat)(C:Cn)(cm:Bool)(k:Nat)(N:List Str)(sc:Scope)(st:List Stmt)(d:ST):Prop:=∃ tb:WX→TS,(∀ X,StaS C cm k N sc X→∀ W,Takes X W→PSs X st (tb W)) ∧
 ∀ W D σ Γ F0 H0 F H,GoodS C.K F0 H0 Γ σ F H→OutT C F0 H0 D keep σ (d Γ)→tb W D σ H
section
variable {C:Cn} {cm:Bool} {k:Nat} {N:List Str} {sc so:Scope} {a b c e o tg:Expr} {es:List Expr} {A B:EX} {As:EXs} {T U:TX} {pos p tpos apos cpos p1:Pos} {X:Cx} {x:Str} {st:Stmt} {sts:List Stmt} {d d':ST} {keep:List Nat}
variable {F0 H0 F H F1 H1:Hp} {Γ:En} {σ:L2.St} {W:WX} {D:Ends}
theorem OutK.bind{f:TV→Out}{Q1:VK}{r:Res TV}(g:GoodS C.K F0 H0 Γ σ F H)(h:OutK C F0 H0 D keep σ (aft r Γ f))
  (q:∀ x v F1 H1,r = .ok x→Ext F H F1 H1→RV C.K F1 H1 H x v→OutK C F0 H0 D keep σ (f x)→Q1 v H1):EOk C W σ F H Q1 r:=by
 cases r with
 | ok x=>exact fun v F' H' e rv=>q x v F' H' rfl e rv h
 | exc c=>exact h.elim
 | bad=>exact h
theorem OutK.bindT{f:Bool→Out}{Q1:Bool→Hp→Prop}{r:Res Bool}(g:GoodS C.K F0 H0 Γ σ F H)(h:OutK C F0 H0 D keep σ (aft r Γ f))
  (q:∀ x F1 H1,r = .ok x→Ext F H F1 H1→OutK C F0 H0 D keep σ (f x)→Q1 x H1):TOk C W σ F H Q1 r:=by
 cases r with
 | ok x=>exact fun F' H' e=>q x F' H' rfl e h
 | exc c=>exact h.elim
 | bad=>exact h
theorem dsk_one(h:DSK keep C cm k N sc st d):DSsK keep C cm k N sc [st] d:=by
 obtain ⟨tb,pb,qb⟩:=h
 exact ⟨tb,fun X S W T=>pss_one (pb X S W T),qb⟩
theorem dsk_cons(h1:DSK keep C cm k N sc st d)(h2:DSsK keep C cm k N sc sts d'):DSsK keep C cm k N sc (st :: sts) (dSeq d d'):=by
 obtain ⟨ta,pa,qa⟩:=h1
 obtain ⟨tb,pb,qb⟩:=h2
 refine ⟨fun W=>tSeq (ta W) (tb W),fun X S W T=>pss_cons (pa X S W T) (pb X S W T),fun W D σ Γ F0 H0 F H g h=>?_⟩
 refine qa W _ σ Γ F0 H0 F H g ?_
 unfold dSeq at h
 cases e:d Γ with
 | nx Γ' =>
  rw [e] at h
  intro σ' F' H' g' k'
  have h:OutK C F0 H0 D keep σ (d' Γ'):=h
  refine qb W D σ' Γ' F0 H0 F' H' g' ?_
  cases e2:d' Γ' with
  | nx Γ2=>rw [e2] at h; exact fun σ2 F2 H2 g2 k2=>h σ2 F2 H2 g2 fun i hi=>(k2 i hi).trans (k' i hi)
  | bk Γ2=>rw [e2] at h; exact fun σ2 F2 H2 g2 k2=>h σ2 F2 H2 g2 fun i hi=>(k2 i hi).trans (k' i hi)
  | ct Γ2=>rw [e2] at h; exact fun σ2 F2 H2 g2 k2=>h σ2 F2 H2 g2 fun i hi=>(k2 i hi).trans (k' i hi)
  | _=>rw [e2] at h; exact h.elim
 | rt t p Γr=>rw [e] at h; exact h
 | bk Γ'=>rw [e] at h; exact h
 | ct Γ'=>rw [e] at h; exact h
 | exc c Γ'=>rw [e] at h; exact h
 | bad=>rw [e] at h; exact h
theorem dst_of(h1:DSsK keep C cm k N sc sts d):DSsT keep C cm k N sc sts d:=by
 obtain ⟨ta,pa,qa⟩:=h1
 refine ⟨ta,pa,fun W D σ Γ F0 H0 F H g h=>qa W D σ Γ F0 H0 F H g ?_⟩
 cases e:d Γ with
 | nx Γ'=>rw [e] at h; exact fun σ' F' H' g' k'=>(h σ' F' H' g' k').1
 | _=>rw [e] at h; exact h.elim
theorem dsk_if{s1 s2:List Stmt}{d1 d2:ST}(ht:DT C cm k N sc c T)(h1:DSsK keep C cm k N sc s1 d1)(h2:DSsK keep C cm k N sc s2 d2):DSK keep C cm k N sc (.If c s1 s2 pos) (dIf T d1 d2):=by
 obtain ⟨tc,pc,qc⟩:=ht
 obtain ⟨ta,pa,qa⟩:=h1
 obtain ⟨tb,pb,qb⟩:=h2
 refine ⟨fun W=>tIfS (tc W) (ta W) (tb W),fun X S W T=>ps_if (pc X S.toSta W T) (pa X S W T) (pb X S W T),fun W D σ Γ F0 H0 F H g h=>?_⟩
 refine qc W σ Γ F0 H0 F H _ g.toGood (OutK.bindT g h fun b F1 H1 eb e1 h1=>?_)
 cases b with
 | true=>exact iteT (qa W D σ Γ F0 H0 F1 H1 (g.next e1) h1)
 | false=>exact iteF (qb W D σ Γ F0 H0 F1 H1 (g.next e1) h1)
theorem dsk_set(i:Nat)(hk:i ∉ keep:=by decide){x:Str}{pos':Pos}(he:DE C cm k N sc e A)(hi:N[i]? = some x:=by rfl)(hx:Loc sc x:=by first | exact Or.inl rfl | exact Or.inr rfl)
  (hs:∀ env:PySem.Env,env.scope=sc→swapsWith e (some (.Name x pos')) pos.line env=pure false:=by intro env _; rfl):DSK keep C cm k N sc (.Assign [.Name x pos'] e pos) (dSet i A):=by
 obtain ⟨ta,pa,qa⟩:=he
 refine ⟨fun W=>tAsg (ta W) (gName i),fun X S W T=>ps_set (by rw [S.n]; exact S.nd) (by rw [S.n]; exact hi) (by rw [S.s]; exact hx) (pa X S.toSta W T) (hs _ S.s) (by
  rcases hx with hx | hx
  ·exact .inr (by rw [S.s]; exact hx)
  ·exact .inl (S.rq _ hx)),fun W D σ Γ F0 H0 F H g h=>?_⟩
 refine qa W σ Γ F0 H0 F H _ g.toGood (OutK.bind g h fun x v F1 H1 ex e1 r1 h1=>?_)
 cases hp:putV x with
 | ok p =>
  rw [hp,after_ok] at h1
  obtain ⟨F2,e2,r2⟩:=r1.put e1 hp
  exact h1 _ F2 H1 ((g.next e2).setF i r2) (fun j hj=>List.getElem?_set_ne (by intro z; subst z; exact hk hj))
 | exc c=>exact (put_noexc hp).elim
 | bad=>rw [hp] at h1; exact h1.elim
theorem dsk_app (i:Nat) {x:Str} {apos cpos p1:Pos} (he:DE C cm k N sc e A) (hN:N[i]? = some x:=by rfl) (hv:Vis sc x:=by first | exact Or.inl rfl | exact Or.inr (Or.inl rfl) | exact Or.inr (Or.inr rfl)) (hd:(x == ("__debug__":Str))=false:=by decide)
  (hcd:(x == ("__classdict__":Str))=false:=by decide) (hbase:∀ env:PySem.Env,attributeBase (.Name x p1) "append" env (eval (.Name x p1) env)=eval (.Name x p1) env:=by intro _; rfl)
  (hfew:∀ env:PySem.Env,((backTo cpos (starEach [e] env)).all (fun x=>!x.1) && (backToKw cpos (keywordEach [] env)).all (fun x=>x.1.isSome)
   && decide (([e]).length+([]:List Keyword).length+(if ([]:List Keyword).isEmpty then 0 else 1) < 30))=true:=by intro _; rfl)
  (hline:(apos.endLine == cpos.line)=true:=by rfl) (hst:∀ env:PySem.Env,starEach [e] env=(false,eval e env) :: starEach [] env:=by intro _; rfl) (hs:∀ env:PySem.Env,swapsWith (.Call (.Attribute (.Name x p1) "append" apos) [e] [] cpos) none pos.line env=pure false:=by intro _; rfl) :
  DSK keep C cm k N sc (.Expr (.Call (.Attribute (.Name x p1) "append" apos) [e] [] cpos) pos) (dApp i A):=by
 obtain ⟨ta,pa,qa⟩:=he
 refine ⟨fun W=>tDrop (tBM C.K "list" rAppend (tVar i) (tCons (ta W) tNil)),fun X S W T=>by rw [← S.K]; exact ps_expr (pe_bm PySem.F.plainAttrs_list PySem.F.slot_list_append PySem.F.type_list_append mt_append (pe_var (by rw [S.n]; exact hN) (by rw [S.s]; exact hv) hd hcd) (pa_cons (pa X S.toSta W T) pa_nil (hst _)) (hbase _) (hfew _) hline (hst _) rfl) (hs _),fun W D σ Γ F0 H0 F H g h=>?_⟩
 unfold dApp at h
 split at h
 ·rename_i l eg
  obtain ⟨ad,vs,hv',hH,rl,f1,f2,go⟩:=good_mod g eg
  refine ⟨.ref ad,hv',.inl ⟨rfl,vs,SqL.of hH⟩,qa W σ Γ F0 H0 F H _ g.toGood (OutK.bind g h fun x v F1 H1 ex e1 rv h=>?_)⟩
  cases hp:putV x with
  | exc c=>exact (put_noexc hp).elim
  | bad=>rw [hp] at h; exact h.elim
  | ok p =>
   rw [hp,after_ok] at h
   by_cases hz:l.length < 16777216
   ·rw [if_pos hz] at h
    obtain ⟨F2,e2,r2⟩:=rv.put e1 hp
    obtain ⟨gg,hH2⟩:=go e2 ((rl.mono e2.ff _ _).append (RepL.cons r2 RepL.nil))
    exact ⟨ad,vs,v,rfl,rfl,hH2,by rw [rl.len,← szL_eq]; exact hz,h σ _ _ gg (fun _ _=>rfl)⟩
   ·rw [if_neg hz] at h; exact h.elim
 ·exact h.elim
theorem dsk_ext (i:Nat) (he:DE C cm k N sc e A) (hN:N[i]? = some x:=by rfl) (hv:Vis sc x:=by first | exact Or.inl rfl | exact Or.inr (Or.inl rfl) | exact Or.inr (Or.inr rfl)) (hd:(x == ("__debug__":Str))=false:=by decide)
  (hcd:(x == ("__classdict__":Str))=false:=by decide) (hbase:∀ env:PySem.Env,attributeBase (.Name x p1) "extend" env (eval (.Name x p1) env)=eval (.Name x p1) env:=by intro _; rfl)
  (hfew:∀ env:PySem.Env,((backTo cpos (starEach [e] env)).all (fun x=>!x.1) && (backToKw cpos (keywordEach [] env)).all (fun x=>x.1.isSome)
   && decide (([e]).length+([]:List Keyword).length+(if ([]:List Keyword).isEmpty then 0 else 1) < 30))=true:=by intro _; rfl)
  (hline:(apos.endLine == cpos.line)=true:=by rfl) (hst:∀ env:PySem.Env,starEach [e] env=(false,eval e env) :: starEach [] env:=by intro _; rfl) (hs:∀ env:PySem.Env,swapsWith (.Call (.Attribute (.Name x p1) "extend" apos) [e] [] cpos) none pos.line env=pure false:=by intro _; rfl) :
  DSK keep C cm k N sc (.Expr (.Call (.Attribute (.Name x p1) "extend" apos) [e] [] cpos) pos) (dExt i A):=by
 obtain ⟨ta,pa,qa⟩:=he
 refine ⟨fun W=>tDrop (tBM C.K "list" (rExtG C.K) (tVar i) (tCons (ta W) tNil)),fun X S W T=>by rw [← S.K]; exact ps_expr (pe_bm PySem.F.plainAttrs_list PySem.F.slot_list_extend PySem.F.type_list_extend mt_extG (pe_var (by rw [S.n]; exact hN) (by rw [S.s]; exact hv) hd hcd) (pa_cons (pa X S.toSta W T) pa_nil (hst _)) (hbase _) (hfew _) hline (hst _) rfl) (hs _),fun W D σ Γ F0 H0 F H g h=>?_⟩
 unfold dExt at h
 split at h
 ·rename_i l eg
  obtain ⟨ad,vs,hv',hH,rl,f1,f2,go⟩:=good_mod g eg
  refine ⟨.ref ad,hv',.inl ⟨rfl,vs,SqL.of hH⟩,qa W σ Γ F0 H0 F H _ g.toGood (OutK.bind g h fun y v F1 H1 ex e1 rv h=>?_)⟩
  obtain ⟨t,q⟩:=y
  cases q with
  | lst m =>
   simp only at h
   by_cases hz:(flat1 t && decide (l.length+m.length≤16777216))=true
   ·rw [if_pos hz] at h
    rw [Bool.and_eq_true,decide_eq_true_eq] at hz
    obtain ⟨ad2,us,rfl,s2,r2⟩:=rv_flat e1.fh rv hz.1
    obtain ⟨gg,hH2⟩:=go e1 ((rl.mono e1.ff _ _).append r2)
    exact ⟨ad,ad2,vs,us,rfl,rfl,hH2,.inl s2,by rw [rl.len,r2.len,← szL_eq]; exact hz.2,h σ _ _ gg (fun _ _=>rfl)⟩
   ·rw [if_neg hz] at h; exact h.elim
  | tup m =>
   simp only at h
   by_cases hz:l.length+m.length≤16777216
   ·rw [if_pos hz] at h
    obtain ⟨ad2,us,rfl,s2,r2⟩:=rv_tup rv
    obtain ⟨gg,hH2⟩:=go e1 ((rl.mono e1.ff _ _).append r2)
    exact ⟨ad,ad2,vs,us,rfl,rfl,hH2,.inr ((TupAt.sq (TupAt.mono e1.fh s2))),by rw [rl.len,r2.len,← szL_eq]; exact hz,h σ _ _ gg (fun _ _=>rfl)⟩
   ·rw [if_neg hz] at h; exact h.elim
  | _=>exact h.elim
 ·exact h.elim
end
def spM(C:Cn)(ts:List Tg)(f:FM):Sp:=fun vs H Q E=>∃ F H0 ps,ps.length=ts.length∧vs.length=ts.length∧GoodS C.K F H0 (startM ts ps) (vs.map some) F H∧match f ps with
 | .ok news=>∀ F' H',news.length=ts.length→GoodS C.K F H0 (startM ts news) (vs.map some) F' H'→Q .non H'
 | _=>False
structure CalM (C:Cn) (x:Str) (k:Nat) (ts:List Tg) (f:FM):Prop where
 ex:∃ ad fd ps,ps.length=ts.length∧FnOk C.P C.w C.K C.mg C.base (L2.CX C.P C.w) k ad fd ps (spM C ts f)∧PySem.W.keepIn C.K (.ref ad)=true∧Binds C.K fd ps []∧C.mg x=some (.ref ad)
theorem get_start{ts:List Tg}{ps:List PV}{i:Nat}{x:TV}(h:En.get (startM ts ps) i=some x):ts[i]? = some x.1∧ps[i]? = some x.2:=by
 unfold En.get startM at h
 rw [List.getD,List.getElem?_map] at h
 cases q:(ts.zip ps)[i]? with
 | none=>rw [q] at h; cases h
 | some y =>
  rw [q] at h
  cases h
  rw [List.getElem?_zip_eq_some] at q
  exact q
theorem start_get{ts:List Tg}{ps:List PV}{i:Nat}{t:Tg}{p:PV}(h1:ts[i]? = some t)(h2:ps[i]? = some p):En.get (startM ts ps) i=some (t,p):=by
 have q:(ts.zip ps)[i]? = some (t,p):=List.getElem?_zip_eq_some.mpr ⟨h1,h2⟩
 unfold En.get startM
 rw [List.getD,List.getElem?_map,q]
 rfl
theorem read_spec{Γ:En}:∀ {i:Nat} {ts:List Tg} {ps news:List PV},readA Γ i ts ps = .ok news→news.length=ts.length∧∀ (j:Nat) (t:Tg) (p:PV),ts[j]? = some t→news[j]? = some p→(isOw t=true→Γ.get (i+j)=some (t,p))∧(isOw t=false→ps[j]? = some p)
 | i,[],[],news,h=>by cases h; exact ⟨rfl,fun j t p h=>by simp at h⟩
 | i,[],_ :: _,news,h=>by cases h
 | i,t :: ts,[],news,h=>by cases t <;> cases h
 | i,t :: ts,q :: ps,news,h=>by
  cases t with
  | ow d =>
   unfold readA at h
   cases e:Γ.get i with
   | none=>rw [e] at h; cases h
   | some y =>
    obtain ⟨t',p⟩:=y
    rw [e] at h
    simp only at h
    by_cases ht:tgEq t' (.ow d)=true
    ·rw [if_pos ht] at h
     cases e2:readA Γ (i+1) ts ps with
     | ok r =>
      rw [e2,bind_ok] at h
      cases h
      obtain ⟨a,b⟩:=read_spec e2
      refine ⟨by simp [a],fun j t2 p2 h1 h2=>?_⟩
      cases j with
      | zero =>
       simp at h1 h2
       subst h1 h2
       exact ⟨fun _=>by rw [Nat.add_zero,e,tgEq_eq ht],(fun z=>nomatch z)⟩
      | succ j =>
       have:=b j t2 p2 (by simpa using h1) (by simpa using h2)
       rw [show i+(j+1)=i+1+j by omega]
       exact ⟨this.1,fun z=>by simpa using this.2 z⟩
     | exc c=>rw [e2] at h; cases h
     | bad=>rw [e2] at h; cases h
    ·rw [if_neg ht] at h; cases h
  | fz =>
   unfold readA at h
   cases e2:readA Γ (i+1) ts ps with
   | ok r =>
    rw [e2,bind_ok] at h
    cases h
    obtain ⟨a,b⟩:=read_spec e2
    refine ⟨by simp [a],fun j t2 p2 h1 h2=>?_⟩
    cases j with
    | zero =>
     simp at h1 h2
     subst h1 h2
     exact ⟨(fun z=>nomatch z),(fun _=>by simp)⟩
    | succ j =>
     have:=b j t2 p2 (by simpa using h1) (by simpa using h2)
     rw [show i+(j+1)=i+1+j by omega]
     exact ⟨this.1,fun z=>by simpa using this.2 z⟩
   | exc c=>rw [e2] at h; cases h
   | bad=>rw [e2] at h; cases h
  | bw d =>
   unfold readA at h
   cases e2:readA Γ (i+1) ts ps with
   | ok r =>
    rw [e2,bind_ok] at h
    cases h
    obtain ⟨a,b⟩:=read_spec e2
    refine ⟨by simp [a],fun j t2 p2 h1 h2=>?_⟩
    cases j with
    | zero =>
     simp at h1 h2
     subst h1 h2
     exact ⟨(fun z=>nomatch z),(fun _=>by simp)⟩
    | succ j =>
     have:=b j t2 p2 (by simpa using h1) (by simpa using h2)
     rw [show i+(j+1)=i+1+j by omega]
     exact ⟨this.1,fun z=>by simpa using this.2 z⟩
   | exc c=>rw [e2] at h; cases h
   | bad=>rw [e2] at h; cases h
section
variable {C:Cn} {k:Nat} {N:List Str} {sc:Scope} {st:Stmt}
theorem fnM_ok{x:Str}{ad:Addr}{fd:FuncData}{ps:List Str}{ns j:Nat}{ts:List Tg}{keep:List Nat}{d:ST}(F:Fun C.K x x st ad fd)(S:FnScope N ps (defScope st))(hp:ps.length=ts.length)(hN:N.length=ns)(hm:C.mg x=some (.ref ad))(hb:Binds C.K fd ps [])
  (body:DSsT keep C true j N (defScope st) (defBody st) d)(hkeep:∀ i,(ts[i]?.map isOw).getD false=true→i∈keep):CalM C x (j+1) ts (runM ts ns d):=by
 refine ⟨ad,fd,ps,hp,?_,F.kp,hb,hm⟩
 obtain ⟨tb,pb,qb⟩:=body
 have hnn:ts.length≤ns:=by
  have:=congrArg List.length S.pre
  rw [List.length_take] at this
  omega
 refine F.okX S (fun vs H Q E h=>?_) (fun cdv A outer s H vs Q E hr h=>?_)
 ·obtain ⟨_,_,_,_,h1,_⟩:=h
  rw [h1,hp]
 ·obtain ⟨F0,H0,qs,h1,h2,g,h5⟩:=h
  refine ⟨tb fun cls d _ H=>E cls d H,pb _ ⟨⟨rfl,rfl,rfl,S.nd,fun _=>rfl,fun _=>hr,?_⟩,passes_of rfl,fun _ _=>rfl,rfl,rfl⟩ _ (takes_of rfl rfl rfl rfl),?_⟩
  ·have h0:=hr.un
   have h1:(cxOf (L2.CX C.P C.w) C.P C.w C.K C.mg C.base N x (defScope st) ad cdv A outer s H E).A.units+100 < cLine:=by
    show (A.deeper _).units+100 < cLine
    omega
   exact h1
  ·have hst:∀ i v,(vs.map some)[i]? = some (some v)→(L2.start N vs)[i]? = some (some v):=fun i v hv=>by
    unfold L2.start
    have hi:i < (vs.map some).length:=(List.getElem?_eq_some_iff.mp hv).1
    rw [List.getElem?_append_left (by simpa using hi)]
    exact hv
   have hlen:(startM ts qs).length=ts.length:=by unfold startM; simp; omega
   have hget:∀ i y,En.get (startM ts qs++List.replicate (ns - ts.length) none) i=some y→En.get (startM ts qs) i=some y:=fun i y hy=>by
    unfold En.get at hy ⊢
    rw [List.getD,List.getElem?_append] at hy
    split at hy
    ·rw [List.getD]; exact hy
    ·rw [List.getElem?_replicate] at hy
     split at hy <;> cases hy
   refine qb _ _ _ (startM ts qs++List.replicate (ns - ts.length) none) F0 H0 F0 H ⟨⟨g.ext,?_,?_⟩,fun i d p hy=>g.nb i d p (hget _ _ hy)⟩ ?_
   ·rw [List.length_append,hlen,List.length_replicate]
    simp [L2.start,hN]
    omega
   ·obtain ⟨fp,s1,s2⟩:=g.slots
    refine ⟨fp,fun i y hy=>?_,s2⟩
    obtain ⟨v,hv,r⟩:=s1 i y (hget _ _ hy)
    exact ⟨v,hst i v hv,r⟩
   ·unfold runM at h5
    rw [if_pos h1] at h5
    cases eo:d (startM ts qs++List.replicate (ns - ts.length) none) with
    | nx Γ =>
     rw [eo] at h5
     simp only at h5
     intro σ' F' H' g' k'
     cases er:readA Γ 0 ts qs with
     | exc c=>rw [er] at h5; exact h5.elim
     | bad=>rw [er] at h5; exact h5.elim
     | ok news =>
      rw [er] at h5
      obtain ⟨r1,r2⟩:=read_spec er
      refine (fun key=>⟨h5 F' H' r1 key,h5 F' H' r1 key⟩) ?_
      obtain ⟨fp,s1,s2⟩:=g'.slots
      obtain ⟨fp0,t1,_⟩:=g.slots
      refine ⟨⟨g'.ext,?_,fun i=>if (ts[i]?.map isOw).getD false=true then fp i else [],fun i y hy=>?_,fun i j' a hij ha hb'=>?_⟩,fun i dd p hy=>?_⟩
      ·unfold startM
       simp
       omega
      ·obtain ⟨y1,y2⟩:=get_start hy
       obtain ⟨q1,q2⟩:=r2 i y.1 y.2 y1 y2
       obtain ⟨ty,py⟩:=y
       simp only at y1 y2 q1 q2
       cases ty with
       | ow dd =>
        have hg:=q1 rfl
        rw [Nat.zero_add] at hg
        obtain ⟨v,hv,r⟩:=s1 i _ hg
        have hk:=k' i (hkeep i (by rw [y1]; rfl))
        have hi:i < vs.length:=by
         have:=(List.getElem?_eq_some_iff.mp y1).1
         omega
        have hs0:=hst i vs[i] (by rw [List.getElem?_map,List.getElem?_eq_getElem hi]; rfl)
        rw [hk,hs0] at hv
        cases hv
        refine ⟨vs[i],by rw [List.getElem?_map,List.getElem?_eq_getElem hi]; rfl,?_⟩
        simp only
        rw [if_pos (by rw [y1]; rfl)]
        exact r
       | fz =>
        have hq:=q2 rfl
        obtain ⟨v,hv,r⟩:=t1 i _ (start_get y1 hq)
        exact ⟨v,hv,Rep.mono g'.ext.ff _ _ r⟩
       | bw dd =>
        have hq:=q2 rfl
        exact (g.nb i dd py (start_get y1 hq)).elim
      ·simp only at ha hb'
       split at ha
       ·split at hb'
        ·exact s2 i j' a hij ha hb'
        ·simp at hb'
       ·simp at ha
      ·obtain ⟨y1,y2⟩:=get_start hy
       obtain ⟨q1,q2⟩:=r2 i _ p y1 y2
       exact (g.nb i dd p (start_get y1 (q2 rfl))).elim
    | _=>rw [eo] at h5; exact h5.elim
end
end Vl
end
section
set_option Elab.async false
set_option linter.all false
set_option maxRecDepth 100000
set_option maxHeartbeats 1000000
namespace Vl
open PySem L2 Vm PyProof.Rows
section
variable {C:Cn} {cm:Bool} {k:Nat} {N:List Str} {sc:Scope} {e:Expr} {es:List Expr} {pos p p1 cpos:Pos} {X:Cx} {x:Str}
def tVs:List Nat→TA
 | []=>tNil
 | i :: r=>tCons (tVar i) (tVs r)
theorem tVs_run:∀ (is:List Nat) (vs:List V) {σ:L2.St} {H:Hp} {Q:List V→Hp→Prop},vs.length=is.length→(∀ (j i:Nat) (v:V),is[j]? = some i→vs[j]? = some v→σ[i]? = some (some v))→Q vs H→tVs is σ H Q
 | [],[],_,_,_,_,_,h=>h
 | [],_ :: _,_,_,_,hl,_,_=>by simp at hl
 | _ :: _,[],_,_,_,hl,_,_=>by simp at hl
 | i :: is,v :: vs,σ,H,Q,hl,hv,h=>⟨v,hv 0 i v rfl rfl,tVs_run is vs (Q:=fun xs H2=>Q (v :: xs) H2) (by simpa using hl) (fun j i' v' h1 h2=>hv (j+1) i' v' (by simpa using h1) (by simpa using h2)) h⟩
variable (C cm k N sc) in
def AN (es:List Expr) (is:List Nat):Prop:=∀ X,Sta C cm k N sc X→PA X es (tVs is)
theorem an_nil:AN C cm k N sc [] []:=fun X S=>pa_nil
theorem an_cons {i:Nat} {is:List Nat} (h:AN C cm k N sc es is) (hN:N[i]? = some x:=by rfl) (hv:Vis sc x:=by first | exact Or.inl rfl | exact Or.inr (Or.inl rfl) | exact Or.inr (Or.inr rfl)) (hd:(x == ("__debug__":Str))=false:=by decide) (hcd:(x == ("__classdict__":Str))=false:=by decide)
  (hst:∀ env:PySem.Env,starEach (.Name x p1 :: es) env=(false,eval (.Name x p1) env) :: starEach es env:=by intro _; rfl):AN C cm k N sc (.Name x p1 :: es) (i :: is):=fun X S =>
 pa_cons (pe_var (by rw [S.n]; exact hN) (by rw [S.s]; exact hv) hd hcd) (h X S) (hst _)
theorem take_spec{Γ:En}:∀ {js:List (Nat×Tg)} {ps:List PV},takeA Γ js=some ps→ps.length=js.length∧∀ (j i:Nat) (t:Tg) (p:PV),js[j]? = some (i,t)→ps[j]? = some p→Γ.get i=some (t,p)
 | [],ps,h=>by cases h; exact ⟨rfl,fun j i t p h=>by simp at h⟩
 | (i,t) :: js,ps,h=>by
  unfold takeA at h
  cases e:Γ.get i with
  | none=>rw [e] at h; cases h
  | some y =>
   obtain ⟨t',q⟩:=y
   rw [e] at h
   simp only at h
   by_cases ht:tgEq t' t=true
   ·rw [if_pos ht] at h
    cases e2:takeA Γ js with
    | none=>rw [e2] at h; cases h
    | some r =>
     rw [e2] at h
     cases h
     obtain ⟨a,b⟩:=take_spec e2
     refine ⟨by simp [a],fun j i2 t2 p2 h1 h2=>?_⟩
     cases j with
     | zero=>simp at h1 h2; obtain ⟨rfl,rfl⟩:=h1; subst h2; rw [e,tgEq_eq ht]
     | succ j=>exact b j i2 t2 p2 (by simpa using h1) (by simpa using h2)
   ·rw [if_neg ht] at h; cases h
theorem put_spec:∀ {js:List (Nat×Tg)} {Γ:En} {news:List PV} {i:Nat} {y:TV},(putA Γ js news).get i=some y→(∃ (j d:Nat),js[j]? = some (i,.ow d)∧news[j]? = some y.2∧y.1 = .ow d) ∨ (Γ.get i=some y∧∀ (j d:Nat),js[j]? = some (i,.ow d)→j < news.length→Γ.length≤i)
 | [],Γ,news,i,y,h=>.inr ⟨h,fun j d z=>by simp at z⟩
 | (i0,.ow d) :: js,Γ,[],i,y,h=>.inr ⟨h,fun j d z hj=>by simp at hj⟩
 | (i0,.fz) :: js,Γ,[],i,y,h=>.inr ⟨h,fun j d z hj=>by simp at hj⟩
 | (i0,.bw _) :: js,Γ,[],i,y,h=>.inr ⟨h,fun j d z hj=>by simp at hj⟩
 | (i0,.ow d) :: js,Γ,q :: news,i,y,h=>by
  have h:(putA (Γ.set i0 (some (.ow d,q))) js news).get i=some y:=h
  rcases put_spec h with ⟨j,d',a,b,c⟩ | ⟨a,b⟩
  ·exact .inl ⟨j+1,d',by simpa using a,by simpa using b,c⟩
  ·rw [get_set] at a
   by_cases hi:i=i0∧i0 < Γ.length
   ·rw [if_pos hi] at a
    cases a
    obtain ⟨rfl,_⟩:=hi
    exact .inl ⟨0,d,rfl,rfl,rfl⟩
   ·rw [if_neg hi] at a
    refine .inr ⟨a,fun j d' z hj=>?_⟩
    cases j with
    | zero =>
     simp at z
     obtain ⟨rfl,_⟩:=z
     exact Nat.le_of_not_lt fun q=>hi ⟨rfl,q⟩
    | succ j =>
     have:=b j d' (by simpa using z) (by simpa using hj)
     rwa [List.length_set] at this
 | (i0,.fz) :: js,Γ,q :: news,i,y,h=>by
  have h:(putA Γ js news).get i=some y:=h
  rcases put_spec h with ⟨j,d',a,b,c⟩ | ⟨a,b⟩
  ·exact .inl ⟨j+1,d',by simpa using a,by simpa using b,c⟩
  ·refine .inr ⟨a,fun j d' z hj=>?_⟩
   cases j with
   | zero=>simp at z
   | succ j=>exact b j d' (by simpa using z) (by simpa using hj)
 | (i0,.bw _) :: js,Γ,q :: news,i,y,h=>by
  have h:(putA Γ js news).get i=some y:=h
  rcases put_spec h with ⟨j,d',a,b,c⟩ | ⟨a,b⟩
  ·exact .inl ⟨j+1,d',by simpa using a,by simpa using b,c⟩
  ·refine .inr ⟨a,fun j d' z hj=>?_⟩
   cases j with
   | zero=>simp at z
   | succ j=>exact b j d' (by simpa using z) (by simpa using hj)
theorem put_len:∀ (js:List (Nat×Tg)) (Γ:En) (news:List PV),(putA Γ js news).length=Γ.length
 | [],Γ,news=>rfl
 | (i0,.ow d) :: js,Γ,[]=>rfl
 | (i0,.fz) :: js,Γ,[]=>rfl
 | (i0,.bw _) :: js,Γ,[]=>rfl
 | (i0,.ow d) :: js,Γ,q :: news=>by
  show (putA (Γ.set i0 (some (.ow d,q))) js news).length=_
  rw [put_len js,List.length_set]
 | (i0,.fz) :: js,Γ,q :: news=>put_len js Γ news
 | (i0,.bw _) :: js,Γ,q :: news=>put_len js Γ news
theorem slot_ix{js:List (Nat×Tg)}(hnd:(js.map (·.1)).Nodup){j j' i:Nat}{t t':Tg}(h:js[j]? = some (i,t))(h':js[j']? = some (i,t')):j=j':=by
 have a:(js.map (·.1))[j]? = some i:=by rw [List.getElem?_map,h]; rfl
 have b:(js.map (·.1))[j']? = some i:=by rw [List.getElem?_map,h']; rfl
 have hj:=(List.getElem?_eq_some_iff.mp a).1
 exact (List.getElem?_inj hj hnd).mp (a.trans b.symm)
theorem ds_callM {js:List (Nat×Tg)} {f:FM} {j:Nat} (G:CalM C x j (js.map (·.2)) f) (ha:AN C true k N sc (e :: es) (js.map (·.1))) (hj:j≤k:=by decide) (hg:sc.names.lookup x=some .globalImplicit:=by rfl) (hdb:(x == ("__debug__":Str))=false:=by decide)
  (he:∀ env:PySem.Env,starEach (e :: es) env=(false,eval e env) :: starEach es env:=by intro _; rfl) (hpl:∀ env:PySem.Env,(backTo cpos (starEach es env)).any (·.1)=false:=by intro _; rfl) (hs:∀ env:PySem.Env,swapsWith (.Call (.Name x p) (e :: es) [] cpos) none pos.line env=pure false:=by intro _; rfl) (hnd:(js.map (·.1)).Nodup:=by decide) :
  DS C true k N sc (.Expr (.Call (.Name x p) (e :: es) [] cpos) pos) (dCallM f js):=by
 obtain ⟨ad,fd,ps,hps,Fk,kp,bn,hm⟩:=G.ex
 refine ⟨fun W=>tDrop (tCallS (spM C (js.map (·.2)) f) (WE W) (tVs (js.map (·.1)))),fun X S W T=>?_,fun W D σ Γ F0 H0 F H g h=>?_⟩
 ·have cn:=S.cn
  subst cn
  exact ps_expr (pe_callS Fk ((S.r rfl).mono hj) (S.gl hg) hm kp bn (fun σ=>passAt T σ) (ha X S.toSta) hdb (he _) (hpl _)) (hs _)
 ·have h:OutOk C W F0 H0 D (dCallM f js Γ):=h
  unfold dCallM at h
  cases et:takeA Γ js with
  | none=>rw [et] at h; exact h.elim
  | some qs =>
   rw [et] at h
   simp only at h
   obtain ⟨t1,t2⟩:=take_spec et
   obtain ⟨fp,s1,s2⟩:=g.slots
   have hvs:∀ i∈js.map (·.1),∃ v,σ[i]? = some (some v):=fun i hi=>by
    obtain ⟨q,hq,rfl⟩:=List.mem_map.mp hi
    obtain ⟨jx,hjx⟩:=List.getElem?_of_mem hq
    have hlt:jx < qs.length:=by rw [t1]; exact (List.getElem?_eq_some_iff.mp hjx).1
    obtain ⟨v,hv,_⟩:=s1 q.1 _ (t2 jx q.1 q.2 qs[jx] hjx (List.getElem?_eq_getElem hlt))
    exact ⟨v,hv⟩
   let val:Nat→V:=fun i=>match σ[i]? with
    | some (some v)=>v
    | _=>.non
   have hval:∀ i∈js.map (·.1),σ[i]? = some (some (val i)):=fun i hi=>by
    obtain ⟨v,hv⟩:=hvs i hi
    have:val i=v:=by show (match σ[i]? with | some (some v)=>v | _=>V.non)=v; rw [hv]
    rw [this]; exact hv
   let vs:List V:=(js.map (·.1)).map val
   let M:Addr→Prop:=fun a=>∃ q∈js,isOw q.2=true∧a∈fp q.1
   have dec:∀ a,Decidable (M a):=fun a=>Classical.propDecidable _
   let Hc:Hp:=fun a=>@ite _ (M a) (dec a) none (H a)
   have hc1:∀ a,M a→Hc a=none:=fun a ha=>by show @ite _ (M a) (dec a) none (H a)=none; rw [if_pos ha]
   have hc2:∀ a,¬ M a→Hc a=H a:=fun a ha=>by show @ite _ (M a) (dec a) none (H a)=H a; rw [if_neg ha]
   have hcs:Same Hc H:=fun a o z=>by
    by_cases ha:M a
    ·rw [hc1 a ha] at z; cases z
    ·rw [hc2 a ha] at z; exact z
   have hM:∀ a,M a→F a=none∧H0 a=none:=fun a ⟨q,hq,ho,ha⟩=>by
    obtain ⟨jx,hjx⟩:=List.getElem?_of_mem hq
    have hlt:jx < qs.length:=by rw [t1]; exact (List.getElem?_eq_some_iff.mp hjx).1
    have hgt:=t2 jx q.1 q.2 qs[jx] hjx (List.getElem?_eq_getElem hlt)
    obtain ⟨v,hv,r⟩:=s1 q.1 _ hgt
    obtain ⟨i,t⟩:=q
    cases t with
    | ow d=>obtain ⟨z1,z2,z3⟩:=r; exact z3 a ha
    | fz=>cases ho
    | bw d=>cases ho
   have vget:∀ (jx i:Nat) (t:Tg),js[jx]? = some (i,t)→(vs.map some)[jx]? = some (some (val i)):=fun jx i t hq=>by
    show (((js.map (·.1)).map val).map some)[jx]? = _
    rw [List.getElem?_map,List.getElem?_map,List.getElem?_map,hq]; rfl
   have jget:∀ {jx:Nat} {t:Tg},(js.map (·.2))[jx]? = some t→∃ i,js[jx]? = some (i,t):=fun {jx t} hq=>by
    rw [List.getElem?_map] at hq
    cases z:js[jx]? with
    | none=>rw [z] at hq; cases hq
    | some q=>rw [z] at hq; cases hq; exact ⟨q.1,rfl⟩
   have gc:GoodS C.K F Hc (startM (js.map (·.2)) qs) (vs.map some) F H:=by
    refine ⟨⟨⟨Same.refl _,hcs,g.ext.fh,g.ext.tp,fun a z=>.inl z⟩,?_,fun jx=>if ((js[jx]?).map fun q=>isOw q.2).getD false=true then fp ((js[jx]?).map (·.1)).get! else [],fun jx y hy=>?_,fun a1 a2 a hne h1 h2=>?_⟩,fun jx d p hy=>?_⟩
    ·unfold startM
     show _=(((js.map (·.1)).map val).map some).length
     simp
     omega
    ·obtain ⟨y1,y2⟩:=get_start hy
     obtain ⟨i,hq⟩:=jget y1
     have hgt:=t2 jx i y.1 y.2 hq y2
     obtain ⟨v,hv,r⟩:=s1 i _ hgt
     have hv2:=hval i (List.mem_map.mpr ⟨(i,y.1),List.mem_of_getElem? hq,rfl⟩)
     rw [hv] at hv2
     cases hv2
     refine ⟨val i,vget jx i y.1 hq,?_⟩
     obtain ⟨ty,py⟩:=y
     cases ty with
     | fz=>exact r
     | bw d=>exact (g.nb i d py hgt).elim
     | ow d =>
      obtain ⟨z1,z2,z3⟩:=r
      simp only
      rw [hq]
      simp only [Option.map_some,isOw,Option.getD_some,if_true]
      exact ⟨z1,z2,fun a ha=>⟨(z3 a ha).1,hc1 a ⟨(i,.ow d),List.mem_of_getElem? hq,rfl,ha⟩⟩⟩
    ·simp only at h1 h2
     cases q1:js[a1]? with
     | none=>rw [q1] at h1; simp at h1
     | some b1 =>
      cases q2:js[a2]? with
      | none=>rw [q2] at h2; simp at h2
      | some b2 =>
       rw [q1] at h1
       rw [q2] at h2
       simp only [Option.map_some,Option.getD_some] at h1 h2
       split at h1
       ·split at h2
        ·have hne2:b1.1 ≠ b2.1:=fun z=>hne (slot_ix hnd (i:=b1.1) (t:=b1.2) (t':=b2.2) q1 (by rw [z]; exact q2))
         exact s2 _ _ a hne2 h1 h2
        ·simp at h2
       ·simp at h1
    ·obtain ⟨y1,y2⟩:=get_start hy
     obtain ⟨i,hq⟩:=jget y1
     exact g.nb i d p (t2 jx i _ p hq y2)
   refine tVs_run _ vs (by show ((js.map (·.1)).map val).length=_; rw [List.length_map]) (fun jx i v h1 h2=>?_) ?_
   ·have h3:vs[jx]? = some (val i):=by show ((js.map (·.1)).map val)[jx]? = _; rw [List.getElem?_map,h1]; rfl
    rw [h3] at h2
    cases h2
    exact hval i (List.mem_of_getElem? h1)
   ·refine ⟨F,Hc,qs,by rw [t1,List.length_map],by show ((js.map (·.1)).map val).length=_; simp,gc,?_⟩
    cases ef:f qs with
    | exc c=>rw [ef] at h; exact h.elim
    | bad=>rw [ef] at h; exact h.elim
    | ok news =>
     rw [ef] at h
     intro F' H' hl gn
     refine h σ F' H' ?_
     obtain ⟨fn,n1,n2⟩:=gn.slots
     have hH0:∀ a,Hc a=none→H0 a=none:=fun a ha=>by
      by_cases hm:M a
      ·exact (hM a hm).2
      ·rw [hc2 a hm] at ha; exact g.ext.hh.free ha
     have key:∀ (i:Nat) (y:TV),(putA Γ js news).get i=some y→(∃ (jx d:Nat),js[jx]? = some (i,Tg.ow d)∧news[jx]? = some y.2∧y.1=Tg.ow d) ∨ (Γ.get i=some y∧∀ (jx d:Nat),js[jx]? ≠ some (i,Tg.ow d)):=fun i y hy=>by
      rcases put_spec hy with q | ⟨q,r⟩
      ·exact .inl q
      ·refine .inr ⟨q,fun jx d z=>?_⟩
       have h1:=r jx d z (by rw [hl,List.length_map]; exact (List.getElem?_eq_some_iff.mp z).1)
       unfold En.get at q
       rw [List.getD,List.getElem?_eq_none h1] at q
       cases q
     let ix:Nat→Option Nat:=fun i=>js.findIdx? fun q=>q.1 == i && isOw q.2
     have ix1:∀ (i jx d:Nat),js[jx]? = some (i,Tg.ow d)→ix i=some jx:=fun i jx d hq=>by
      cases z:ix i with
      | none =>
       have:=List.findIdx?_eq_none_iff.mp z _ (List.mem_of_getElem? hq)
       simp at this
      | some jy =>
       obtain ⟨hlt,hp,_⟩:=List.findIdx?_eq_some_iff_getElem.mp z
       simp only [Bool.and_eq_true,beq_iff_eq] at hp
       have:js[jy]? = some (i,js[jy].2):=by rw [List.getElem?_eq_getElem hlt,← hp.1]
       rw [slot_ix hnd this hq]
     have ix2:∀ (i:Nat),(∀ (jx d:Nat),js[jx]? ≠ some (i,Tg.ow d))→ix i=none:=fun i hq=>by
      cases z:ix i with
      | none=>rfl
      | some jy =>
       obtain ⟨hlt,hp,_⟩:=List.findIdx?_eq_some_iff_getElem.mp z
       simp only [Bool.and_eq_true,beq_iff_eq] at hp
       exfalso
       have e0:js[jy]? = some (i,js[jy].2):=by rw [List.getElem?_eq_getElem hlt,← hp.1]
       cases e1:js[jy].2 with
       | ow d=>rw [e1] at e0; exact hq jy d e0
       | fz=>rw [e1] at hp; exact absurd hp.2 (by simp)
       | bw d=>rw [e1] at hp; exact absurd hp.2 (by simp)
     have low:∀ (i:Nat),(∀ (jx d:Nat),js[jx]? ≠ some (i,Tg.ow d))→∀ a∈fp i,¬ M a:=fun i hq a ha ⟨q,hm,ho,ha2⟩=>by
      by_cases z:q.1=i
      ·obtain ⟨jx,hjx⟩:=List.getElem?_of_mem hm
       obtain ⟨q1,q2⟩:=q
       cases q2 with
       | ow d=>exact hq jx d (by rw [hjx,← z])
       | fz=>cases ho
       | bw d=>cases ho
      ·exact s2 q.1 i a z ha2 ha
     have own:∀ (i jx d:Nat) (p:PV),js[jx]? = some (i,Tg.ow d)→news[jx]? = some p→∃ v,σ[i]? = some (some v)∧RVf C.K F' H' Hc (.ow d,p) v (fn jx):=fun i jx d p hq hp=>by
      have ht:(js.map (·.2))[jx]? = some (.ow d):=by rw [List.getElem?_map,hq]; rfl
      obtain ⟨v,hv,r⟩:=n1 jx _ (start_get ht hp)
      rw [vget jx i _ hq] at hv
      cases hv
      exact ⟨val i,hval i (List.mem_map.mpr ⟨(i,.ow d),List.mem_of_getElem? hq,rfl⟩),r⟩
     refine ⟨⟨⟨g.ext.ff.trans gn.ext.ff,fun a o z=>?_,gn.ext.fh,gn.ext.tp,fun a z=>?_⟩,by rw [put_len]; exact g.len,fun i=>match ix i with | some jx=>(if (Γ.get i).isSome then fn jx else []) | none=>(match Γ.get i with | some (.ow _,_)=>fp i | _=>[]),fun i y hy=>?_,fun i1 i2 a hne ha1 ha2=>?_⟩,fun i d p hy=>?_⟩
     ·have ha:¬ M a:=fun q=>by rw [(hM a q).2] at z; cases z
      exact gn.ext.hh _ _ (by rw [hc2 a ha]; exact g.ext.hh _ _ z)
     ·rcases gn.ext.nw a z with q | q
      ·exact g.ext.nw a q
      ·exact .inr (hH0 a q)
     ·rcases key i y hy with ⟨jx,d,q1,q2,q3⟩ | ⟨q1,q2⟩
      ·obtain ⟨ty,py⟩:=y
       simp only at q2 q3
       subst q3
       obtain ⟨v,hv,z1,z2,z3⟩:=own i jx d py q1 q2
       refine ⟨v,hv,?_⟩
       have hlt:jx < qs.length:=by rw [t1]; exact (List.getElem?_eq_some_iff.mp q1).1
       have hgt:=t2 jx i _ qs[jx] q1 (List.getElem?_eq_getElem hlt)
       simp only
       rw [ix1 i jx d q1]
       simp only [hgt,Option.isSome_some,if_true]
       exact ⟨z1,z2,fun a ha=>⟨(z3 a ha).1,hH0 a (z3 a ha).2⟩⟩
      ·obtain ⟨v,hv,r⟩:=s1 i y q1
       refine ⟨v,hv,?_⟩
       simp only
       rw [ix2 i q2]
       obtain ⟨ty,py⟩:=y
       cases ty with
       | fz=>exact Rep.mono gn.ext.ff _ _ r
       | bw d=>exact (g.nb i d py q1).elim
       | ow d =>
        obtain ⟨z1,z2,z3⟩:=r
        simp only [q1]
        refine ⟨Own.mono gn.ext.ff d z1 fun a ha=>?_,z2,fun a ha=>⟨?_,(z3 a ha).2⟩⟩
        ·obtain ⟨ws,hw,_⟩:=z1.there d a ha
         rw [hw]
         exact gn.ext.hh _ _ (by rw [hc2 a (low i q2 a ha)]; exact hw)
        ·cases zz:F' a with
         | none=>rfl
         | some o =>
          obtain ⟨ws,hw,_⟩:=z1.there d a ha
          rcases gn.ext.nw a (by rw [zz]; simp) with q | q
          ·exact absurd (z3 a ha).1 q
          ·rw [hc2 a (low i q2 a ha),hw] at q; cases q
     ·simp only at ha1 ha2
      have some1:∀ (i jx:Nat),ix i=some jx→∃ d,js[jx]? = some (i,Tg.ow d):=fun i jx z=>by
       obtain ⟨hlt,hp,_⟩:=List.findIdx?_eq_some_iff_getElem.mp z
       simp only [Bool.and_eq_true,beq_iff_eq] at hp
       have e0:js[jx]? = some (i,js[jx].2):=by rw [List.getElem?_eq_getElem hlt,← hp.1]
       cases e1:js[jx].2 with
       | ow d=>rw [e1] at e0; exact ⟨d,e0⟩
       | fz=>rw [e1] at hp; exact absurd hp.2 (by simp)
       | bw d=>rw [e1] at hp; exact absurd hp.2 (by simp)
      have none1:∀ (i:Nat),ix i=none→∀ (jx d:Nat),js[jx]? ≠ some (i,Tg.ow d):=fun i z jx d q=>by rw [ix1 i jx d q] at z; cases z
      have new1:∀ (i jx:Nat) (a:Addr),ix i=some jx→a∈fn jx→Hc a=none:=fun i jx a z ha=>by
       obtain ⟨d,q⟩:=some1 i jx z
       have hlt:jx < news.length:=by rw [hl,List.length_map]; exact (List.getElem?_eq_some_iff.mp q).1
       obtain ⟨v,hv,z1,z2,z3⟩:=own i jx d _ q (List.getElem?_eq_getElem hlt)
       exact (z3 a ha).2
      have old1:∀ (i:Nat) (a:Addr),ix i=none→a∈(match Γ.get i with | some (.ow _,_)=>fp i | _=>[])→a∈fp i∧Hc a ≠ none:=fun i a z ha=>by
       cases e:Γ.get i with
       | none=>rw [e] at ha; simp at ha
       | some y =>
        obtain ⟨ty,py⟩:=y
        rw [e] at ha
        cases ty with
        | fz=>simp at ha
        | bw d=>simp at ha
        | ow d =>
         simp only at ha
         obtain ⟨v,hv,z1,z2,z3⟩:=s1 i _ e
         obtain ⟨ws,hw,_⟩:=z1.there d a ha
         exact ⟨ha,by rw [hc2 a (low i (none1 i z) a ha),hw]; simp⟩
      cases e1:ix i1 with
      | some j1 =>
       rw [e1] at ha1
       simp only at ha1
       split at ha1
       ·cases e2:ix i2 with
        | some j2 =>
         rw [e2] at ha2
         simp only at ha2
         split at ha2
         ·refine n2 j1 j2 a (fun z=>hne ?_) ha1 ha2
          obtain ⟨d1,q1⟩:=some1 i1 j1 e1
          obtain ⟨d2,q2⟩:=some1 i2 j2 e2
          rw [z,q2] at q1
          cases q1
          rfl
         ·simp at ha2
        | none =>
         rw [e2] at ha2
         simp only at ha2
         exact (old1 i2 a e2 ha2).2 (new1 i1 j1 a e1 ha1)
       ·simp at ha1
      | none =>
       rw [e1] at ha1
       simp only at ha1
       obtain ⟨b1,b2⟩:=old1 i1 a e1 ha1
       cases e2:ix i2 with
       | some j2 =>
        rw [e2] at ha2
        simp only at ha2
        split at ha2
        ·exact b2 (new1 i2 j2 a e2 ha2)
        ·simp at ha2
       | none =>
        rw [e2] at ha2
        simp only at ha2
        exact s2 i1 i2 a hne b1 (old1 i2 a e2 ha2).1
     ·rcases key i _ hy with ⟨jx,dd,q1,q2,q3⟩ | ⟨q1,q2⟩
      ·cases q3
      ·exact g.nb i d p q1
end
end Vl
end
section
set_option linter.all false
set_option maxHeartbeats 1000000
namespace Vm
def lcGoO(Γ:En)(pat:Pat)(e:EX):List TV→Res (List PV)
 | []=>.ok []
 | x :: xs=>(bindP Γ x pat).bind fun Γ'=>(e Γ').bind fun y=>match y with
  | (.ow 1,p)=>(lcGoO Γ pat e xs).bind fun ps=>.ok (p :: ps)
  | _=>.bad
@[simp] def eLCO (own:List Nat) (it:IX) (pat:Pat) (e:EX):EX:=fun Γ=>(it Γ).bind fun xs =>
 (noExc (lcGoO (wipeE Γ own) pat e xs.2)).bind fun ps=>if ps.length≤16777216 then .ok (.ow 2,.lst ps) else .bad
@[simp] def partL (l:List PV) (y:PV):Option (Nat×List PV):=match y with
 | .int k=>match vIxN l.length k with
  | some n=>match l[n]? with
   | some (.lst m)=>some (n,m)
   | _=>none
  | none=>none
 | _=>none
@[simp] def dApp2 (i:Nat) (j e:EX):ST:=fun Γ=>match Γ.get i with
 | some (.ow 2,.lst l)=>aft (j Γ) Γ fun y=>match partL l y.2 with
  | some (n,m)=>aft (e Γ) Γ fun x=>aft (putV x) Γ fun p=>if m.length < 16777216 then .nx (Γ.set i (some (.ow 2,.lst (l.set n (.lst (m++[p])))))) else .bad
  | none=>.bad
 | _=>.bad
@[simp] def dExt2 (i:Nat) (j e:EX):ST:=fun Γ=>match Γ.get i with
 | some (.ow 2,.lst l)=>aft (j Γ) Γ fun y=>match partL l y.2 with
  | some (n,m)=>aft (e Γ) Γ fun x=>match x.2 with
   | .lst q=>if flat1 x.1 && decide (m.length+q.length≤16777216) then .nx (Γ.set i (some (.ow 2,.lst (l.set n (.lst (m++q)))))) else .bad
   | .tup q=>if m.length+q.length≤16777216 then .nx (Γ.set i (some (.ow 2,.lst (l.set n (.lst (m++q)))))) else .bad
   | _=>.bad
  | none=>.bad
 | _=>.bad
@[simp] def dSetIx2 (i:Nat) (j k e:EX):ST:=fun Γ=>match Γ.get i with
 | some (.ow 2,.lst l)=>aft (e Γ) Γ fun x=>aft (j Γ) Γ fun y=>match partL l y.2 with
  | some (n,m)=>aft (k Γ) Γ fun z=>aft (putV x) Γ fun p=>match z.2 with
   | .int a=>match vIxN m.length a with
    | some b=>.nx (Γ.set i (some (.ow 2,.lst (l.set n (.lst (m.set b p))))))
    | none=>.bad
   | _=>.bad
  | none=>.bad
 | _=>.bad
end Vm
end
section
set_option Elab.async false
set_option linter.all false
set_option maxRecDepth 100000
set_option maxHeartbeats 1000000
namespace Vl
open PySem L2 Vm PyProof.Rows
section
variable {C:Cn} {F0 H0 F H F1 H1:Hp} {Γ:En} {σ:L2.St}
theorem good_chg{i:Nat}{d:Nat}{p:PV}(g:GoodS C.K F0 H0 Γ σ F H)(e:Γ.get i=some (.ow d,p)):∃ v fp,σ[i]? = some (some v)∧Own C.K F H d fp p v∧fp.Nodup∧(∀ a∈fp,F a=none∧H0 a=none) ∧
  ∀ {F2 H2 H3:Hp} {d':Nat} {p':PV} {fp':List Addr},Ext F H F2 H2→(∀ a,a ∉ fp→H3 a=H2 a)→(∀ a∈fp,∀ xs,H3 a ≠ some (tq xs))→Own C.K F2 H3 d' fp' p' v→fp'.Nodup→(∀ a∈fp',a∈fp ∨ (H a=none∧F2 a=none))→GoodS C.K F0 H0 (Γ.set i (some (.ow d',p'))) σ F2 H3:=by
 obtain ⟨fp,h1,h2⟩:=g.slots
 obtain ⟨v,hv,o,nd,fr⟩:=h1 i _ e
 have hi:i < Γ.length:=by
  cases Nat.lt_or_ge i Γ.length with
  | inl h=>exact h
  | inr h =>
   have:Γ.get i=none:=by unfold En.get; simp [List.getD,List.getElem?_eq_none h]
   rw [this] at e; cases e
 refine ⟨v,fp i,hv,o,nd,fr,fun {F2 H2 H3 d' p' fp'} e2 k1 k2 o' nd' sub=>?_⟩
 have hth:∀ a∈fp i,H a ≠ none:=fun a ha=>by obtain ⟨_,z,_⟩:=o.there d a ha; rw [z]; simp
 have f2n:∀ a∈fp i,F2 a=none:=fun a ha=>by
  cases q:F2 a with
  | none=>rfl
  | some o =>
   rcases e2.nw a (by rw [q]; simp) with z | z
   ·exact (z (fr a ha).1).elim
   ·exact (hth a ha z).elim
 refine ⟨⟨?_,by rw [List.length_set]; exact g.len,fun j=>if j=i then fp' else match Γ.get j with
  | some (.ow _,_)=>fp j
  | _=>[],fun j y hy=>?_,fun i' j a hij ha hb=>?_⟩,nb_set g.nb fun d p h=>by cases h⟩
 ·have ee:=g.ext.trans e2
  refine ⟨ee.ff,fun a o z=>?_,fun a o z=>?_,fun a xs z=>?_,ee.nw⟩
  ·rw [k1 a fun ha=>by rw [(fr a ha).2] at z; cases z]; exact ee.hh _ _ z
  ·rw [k1 a fun ha=>by rw [f2n a ha] at z; cases z]; exact ee.fh _ _ z
  ·by_cases ha:a∈fp i
   ·exact (k2 a ha xs z).elim
   ·rw [k1 a ha] at z; exact ee.tp _ _ z
 ·rw [get_set] at hy
  by_cases hj:j=i
  ·subst hj
   rw [if_pos ⟨rfl,hi⟩] at hy
   cases hy
   refine ⟨_,hv,?_⟩
   simp only [if_pos]
   refine ⟨o',nd',fun a ha=>?_⟩
   rcases sub a ha with z | ⟨z1,z2⟩
   ·exact ⟨f2n a z,(fr a z).2⟩
   ·exact ⟨z2,g.ext.hh.free z1⟩
  ·rw [if_neg fun z=>hj z.1] at hy
   obtain ⟨u,h6,h7⟩:=h1 j y hy
   refine ⟨u,h6,?_⟩
   simp only
   rw [if_neg hj,hy]
   have h8:=h7.ext e2
   obtain ⟨t,q⟩:=y
   cases t with
   | fz=>exact h8
   | bw d=>exact (g.nb j d q hy).elim
   | ow d =>
    obtain ⟨z1,z2,z3⟩:=h8
    exact ⟨Own.mono (Same.refl _) d z1 fun a ha=>k1 a fun z=>h2 i j a (Ne.symm hj) z ha,z2,z3⟩
 ·have old:∀ j',a∈(match Γ.get j' with | some (.ow _,_)=>fp j' | _=>[])→a∈fp j'∧H a ≠ none:=fun j' hm=>by
   cases q:Γ.get j' with
   | none=>rw [q] at hm; simp at hm
   | some y =>
    obtain ⟨t,pp⟩:=y
    rw [q] at hm
    cases t with
    | fz=>simp at hm
    | bw _=>simp at hm
    | ow dd =>
     obtain ⟨v',_,h4⟩:=h1 j' _ q
     refine ⟨hm,?_⟩
     obtain ⟨ws,z,_⟩:=h4.1.there dd a hm
     rw [z]; simp
  simp only at ha hb
  by_cases h1':i'=i
  ·rw [if_pos h1'] at ha
   rw [if_neg (fun z=>hij (h1'.trans z.symm))] at hb
   obtain ⟨o1,o2⟩:=old j hb
   rcases sub a ha with z | ⟨z,_⟩
   ·exact h2 i j a (fun z=>hij (h1'.trans z)) z o1
   ·exact o2 z
  ·rw [if_neg h1'] at ha
   by_cases h2':j=i
   ·rw [if_pos h2'] at hb
    obtain ⟨o1,o2⟩:=old i' ha
    rcases sub a hb with z | ⟨z,_⟩
    ·exact h2 i' i a h1' o1 z
    ·exact o2 z
   ·rw [if_neg h2'] at hb
    exact h2 i' j a hij (old i' ha).1 (old j hb).1
theorem ownl_set{K:KK}{d:Nat}:∀ {fs:List (List Addr)} {ps:List PV} {vs:List V} {n:Nat} {q:PV},OwnL (Own K F H d) fs ps vs→fs.flatten.Nodup→ps[n]? = some q →
  ∃ f u,vs[n]? = some u∧(∀ a∈f,a∈fs.flatten)∧f.Nodup∧Own K F H d f q u∧∀ {F' H':Hp} {q':PV},Same F F'→(∀ a∈fs.flatten,a ∉ f→H' a=H a)→Own K F' H' d f q' u→OwnL (Own K F' H' d) fs (ps.set n q') vs
 | [],[],[],n,q,h,nd,hn=>by simp at hn
 | f :: fs,p :: ps,v :: vs,0,q,h,nd,hn=>by
  simp at hn
  subst hn
  rw [List.flatten_cons] at nd
  obtain ⟨n1,n2,n3⟩:=List.nodup_append.mp nd
  refine ⟨f,v,rfl,fun a ha=>by rw [List.flatten_cons]; exact List.mem_append_left _ ha,n1,h.1,fun {F' H' q'} e k o=>⟨o,?_⟩⟩
  refine h.2.imp fun f' hf' p' v' q0=>Own.mono e d q0 fun a ha=>k a ?_ fun z=>?_
  ·rw [List.flatten_cons]; exact List.mem_append_right _ (List.mem_flatten.mpr ⟨f',hf',ha⟩)
  ·exact n3 a z a (List.mem_flatten.mpr ⟨f',hf',ha⟩) rfl
 | f :: fs,p :: ps,v :: vs,n+1,q,h,nd,hn=>by
  rw [List.flatten_cons] at nd
  obtain ⟨n1,n2,n3⟩:=List.nodup_append.mp nd
  obtain ⟨f',u,h1,h2,h3,h4,h5⟩:=ownl_set (n:=n) h.2 n2 (by simpa using hn)
  refine ⟨f',u,by simpa using h1,fun a ha=>by rw [List.flatten_cons]; exact List.mem_append_right _ (h2 a ha),h3,h4,fun {F' H' q'} e k o=>?_⟩
  show OwnL (Own K F' H' d) (f :: fs) (p :: ps.set n q') (v :: vs)
  refine ⟨Own.mono e d h.1 fun a ha=>k a (by rw [List.flatten_cons]; exact List.mem_append_left _ ha) fun z=>n3 a ha a (h2 a z) rfl,h5 e (fun a ha hn=>k a (by rw [List.flatten_cons]; exact List.mem_append_right _ ha) hn) o⟩
 | [],[],_ :: _,_,_,h,_,_=>h.elim
 | [],_ :: _,_,_,_,h,_,_=>h.elim
 | _ :: _,[],_,_,_,h,_,_=>h.elim
 | _ :: _,_ :: _,[],_,_,h,_,_=>h.elim
theorem ownl_len{Q:List Addr→PV→V→Prop}:∀ {fs:List (List Addr)} {ps:List PV} {vs:List V},OwnL Q fs ps vs→vs.length=ps.length
 | [],[],[],_=>rfl
 | f :: fs,p :: ps,v :: vs,h=>by simp [ownl_len h.2]
 | [],[],_ :: _,h=>h.elim
 | [],_ :: _,_,h=>h.elim
 | _ :: _,[],_,h=>h.elim
 | _ :: _,_ :: _,[],h=>h.elim
theorem ownl0_nil{K:KK}:∀ {fs:List (List Addr)} {ps:List PV} {vs:List V},OwnL (Own K F H 0) fs ps vs→fs.flatten=[]∧RepL K F ps vs
 | [],[],[],_=>⟨rfl,RepL.nil⟩
 | f :: fs,p :: ps,v :: vs,h=>by
  obtain ⟨a,b⟩:=ownl0_nil h.2
  exact ⟨by rw [List.flatten_cons,h.1.1,a]; rfl,RepL.cons h.1.2 b⟩
 | [],[],_ :: _,h=>h.elim
 | [],_ :: _,_,h=>h.elim
 | _ :: _,[],_,h=>h.elim
 | _ :: _,_ :: _,[],h=>h.elim
theorem own_one'{K:KK}{fp:List Addr}{l:List PV}{v:V}(h:Own K F H 1 fp (.lst l) v):∃ a vs,v = .ref a∧H a=some (.lst vs)∧RepL K F l vs∧fp=[a]:=by
 obtain ⟨l',a,vs,fps,e0,rfl,h3,h4,h5⟩:=h.lst
 cases e0
 obtain ⟨a1,a2⟩:=ownl0_nil h5
 exact ⟨a,vs,rfl,h3,a2,by rw [h4,a1]⟩
theorem good_mod2{i n:Nat}{l m:List PV}(g:GoodS C.K F0 H0 Γ σ F H)(e:Γ.get i=some (.ow 2,.lst l))(hn:l[n]? = some (.lst m)):∃ ad vs ad2 us,σ[i]? = some (some (.ref ad))∧H ad=some (.lst vs)∧vs[n]? = some (.ref ad2)∧H ad2=some (.lst us)∧vs.length=l.length∧RepL C.K F m us ∧
  ∀ {F2 H2:Hp} {m2:List PV} {us2:List V},Ext F H F2 H2→RepL C.K F2 m2 us2→GoodS C.K F0 H0 (Γ.set i (some (.ow 2,.lst (l.set n (.lst m2))))) σ F2 (upd H2 ad2 (.lst us2))∧H2 ad2=some (.lst us):=by
 obtain ⟨v,fp,hv,o,nd,fr,go⟩:=good_chg g e
 obtain ⟨l',ad,vs,fps,e0,rfl,h3,h4,h5⟩:=o.lst
 cases e0
 subst h4
 have nd':=nd
 rw [List.nodup_cons] at nd'
 obtain ⟨f,u,k1,k2,k3,k4,k5⟩:=ownl_set h5 nd'.2 hn
 obtain ⟨ad2,us,rfl,k6,k7,rfl⟩:=own_one' k4
 have hm:ad2∈fps.flatten:=k2 ad2 (by simp)
 have hne:ad ≠ ad2:=fun z=>nd'.1 (z ▸ hm)
 refine ⟨ad,vs,ad2,us,hv,h3,k1,k6,ownl_len h5,k7,fun {F2 H2 m2 us2} e2 r2=>⟨go (H2:=H2) (fp':=ad :: fps.flatten) e2 (fun a ha=>upd_ne fun z=>ha (by subst z; exact List.mem_cons_of_mem _ hm)) (fun a ha xs=>?_) (Own.mkL ⟨l.set n (.lst m2),ad,vs,fps,rfl,rfl,?_,rfl,k5 e2.ff (fun a ha hb=>?_) ?_⟩) nd (fun a ha=>.inl ha),e2.hh _ _ k6⟩⟩
 ·by_cases z:a=ad2
  ·subst z; rw [upd_same]; intro q; cases q
  ·rw [upd_ne z]
   obtain ⟨ob,q1,q2⟩:=o.there _ a ha
   rw [e2.hh _ _ q1]
   intro q; cases q; exact q2 _ rfl
 ·rw [upd_ne hne]; exact e2.hh _ _ h3
 ·have hb:a ≠ ad2:=by simpa using hb
  rw [upd_ne hb]
  obtain ⟨ob,q1,q2⟩:=o.there _ a (List.mem_cons_of_mem _ ha)
  rw [q1]; exact e2.hh _ _ q1
 ·exact own_new r2 upd_same
theorem part_spec{l m:List PV}{y:PV}{n:Nat}(h:partL l y=some (n,m)):∃ k,y = .int k∧vIxN l.length k=some n∧l[n]? = some (.lst m):=by
 unfold partL at h
 cases y with
 | int k =>
  simp only at h
  cases e:vIxN l.length k with
  | none=>rw [e] at h; cases h
  | some j =>
   rw [e] at h
   simp only at h
   cases e2:l[j]? with
   | none=>rw [e2] at h; cases h
   | some q =>
    rw [e2] at h
    cases q with
    | lst m'=>cases h; exact ⟨k,rfl,e,e2⟩
    | _=>cases h
 | _=>cases h
end
section
variable {C:Cn} {cm:Bool} {k:Nat} {N:List Str} {sc so:Scope} {a b c e o tg j:Expr} {es:List Expr} {A B J:EX} {pos p tpos apos cpos p1 p2:Pos} {X:Cx} {x:Str}
theorem ix_place{l:List PV}{vs:List V}{n:Nat}{kk:Int}{ad:Addr}{u:V}{H:Hp}{Q:VK}{K:PySem.W.Frag}(hH:H ad=some (.lst vs))(hl:vs.length=l.length)(hn:vIxN l.length kk=some n)(hv:vs[n]? = some u)(q:Q u H):rIx K (.ref ad) (.int kk) H Q:=by
 refine .inl ⟨ad,vs,kk,u,rfl,rfl,SqL.of hH,?_,q⟩
 show ((vIxN vs.length kk).bind fun j=>vs[j]?)=some u
 rw [hl,hn]
 exact hv
theorem ds_setIx2 (i:Nat) {xpos:Pos} (hj:DE C true k N sc j J) (hb:DE C true k N sc b B) (he:DE C true k N sc e A) (hN:N[i]? = some x:=by rfl) (hv:Vis sc x:=by first | exact Or.inl rfl | exact Or.inr (Or.inl rfl) | exact Or.inr (Or.inr rfl)) (hd:(x == ("__debug__":Str))=false:=by decide)
  (hcd:(x == ("__classdict__":Str))=false:=by decide) (hpi:PlainIx j:=by exact fun _ _=>rfl) (hs:∀ env:PySem.Env,swapsWithSole [.Subscript (.Subscript (.Name x p1) j p2) b xpos] e pos.line env=pure false:=by intro _; rfl) (hw:∀ env:PySem.Env,swappedStores [.Subscript (.Subscript (.Name x p1) j p2) b xpos] e env=pure none:=by intro _; rfl)
  (h1:∀ env:PySem.Env,(assignEach [.Subscript (.Subscript (.Name x p1) j p2) b xpos] env).map (·.2)=[assign (.Subscript (.Subscript (.Name x p1) j p2) b xpos) env]:=by intro _; rfl)
  (ha:∀ (env:PySem.Env) v,assign (.Subscript (.Subscript (.Name x p1) j p2) b xpos) env v=(do
   let ov ← holding [v] (eval (.Subscript (.Name x p1) j p2) env)
   let iv ← holding [v,ov] (eval b env)
   standAt xpos
   holding [v,ov,iv] (setItem ov iv v)
   release [v,ov,iv] []):=by intro _ _; rfl):DS C true k N sc (.Assign [.Subscript (.Subscript (.Name x p1) j p2) b xpos] e pos) (dSetIx2 i J B A):=by
 obtain ⟨ta,pa,qa⟩:=he
 obtain ⟨tb,pb,qb⟩:=hb
 obtain ⟨tj,pj,qj⟩:=hj
 refine ⟨fun W=>tAsg (ta W) (gSub (tOp (rIx C.K) (tVar i) (tj W)) (tb W) rSetL),fun X S W T=>by rw [← S.K]; exact ps_asg (pa X S.toSta W T) (pg_sub (pe_ix ix_seq (pe_var (by rw [S.n]; exact hN) (by rw [S.s]; exact hv) hd hcd) (pj X S.toSta W T) hpi) (pb X S.toSta W T) set_list (ha _)) (hs _) (hw _) (h1 _),fun W D σ Γ F0 H0 F H g h=>?_⟩
 unfold dSetIx2 at h
 split at h
 ·rename_i l eg
  refine qa W σ Γ F0 H0 F H _ g.toGood (OutOk.bind g h fun y v F1 H1 ex e1 rv h=>?_)
  have g1:=g.next e1
  obtain ⟨v0,fp0,hv0,o0,_⟩:=good_chg g1 eg
  obtain ⟨_,ad,_,_,_,rfl,_⟩:=o0.lst
  refine ⟨.ref ad,hv0,?_⟩
  refine qj W σ Γ F0 H0 F1 H1 _ g1.toGood (OutOk.bind g1 h fun z u F2 H2 ey e2 ry h=>?_)
  cases ep:partL l z.2 with
  | none=>rw [ep] at h; exact h.elim
  | some nm =>
   obtain ⟨n,m⟩:=nm
   rw [ep] at h
   obtain ⟨kk,ek,hn,hm⟩:=part_spec ep
   have ru:=ry.rep e2.fh
   rw [ek] at ru
   unfold Rep at ru
   subst ru
   have g2:=g1.next e2
   have e12:=e1.trans e2
   obtain ⟨ad',vs,ad2,us,hv',hH,hvn,hH2,hlen,rm,go⟩:=good_mod2 g eg hm
   rw [hv0] at hv'
   cases hv'
   refine ix_place (e12.hh _ _ hH) hlen hn hvn ?_
   refine qb W σ Γ F0 H0 F2 H2 _ g2.toGood (OutOk.bind g2 h fun w r F3 H3 ez e3 rz h=>?_)
   cases hp:putV y with
   | exc c=>exact (put_noexc hp).elim
   | bad=>rw [hp] at h; exact h.elim
   | ok q =>
    rw [hp,after_ok] at h
    obtain ⟨t,w⟩:=w
    have rw':=rz.rep e3.fh
    cases w with
    | int a =>
     unfold Rep at rw'
     subst rw'
     simp only at h
     cases hb':vIxN m.length a with
     | none=>rw [hb'] at h; exact h.elim
     | some bb =>
      rw [hb'] at h
      have e23:=e2.trans e3
      obtain ⟨F4,e4,r4⟩:=(rv.ext e23).put (e1.trans e23) hp
      obtain ⟨gg,hH4⟩:=go e4 ((rm.mono e4.ff _ _).set r4 bb)
      exact ⟨ad2,us,a,bb,rfl,rfl,hH4,by rw [rm.len]; exact hb',h σ _ _ gg⟩
    | _=>exact h.elim
 ·exact h.elim
end
end Vl
end
section
set_option Elab.async false
set_option linter.all false
set_option maxRecDepth 100000
set_option maxHeartbeats 1000000
namespace Vl
open PySem L2 Vm PyProof.Rows
section
variable {C:Cn} {cm:Bool} {k:Nat} {N:List Str} {sc so:Scope} {a b c e tg:Expr} {es:List Expr} {A B:EX} {As:EXs} {T U:TX} {pos p:Pos} {X:Cx} {x:Str}
theorem lcGoO_cons{Γ:En}{pat:Pat}{e:EX}{x:TV}{xs:List TV}{ps:List PV}(h:lcGoO Γ pat e (x :: xs) = .ok ps):∃ Γ' q r,bindP Γ x pat = .ok Γ'∧e Γ' = .ok (.ow 1,q)∧lcGoO Γ pat e xs = .ok r∧ps=q :: r:=by
 unfold lcGoO at h
 cases h1:bindP Γ x pat with
 | ok Γ' =>
  rw [h1,bind_ok] at h
  cases h3:e Γ' with
  | ok y =>
   rw [h3,bind_ok] at h
   split at h
   ·rename_i q
    cases h5:lcGoO Γ pat e xs with
    | ok r=>rw [h5,bind_ok] at h; cases h; exact ⟨Γ',q,r,rfl,h3,rfl,rfl⟩
    | exc _=>rw [h5] at h; cases h
    | bad=>rw [h5] at h; cases h
   ·cases h
  | exc _=>rw [h3] at h; cases h
  | bad=>rw [h3] at h; cases h
 | exc _=>rw [h1] at h; cases h
 | bad=>rw [h1] at h; cases h
theorem ownl_append{Q:List Addr→PV→V→Prop}:∀ {fs gs:List (List Addr)} {ps qs:List PV} {vs us:List V},OwnL Q fs ps vs→OwnL Q gs qs us→OwnL Q (fs++gs) (ps++qs) (vs++us)
 | [],gs,[],qs,[],us,_,h=>h
 | f :: fs,gs,p :: ps,qs,v :: vs,us,h,g=>⟨h.1,ownl_append h.2 g⟩
 | [],_,[],_,_ :: _,_,h,_=>h.elim
 | [],_,_ :: _,_,_,_,h,_=>h.elim
 | _ :: _,_,[],_,_,_,h,_=>h.elim
 | _ :: _,_,_ :: _,_,[],_,h,_=>h.elim
theorem ownl_there{K:KK}{F H:Hp}{d:Nat}:∀ {fs:List (List Addr)} {ps:List PV} {vs:List V},OwnL (Own K F H d) fs ps vs→∀ a∈fs.flatten,∃ o,H a=some o∧∀ xs,o ≠ tq xs
 | [],[],[],_,a,ha=>by simp at ha
 | f :: fs,p :: ps,v :: vs,h,a,ha=>by
  rw [List.flatten_cons] at ha
  rcases List.mem_append.mp ha with z | z
  ·exact h.1.there d a z
  ·exact ownl_there h.2 a z
 | [],[],_ :: _,h,_,_=>h.elim
 | [],_ :: _,_,h,_,_=>h.elim
 | _ :: _,[],_,h,_,_=>h.elim
 | _ :: _,_ :: _,[],h,_,_=>h.elim
theorem ownl_mono{K:KK}{F H F' H':Hp}{d:Nat}{fs:List (List Addr)}{ps:List PV}{vs:List V}(e:Same F F')(h:OwnL (Own K F H d) fs ps vs)(g:∀ a∈fs.flatten,H' a=H a):OwnL (Own K F' H' d) fs ps vs :=
 h.imp fun f hf p v q=>Own.mono e d q fun a ha=>g a (List.mem_flatten.mpr ⟨f,hf,ha⟩)
variable {elt iter:Expr} {ifs:List Expr} {scope:Scope} {own:List (Str×Nat)} {I:IX} {pat:Pat}
theorem lco_reads{wi:TI}{g:TG}{tt:TT}{te:TE}{ow:List Nat}{W:WX}{σ:L2.St}{Γ:En}{F0 H0 F H:Hp}{Q:VK}(gd:Good C.K F0 H0 Γ σ F H)
  (qi:∀ (R:It→Hp→Prop),(match I Γ with
   | .ok y=>∀ J F' H',Ext F H F' H'→ItOk C.K J y.1 y.2 F' H'→R J H'
   | .exc c=>∀ F' H',Ext F H F' H'→W (C.xc c) none σ H'
   | .bad=>False)→wi σ H R)
  (qg:∀ Γ σ F0 H0 F H x v Hs Q,Good C.K F0 H0 Γ σ F H→RV C.K F H Hs x v→(match bindP Γ x pat with
   | .ok Γ'=>∀ σ',Good C.K F0 H0 Γ' σ' F H→(∀ ws:List Nat,(∀ i∈pat.slots,i∈ws)→wipe σ' ws=wipe σ ws)→Q σ' H
   | _=>False)→g v σ H Q)
  (qt:∀ σ Γ F0 H0 F H Q,Good C.K F0 H0 Γ σ F H→TOk C (fun _ _ _ _=>False) σ F H Q (xYes Γ)→tt σ H Q)
  (qe:∀ σ Γ F0 H0 F H Q,Good C.K F0 H0 Γ σ F H→EOk C (fun _ _ _ _=>False) σ F H Q (A Γ)→te σ H Q)
  (hsl:∀ i∈pat.slots,i∈ow)(h:EOk C W σ F H Q (eLCO ow I pat A Γ)):tLc wi g tt te ow σ H Q:=by
 refine qi _ ?_
 unfold eLCO at h
 cases ei:I Γ with
 | exc c=>rw [ei] at h; exact h
 | bad=>rw [ei] at h; exact h
 | ok y =>
  rw [ei,bind_ok] at h
  intro J F1 H1 e1 it D hD
  cases el:lcGoO (wipeE Γ ow) pat A y.2 with
  | exc c=>rw [el] at h; exact h.elim
  | bad=>rw [el] at h; exact h.elim
  | ok ps =>
   rw [el] at h
   simp only [noExc,bind_ok] at h
   by_cases hz:ps.length≤16777216
   ·rw [if_pos hz] at h
    refine ⟨fun i m H'=>m=y.2.length - i∧i≤y.2.length∧∃ F' acc vs fps rest,Ext F1 H1 F' H'∧F' D=none∧H' D=some (.lst vs)∧OwnL (Own C.K F' H' 1) fps acc vs∧fps.flatten.Nodup∧(∀ a∈fps.flatten,F' a=none∧H1 a=none∧a ≠ D)∧lcGoO (wipeE Γ ow) pat A (y.2.drop i) = .ok rest∧acc++rest=ps,?_,?_⟩
    ·exact ⟨_,rfl,Nat.zero_le _,F1,[],[],[],ps,Ext.lst e1.fh e1.tp hD,e1.fh.free hD,upd_same,trivial,by simp,(fun a ha=>by simp at ha),el,rfl⟩
    ·rintro i m H' ⟨rfl,hi,F',acc,vs,fps,rest,e2,fD,hD',ra,nd,fr,hr,happ⟩
     obtain ⟨i1,i2,i3⟩:=it.2 i F' H' e2.ff e2.fh e2.tp (fun _=>e2.hh)
     by_cases hlt:i < y.2.length
     ·refine .inr ⟨i1 hlt,fun H''=>∃ F'' acc vs fps rest,Ext F1 H1 F'' H''∧F'' D=none∧H'' D=some (.lst vs)∧OwnL (Own C.K F'' H'' 1) fps acc vs∧fps.flatten.Nodup∧(∀ a∈fps.flatten,F'' a=none∧H1 a=none∧a ≠ D)∧lcGoO (wipeE Γ ow) pat A (y.2.drop (i+1)) = .ok rest∧acc++rest=ps,fun H'' hN=>⟨y.2.length - (i+1),by omega,rfl,hlt,hN⟩,fun x H2 hy=>?_⟩
      obtain ⟨itm,hit,F2,e3,rx⟩:=i3 x H2 hlt hy
      have hd:y.2.drop i=itm :: y.2.drop (i+1):=by
       rw [List.drop_eq_getElem_cons hlt]
       rw [List.getElem?_eq_getElem hlt] at hit
       cases hit
       rfl
      rw [hd] at hr
      obtain ⟨Γ',q,r,h1,h2,h3,h4⟩:=lcGoO_cons hr
      have eall:=e1.trans (e2.trans e3)
      have g2:=(gd.next eall).wipe ow
      refine qg _ _ F0 H0 F2 H2 itm x H2 _ g2 (rx H2) ?_
      rw [h1]
      intro σ2 g3 w3
      refine ⟨by rw [w3 ow hsl]; exact wipe_idem ow fun _ z=>z,?_⟩
      refine qt σ2 Γ' F0 H0 F2 H2 _ g3 ?_
      intro F3 H3 e4
      have keepD:∀ {Fx Hx:Hp},Ext F' H' Fx Hx→Fx D=none∧Hx D=some (.lst vs):=fun {Fx Hx} ee=>by
       refine ⟨?_,ee.hh _ _ hD'⟩
       cases q:Fx D with
       | none=>rfl
       | some o =>
        rcases ee.nw D (by rw [q]; simp) with z | z
        ·exact (z fD).elim
        ·rw [hD'] at z; cases z
      rw [if_pos rfl]
      refine qe σ2 Γ' F0 H0 F3 H3 _ (g3.next e4) ?_
      rw [h2]
      intro v F4 H4 e5 rv
      obtain ⟨fp,o1,o2,o3⟩:=rv
      have e34:=e3.trans e4
      have ef:=e34.trans e5
      obtain ⟨k1,k2⟩:=keepD ef
      obtain ⟨k3,k4⟩:=keepD e34
      subst h4
      have old:∀ a∈fps.flatten,H3 a ≠ none∧H4 a=H' a∧F4 a=none:=fun a ha=>by
       obtain ⟨ob,z1,_⟩:=ownl_there ra a ha
       refine ⟨by rw [e34.hh _ _ z1]; simp,by rw [z1]; exact ef.hh _ _ z1,?_⟩
       cases qq:F4 a with
       | none=>rfl
       | some o =>
        rcases ef.nw a (by rw [qq]; simp) with z | z
        ·exact (z (fr a ha).1).elim
        ·rw [z1] at z; cases z
      have hnD:∀ a∈fp,a ≠ D:=fun a ha z=>by subst z; rw [(o3 a ha).2] at k4; cases k4
      refine ⟨vs,k2,?_,F4,acc++[q],vs++[v],fps++[fp],r,?_,k1,upd_same,?_,?_,?_,h3,by rw [← happ]; simp⟩
      ·have:=congrArg List.length happ
       rw [List.length_append,List.length_cons] at this
       rw [ownl_len ra,← szL_eq]
       omega
      ·have eu:=e2.trans ef
       refine ⟨eu.ff,fun a o z=>?_,fun a o z=>?_,tups_new eu.tp (fun _ z=>by cases z) k1,eu.nw⟩
       ·rw [upd_ne (ne_of_none z hD)]; exact eu.hh _ _ z
       ·rw [upd_ne (ne_of_none z k1)]; exact eu.fh _ _ z
      ·refine ownl_append (ownl_mono ef.ff ra fun a ha=>?_) ⟨Own.mono (Same.refl _) 1 o1 fun a ha=>upd_ne (hnD a ha),trivial⟩
       rw [upd_ne (fr a ha).2.2]
       exact (old a ha).2.1
      ·rw [List.flatten_append,List.flatten_cons,List.flatten_nil,List.append_nil]
       refine List.nodup_append.mpr ⟨nd,o2,fun a ha b hb z=>?_⟩
       subst z
       exact (old a ha).1 (o3 a hb).2
      ·intro a ha
       rw [List.flatten_append,List.flatten_cons,List.flatten_nil,List.append_nil] at ha
       rcases List.mem_append.mp ha with z | z
       ·exact ⟨(old a z).2.2,(fr a z).2⟩
       ·exact ⟨(o3 a z).1,(e2.trans e34).hh.free (o3 a z).2,hnD a z⟩
     ·have ein:i=y.2.length:=by omega
      refine .inl ⟨i2 (by omega),?_⟩
      rw [List.drop_eq_nil_of_le (by omega)] at hr
      cases hr
      rw [List.append_nil] at happ
      subst happ
      refine h _ F' H' (e1.trans e2) ⟨D :: fps.flatten,Own.mkL ⟨acc,D,vs,fps,rfl,rfl,hD',rfl,ra⟩,List.nodup_cons.mpr ⟨fun z=>(fr D z).2.2 rfl,nd⟩,fun a ha=>?_⟩
      rcases List.mem_cons.mp ha with rfl | ha
      ·exact ⟨fD,e1.hh.free hD⟩
      ·exact ⟨(fr a ha).1,e1.hh.free (fr a ha).2.1⟩
   ·rw [if_neg hz] at h; exact h.elim
theorem de_lcO{pos:Pos}(hi:DI C true k N sc tg iter I)(ok:blkC N sc scope own=true)(hg:DG C true k N (relS scope sc) scope tg pat)(ht:DF C true k N (relS scope sc) ifs xYes)(he:DE C true k N (relS scope sc) elt A)
  (hs:∀ (env:PySem.Env) x,foldedSetIterable iter env x=pure x:=by intro _ _; rfl)(hsl:∀ i∈pat.slots,i∈own.map (·.2):=by decide):DE C true k N sc (.ListComp elt [⟨tg,iter,ifs,0⟩] scope pos) (eLCO (own.map (·.2)) I pat A):=by
 obtain ⟨ti,pi,qi⟩:=hi
 obtain ⟨g,pg,qg⟩:=hg
 obtain ⟨tt,pt,qt⟩:=ht
 obtain ⟨te,pe,qe⟩:=he
 refine ⟨fun W=>tLc (ti W) g (tt fun _ _ _ _=>False) (te fun _ _ _ _=>False) (own.map (·.2)),fun X S W Tk=>?_,fun W σ Γ F0 H0 F H Q gd h=>?_⟩
 ·exact pe_lc (S.c rfl) (by rw [S.n]; exact S.nd) (pi X S W Tk) (blkOk_by (by rw [S.n,S.s]; exact ok)) (fun s H Ca cl fp=>pg _ (sta_blk S) req_blk) (fun s H Ca cl fp=>pt _ (sta_blk S) _ takesF) (fun s H Ca cl fp=>pe _ (sta_blk S) _ takesF) (hs _)
 ·exact lco_reads gd (fun R=>qi W σ Γ F0 H0 F H R gd) qg (qt _) (qe _) hsl h
end
end Vl
end
section
set_option Elab.async false
set_option linter.all false
set_option maxRecDepth 100000
set_option maxHeartbeats 1000000
namespace Vl
open PySem L2 Vm PyProof.Rows
section
variable {C:Cn} {cm:Bool} {k:Nat} {N:List Str} {sc so:Scope} {a b c e o tg j:Expr} {es:List Expr} {A B J:EX} {pos p tpos apos cpos p1 p2:Pos} {X:Cx} {x:Str} {keep:List Nat} {d:ST}
theorem OutK.mono{F0 H0:Hp}{D:Ends}{σ σ':L2.St}{o:Out}(h:OutK C F0 H0 D keep σ o)(k:∀ i∈keep,σ'[i]? = σ[i]?):OutK C F0 H0 D keep σ' o:=by
 cases o with
 | nx Γ=>exact fun σ2 F H g q=>h σ2 F H g fun i hi=>(q i hi).trans (k i hi)
 | bk Γ=>exact fun σ2 F H g q=>h σ2 F H g fun i hi=>(q i hi).trans (k i hi)
 | ct Γ=>exact fun σ2 F H g q=>h σ2 F H g fun i hi=>(q i hi).trans (k i hi)
 | _=>exact h
end
end Vl
end
section
set_option linter.all false
set_option maxHeartbeats 1000000
namespace Vm
mutual
@[simp] def keyN:Nat→PV→Bool
 | _,.non=>true
 | _,.int _=>true
 | _,.str _=>true
 | n+1,.tup l=>keyNL n l
 | _,_=>false
@[simp] def keyNL:Nat→List PV→Bool
 | _,[]=>true
 | n,p :: ps=>keyN n p && keyNL n ps
end
@[simp] def keyL:PV→Bool
 | .non=>true
 | .int _=>true
 | .str _=>true
 | _=>false
@[simp] def keyT:PV→Bool
 | .tup l=>keyNL 7 l
 | _=>false
def sameK(p:PV)(ks:List PV):Bool:=(keyL p && ks.all keyL) || (keyT p && ks.all keyT)
def dIx:List PV→PV→Option Nat
 | [],_=>none
 | q :: ks,p=>if eqv q p then some 0 else (dIx ks p).map (· + 1)
def dPutK:List PV→PV→List PV
 | [],p=>[p]
 | q :: ks,p=>if eqv q p then q :: ks else q :: dPutK ks p
def dPutV{α:Type}:List PV→List α→PV→α→List α
 | q :: ks,v :: vs,p,x=>if eqv q p then x :: vs else v :: dPutV ks vs p x
 | _,_,_,x=>[x]
def dGet(ks l:List PV)(p:PV):Option PV:=(dIx ks p).bind fun j=>l[j]?
@[simp] def fzK:TV→Res PV
 | (.fz,p)=>.ok p
 | _=>.bad
@[simp] def eDic0 (d:Nat):EX:=fun _=>.ok (.ow d,.dic [] [])
@[simp] def eDic1 (tuple:Bool) (a b:EX):EX:=fun Γ=>(a Γ).bind fun x=>(b Γ).bind fun y=>(fzK x).bind fun p=>(putV y).bind fun q=>if (if tuple then keyT p else keyL p) then .ok (.ow 1,.dic [p] [q]) else .bad
@[simp] def dixV (o:TV) (p:PV):Res TV:=match o with
 | (t,.dic ks l)=>if sameK p ks then (match dGet ks l p with
  | some x=>.ok (dn t,x)
  | none=>.bad) else .bad
 | _=>.bad
@[simp] def eDIdx (a b:EX):EX:=fun Γ=>(a Γ).bind fun x=>(b Γ).bind fun y=>dixV x y.2
@[simp] def dinB (p q:PV):Res Bool:=match q with
 | .dic ks _=>if sameK p ks then .ok (dIx ks p).isSome else .bad
 | _=>.bad
@[simp] def opDIn (p q:PV):Res PV:=(dinB p q).bind fun b=>.ok (.bl b)
@[simp] def opDNotIn (p q:PV):Res PV:=(dinB p q).bind fun b=>.ok (.bl (!b))
@[simp] def eDLen (a:EX):EX:=fun Γ=>(a Γ).bind fun x=>match x.2 with
 | .dic ks _=>.ok (.fz,.int ks.length)
 | _=>.bad
@[simp] def dgetV (o:TV) (p:PV) (x:TV):Res TV:=match o with
 | (t,.dic ks l)=>if flat1 t && sameK p ks then (putV x).bind fun q=>.ok (.fz,(dGet ks l p).getD q) else .bad
 | _=>.bad
@[simp] def isDic:PV→Bool
 | .dic _ _=>true
 | _=>false
@[simp] def eDGet (a b c:EX):EX:=fun Γ=>(a Γ).bind fun x=>match isDic x.2 with
 | true=>(b Γ).bind fun y=>(c Γ).bind fun z=>dgetV x y.2 z
 | false=>.bad
@[simp] def dDPut (i:Nat) (k e:EX):ST:=fun Γ=>match Γ.get i with
 | some (.ow 1,.dic ks l)=>aft (e Γ) Γ fun x=>aft (k Γ) Γ fun y=>aft (putV x) Γ fun p=>aft (fzK y) Γ fun q =>
  if sameK q ks && decide (ks.length < 16777216) then .nx (Γ.set i (some (.ow 1,.dic (dPutK ks q) (dPutV ks l q p)))) else .bad
 | _=>.bad
@[simp] def setdD (ks l:List PV) (q:PV):List PV×List PV:=match dGet ks l q with
 | some _=>(ks,l)
 | none=>(dPutK ks q,dPutV ks l q (.lst []))
@[simp] def lstAtD (d:List PV×List PV) (q:PV):Option (Nat×List PV):=match dIx d.1 q with
 | some j=>(match d.2[j]? with
  | some (.lst m)=>some (j,m)
  | _=>none)
 | none=>none
@[simp] def dSetd (i:Nat) (k e:EX):ST:=fun Γ=>match Γ.get i with
 | some (.ow 2,.dic ks l)=>aft (k Γ) Γ fun y=>aft (fzK y) Γ fun q=>if keyL q && ks.all keyL && decide (ks.length < 16777216) then
  (match lstAtD (setdD ks l q) q with
   | some (j,m)=>aft (e (Γ.set i none)) (Γ.set i none) fun x=>aft (putV x) Γ fun p=>if m.length < 16777216 then .nx (Γ.set i (some (.ow 2,.dic (setdD ks l q).1 ((setdD ks l q).2.set j (.lst (m++[p])))))) else .bad
   | none=>.bad)
  else .bad
 | _=>.bad
@[simp] def jItems (a:EX):IX:=fun Γ=>(a Γ).bind fun x=>match x with
 | (.fz,.dic ks l)=>.ok (true,(ks.zip l).map fun kv=>(.fz,.tup [kv.1,kv.2]))
 | _=>.bad
@[simp] def jValues (a:EX):IX:=fun Γ=>(a Γ).bind fun x=>match x with
 | (.fz,.dic _ l)=>.ok (true,l.map fun v=>(.fz,v))
 | _=>.bad
@[simp] def jKeys (a:EX):IX:=fun Γ=>(a Γ).bind fun x=>match x with
 | (.fz,.dic ks _)=>.ok (true,ks.map fun k=>(.fz,k))
 | _=>.bad
end Vm
end
section
set_option Elab.async false
set_option linter.all false
set_option maxRecDepth 100000
set_option maxHeartbeats 1000000
namespace Vl
open PySem L2 Vm PyProof.Rows
section
variable {K:KK} {F H:Hp}
mutual
theorem rep_key:∀ (n:Nat) (p:PV) (v:V),keyN n p=true→Rep K F p v→KeyV F (nkOf p) v∧keyG p=true∧(nkOf p).depth≤n
 | n,.non,v,_,h=>by unfold Rep at h; subst h; exact ⟨by unfold nkOf KeyV; rfl,rfl,Nat.zero_le _⟩
 | n,.int i,v,_,h=>by unfold Rep at h; subst h; exact ⟨by unfold nkOf KeyV; rfl,rfl,Nat.zero_le _⟩
 | n,.str l,v,_,h=>by unfold Rep at h; obtain ⟨rfl,h2⟩:=h; exact ⟨by unfold nkOf KeyV; rfl,by unfold keyG; exact h2,Nat.zero_le _⟩
 | 0,.tup l,v,s,_=>by unfold keyN at s; cases s
 | n+1,.tup l,v,s,h=>by
  unfold keyN at s
  unfold Rep at h
  obtain ⟨a,vs,rfl,h2,h3⟩:=h
  obtain ⟨d1,d2,d3⟩:=rep_keys n l vs s h3
  exact ⟨by unfold nkOf KeyV; exact ⟨a,vs,rfl,h2,d1⟩,by unfold keyG; exact d2,by unfold nkOf NestedKey.depth; omega⟩
 | n,.bl _,v,s,_=>by unfold keyN at s; cases s
 | n,.lst _,v,s,_=>by unfold keyN at s; cases s
 | n,.dic _ _,v,s,_=>by unfold keyN at s; cases s
 | n,.exo _ _,v,s,_=>by unfold keyN at s; cases s
theorem rep_keys:∀ (n:Nat) (l:List PV) (vs:List V),keyNL n l=true→RepL K F l vs→KeyVs F (nkOfL l) vs∧keyGL l=true∧NestedKey.depthAll (nkOfL l)≤n
 | n,[],vs,_,h=>by unfold RepL at h; subst h; exact ⟨by unfold nkOfL KeyVs; rfl,rfl,Nat.zero_le _⟩
 | n,x :: xs,vs,s,h=>by
  unfold keyNL at s
  rw [Bool.and_eq_true] at s
  unfold RepL at h
  obtain ⟨v,r,rfl,h2,h3⟩:=h
  obtain ⟨a1,a2,a3⟩:=rep_key n x v s.1 h2
  obtain ⟨b1,b2,b3⟩:=rep_keys n xs r s.2 h3
  exact ⟨by unfold nkOfL KeyVs; exact ⟨v,r,rfl,a1,b1⟩,by unfold keyGL; rw [a2,b2]; rfl,by unfold nkOfL NestedKey.depthAll; omega⟩
end
mutual
theorem keyV_nested {P:Program} {w:World} {h:Heap} (ok:HOk P w H h):∀ (k:NestedKey) (v:V) (u:Value),KeyV H k v→RelV v u→NestedIs h k u
 | .none,v,u,g,r=>by unfold KeyV at g; subst g; cases r; exact .none
 | .num i,v,u,g,r=>by unfold KeyV at g; subst g; obtain ⟨t,rfl⟩:=r; exact .int _ _
 | .text x,v,u,g,r=>by unfold KeyV at g; subst g; obtain ⟨t,rfl⟩:=r; exact .text _ _
 | .tup ks,v,u,g,r=>by
  unfold KeyV at g
  obtain ⟨a,vs,rfl,⟨ob,_,h2⟩,h3⟩:=g
  cases r
  obtain ⟨_,_,its,rv,o,h4,h5,n,h6⟩:=(show ObjOk P w H h a (tq (ob,vs)) from ok a _ h2)
  exact .tup h4 h5 h6 (by simpa using keyVs_nested ok ks vs its h3 rv)
theorem keyVs_nested {P:Program} {w:World} {h:Heap} (ok:HOk P w H h):∀ (k:List NestedKey) (v:List V) (u:List Value),KeyVs H k v→Vals v u→NestedAll h k u
 | [],v,u,g,r=>by unfold KeyVs at g; subst g; cases r; exact .nil
 | k :: ks,v,u,g,r=>by
  unfold KeyVs at g
  obtain ⟨x,xs,rfl,h2,h3⟩:=g
  cases r with
  | cons r1 r2=>exact .cons (keyV_nested ok k x _ h2 r1) (keyVs_nested ok ks xs _ h3 r2)
end
end
mutual
theorem eqv_nk:∀ (n m:Nat) (p q:PV),keyN n p=true→keyN m q=true→(eqv p q=true ↔ nkOf p=nkOf q)
 | n,m,.non,q,_,h=>by cases q <;> simp [keyN] at h <;> simp [eqv,nkOf]
 | n,m,.int i,q,_,h=>by cases q <;> simp [keyN] at h <;> simp [eqv,nkOf]
 | n,m,.str b,q,_,h=>by cases q <;> simp [keyN] at h <;> simp [eqv,nkOf]
 | n,m,.tup l,q,s,h=>by
  cases n with
  | zero=>simp [keyN] at s
  | succ n =>
   cases q with
   | tup k =>
    cases m with
    | zero=>simp [keyN] at h
    | succ m =>
     unfold keyN at s h
     unfold eqv nkOf
     rw [eqvL_nk n m l k s h]
     exact ⟨fun z=>by rw [z],fun z=>by injection z⟩
   | non=>simp [eqv,nkOf]
   | int _=>simp [eqv,nkOf]
   | str _=>simp [eqv,nkOf]
   | _=>simp [keyN] at h
 | n,m,.bl _,q,s,_=>by simp [keyN] at s
 | n,m,.lst _,q,s,_=>by simp [keyN] at s
 | n,m,.dic _ _,q,s,_=>by simp [keyN] at s
 | n,m,.exo _ _,q,s,_=>by simp [keyN] at s
theorem eqvL_nk:∀ (n m:Nat) (p q:List PV),keyNL n p=true→keyNL m q=true→(eqvL p q=true ↔ nkOfL p=nkOfL q)
 | _,_,[],[],_,_=>by simp [eqvL]
 | _,_,[],_ :: _,_,_=>by simp [eqvL,nkOfL]
 | _,_,_ :: _,[],_,_=>by simp [eqvL,nkOfL]
 | n,m,x :: xs,y :: ys,s,h=>by
  unfold keyNL at s h
  rw [Bool.and_eq_true] at s h
  unfold eqvL nkOfL
  rw [Bool.and_eq_true,eqv_nk n m x y s.1 h.1,eqvL_nk n m xs ys s.2 h.2]
  exact ⟨fun z=>by rw [z.1,z.2],fun z=>by injection z with a b; exact ⟨a,b⟩⟩
end
theorem keyL_N{p:PV}(h:keyL p=true):keyN 8 p=true:=by cases p <;> simp [keyL] at h <;> simp [keyN]
theorem keyT_N{p:PV}(h:keyT p=true):keyN 8 p=true:=by cases p <;> simp [keyT] at h <;> simp [keyN,h]
theorem sameK_N{p:PV}{ks:List PV}(h:sameK p ks=true):keyN 8 p=true∧∀ q∈ks,keyN 8 q=true:=by
 unfold sameK at h
 rw [Bool.or_eq_true,Bool.and_eq_true,Bool.and_eq_true,List.all_eq_true,List.all_eq_true] at h
 rcases h with ⟨a,b⟩ | ⟨a,b⟩
 ·exact ⟨keyL_N a,fun q hq=>keyL_N (b q hq)⟩
 ·exact ⟨keyT_N a,fun q hq=>keyT_N (b q hq)⟩
section
variable {κ:Type} [DecidableEq κ] {f:κ→NestedKey}
theorem ix_val(inj:∀ a b,f a=f b→a=b){p:PV}{k:κ}(hp:nkOf p=f k)(h8:keyN 8 p=true):∀ {ks:List PV} {kvs:List (κ×V)},ks.map nkOf=kvs.map (fun q=>f q.1)→(∀ q∈ks,keyN 8 q=true)→valV kvs k=(dIx ks p).bind fun j=>(kvs.map (·.2))[j]?
 | [],[],_,_=>rfl
 | [],_ :: _,h,_=>by cases h
 | _ :: _,[],h,_=>by cases h
 | q :: ks,x :: kvs,h,g=>by
  rw [List.map_cons,List.map_cons] at h
  injection h with h1 h2
  have ih:=ix_val inj hp h8 h2 fun z hz=>g z (by simp [hz])
  have e:=eqv_nk 8 8 q p (g q (by simp)) h8
  unfold dIx
  by_cases hq:eqv q p=true
  ·rw [if_pos hq,valV_pos (inj _ _ (by rw [← h1,← hp]; exact e.mp hq))]; rfl
  ·rw [if_neg hq,valV_neg (fun z=>hq (e.mpr (by rw [h1,hp,z]))),ih]
   cases dIx ks p <;> rfl
theorem putK_cons{x:κ×V}{r:List (κ×V)}{k:κ}{v:V}(nd:((x :: r).map (·.1)).Nodup):putK (x :: r) k v=if x.1=k then (x.1,v) :: r else x :: putK r k v:=by
 unfold putK
 rw [List.any_cons,List.map_cons]
 by_cases h:x.1=k
 ·rw [if_pos h,decide_eq_true h,Bool.true_or,if_pos rfl,if_pos h]
  congr 1
  rw [List.map_cons,List.nodup_cons] at nd
  have:∀ y∈r,¬ y.1=k:=fun y hy z=>nd.1 (by rw [h,← z]; exact List.mem_map.mpr ⟨y,hy,rfl⟩)
  clear nd
  induction r with
  | nil=>rfl
  | cons y r ih=>rw [List.map_cons,if_neg (this y (by simp)),ih fun z hz=>this z (by simp [hz])]
 ·rw [if_neg h,decide_eq_false h,Bool.false_or,if_neg h]
  by_cases g:(r.any fun kv=>decide (kv.1=k))=true
  ·rw [if_pos g,if_pos g]
  ·rw [if_neg g,if_neg g]; rfl
theorem ix_put(inj:∀ a b,f a=f b→a=b){p:PV}{k:κ}(v:V)(hp:nkOf p=f k)(h8:keyN 8 p=true):∀ {ks:List PV} {kvs:List (κ×V)},ks.map nkOf=kvs.map (fun q=>f q.1)→(∀ q∈ks,keyN 8 q=true)→(kvs.map (·.1)).Nodup →
  (dPutK ks p).map nkOf=(putK kvs k v).map (fun q=>f q.1)∧(putK kvs k v).map (·.2)=dPutV ks (kvs.map (·.2)) p v
 | [],[],_,_,_=>⟨by simp [dPutK,putK,hp],by simp [dPutV,putK]⟩
 | [],_ :: _,h,_,_=>by cases h
 | _ :: _,[],h,_,_=>by cases h
 | q :: ks,x :: kvs,h,g,nd=>by
  rw [putK_cons nd]
  rw [List.map_cons,List.map_cons] at h
  injection h with h1 h2
  have nd':=nd
  rw [List.map_cons,List.nodup_cons] at nd'
  obtain ⟨ih1,ih2⟩:=ix_put inj v hp h8 h2 (fun z hz=>g z (by simp [hz])) nd'.2
  have e:=eqv_nk 8 8 q p (g q (by simp)) h8
  unfold dPutK
  rw [List.map_cons]
  unfold dPutV
  by_cases hq:eqv q p=true
  ·have hx:x.1=k:=inj _ _ (by rw [← h1,← hp]; exact e.mp hq)
   rw [if_pos hq,if_pos hx,if_pos hq,List.map_cons,List.map_cons,h1,h2,List.map_cons]
   exact ⟨rfl,rfl⟩
  ·have hx:¬ x.1=k:=fun z=>hq (e.mpr (by rw [h1,hp,z]))
   rw [if_neg hq,if_neg hx,if_neg hq,List.map_cons,List.map_cons,h1,ih1,List.map_cons,ih2]
   exact ⟨rfl,rfl⟩
end
def leafOf:PV→Leaf
 | .int i=>.num i
 | .str l=>.text ⟨l.toArray⟩
 | _=>.none
theorem leafOf_key{p:PV}(h:keyL p=true):nkOf p=(leafOf p).key:=by cases p <;> simp [keyL] at h <;> rfl
theorem leaf_is{K:KK}{F:Hp}{p:PV}{v:V}{u:Value}(h:keyL p=true)(r:Rep K F p v)(rv:RelV v u):plIs (leafOf p) u=true:=by
 cases p <;> simp [keyL] at h <;> unfold Rep at r
 ·subst r; cases rv; rfl
 ·subst r; obtain ⟨t,rfl⟩:=rv; show (decide (_=_) && true)=true; simp
 ·obtain ⟨rfl,_⟩:=r; obtain ⟨t,rfl⟩:=rv; show (Leaf.isOf _ _ && true)=true; rw [Bool.and_true]; exact mixKind_str K.P K.w _ t
theorem toLeaf{K:KK}{F:Hp}{o:Obj}{ks:List PV}{vs:List V}(h:DicK K F o (ks.map nkOf) vs)(hk:ks.all keyL=true):LeafK K o (ks.map nkOf) vs:=by
 rcases h with h | ⟨kvs,xs,es,ep,h1,h2,h3,h4,h5,h6,h7,h8⟩
 ·exact h
 ·cases ks with
  | nil =>
   cases kvs with
   | nil =>
    cases h5
    refine ⟨[],[],es,ep,h1,h2,rfl,h4,.nil,fun e he=>?_,?_,List.nodup_nil,Nat.zero_le _⟩
    ·have:es = #[]:=by simpa using h6
     subst this; simp at he
    ·rw [h6]; exact .nil
   | cons _ _=>cases h3
  | cons k ks =>
   cases kvs with
   | nil=>cases h3
   | cons x kvs =>
    exfalso
    rw [List.map_cons,List.map_cons] at h3
    injection h3 with h3 _
    rw [List.all_cons,Bool.and_eq_true] at hk
    cases h5 with
    | cons r _ =>
     obtain ⟨_,kv,_⟩:=r
     rw [← h3] at kv
     have hk1:=hk.1
     cases k <;> simp [keyL] at hk1 <;> (unfold nkOf KeyV at kv; cases kv)
theorem toTup{K:KK}{F:Hp}{o:Obj}{ks:List PV}{vs:List V}(h:DicK K F o (ks.map nkOf) vs)(hk:ks.all keyT=true):TupK K F o (ks.map nkOf) vs:=by
 rcases h with ⟨kvs,rs,es,ep,h1,h2,h3,h4,h5,h6,h7,h8,h9⟩ | h
 ·cases ks with
  | nil =>
   cases kvs with
   | nil =>
    cases h5
    have hes:es.toList=[]:=by cases h7':es.toList with
     | nil=>rfl
     | cons _ _=>rw [h7'] at h7; cases h7
    exact ⟨[],[],es,ep,h1,h2,rfl,h4,.nil,hes,List.nodup_nil,Nat.zero_le _⟩
   | cons _ _=>cases h3
  | cons k ks =>
   cases kvs with
   | nil=>cases h3
   | cons x kvs =>
    exfalso
    rw [List.map_cons,List.map_cons] at h3
    injection h3 with h3 _
    rw [List.all_cons,Bool.and_eq_true] at hk
    have hk1:=hk.1
    cases k <;> simp [keyT] at hk1
    unfold nkOf at h3
    generalize x.1=y at h3
    cases y <;> cases h3
 ·exact h
theorem sameK_cases{p:PV}{ks:List PV}(h:sameK p ks=true):(keyL p=true∧ks.all keyL=true) ∨ (keyT p=true∧ks.all keyT=true):=by
 unfold sameK at h
 rw [Bool.or_eq_true,Bool.and_eq_true,Bool.and_eq_true] at h
 exact h
section
variable {X:Cx} {pins:List (Addr×Obj)} {σ:L2.St} {F H:Hp} {s:Shared} {a:Addr} {p:PV} {y v:V} {u r:Value} {A:Around} {E:Value→Shared→Prop} {o:Obj} {ks:List PV} {vs:List V}
theorem dx_get?(I:Inv X pins σ H s)(e:H a=some (dHO a o)):s.heap.get? a=some o:=(show ObjOk X.prog X.w H s.heap a (dHO a o) from I.hok a _ e).1
theorem leaf_dict(hg:s.heap.get? a=some o){nks:List NestedKey}(h:LeafK (kkX X) o nks vs):∃ (kvs:List (Leaf×V)) (rs:List (Leaf×Value)),nks=kvs.map (fun p=>p.1.key)∧vs=kvs.map (·.2)∧L2.KV kvs rs∧s.heap.DictOf (plK X.prog X.w) a rs∧(kvs.map (·.1)).Nodup∧kvs.length≤sizeLine:=by
 obtain ⟨kvs,rs,es,ep,h1,h2,h3,h4,h5,h6,h7,h8,h9⟩:=h
 exact ⟨kvs,rs,h3,h4,h5,⟨o,es,ep,hg,h1,h2,h6,h7,h8⟩,by rw [h5.keys]; exact h8,h9⟩
theorem kn_keys{kvs:List (NestedKey×V)}{xs:List (NestedKey×Addr×Value)}(h:KN F kvs xs):kvs.map (·.1)=xs.map (·.1):=by
 induction h with
 | nil=>rfl
 | cons h t ih=>rw [List.map_cons,List.map_cons,ih,h.1]
theorem tup_dict(I:Inv X pins σ H s)(hg:s.heap.get? a=some o)(hf:Same F H){nks:List NestedKey}(h:TupK (kkX X) F o nks vs):∃ (kvs:List (NestedKey×V)) (xs:List (NestedKey×Addr×Value)),nks=kvs.map (·.1)∧vs=kvs.map (·.2)∧KN F kvs xs∧s.heap.DictOfH (nestedKind X.prog X.w) a xs∧(kvs.map (·.1)).Nodup∧kvs.length≤sizeLine:=by
 obtain ⟨kvs,xs,es,ep,h1,h2,h3,h4,h5,h6,h7,h8⟩:=h
 refine ⟨kvs,xs,h3,h4,h5,⟨o,es,ep,hg,h1,h2,h6,?_,h7⟩,by rw [kn_keys h5]; exact h7,h8⟩
 clear h6 h7 h8 h3 h4
 induction h5 with
 | nil=>intro x hx; simp at hx
 | cons q t ih =>
  intro x hx
  rcases List.mem_cons.mp hx with e | hx
  ·subst e
   obtain ⟨q1,q2,q3,_⟩:=q
   rw [← q1]
   exact ⟨keyV_nested I.hok _ _ _ (KeyV.tups (fun _ _=>hf _ _) _ _ q2) rfl,q3⟩
  ·exact ih x hx
theorem kn_val{kvs:List (NestedKey×V)}{xs:List (NestedKey×Addr×Value)}(r:KN F kvs xs)(k:NestedKey):RelO (valV kvs k) ((atKey xs k).map (·.2)):=by
 induction r with
 | nil=>exact True.intro
 | @cons p q ps qs h t ih =>
  obtain ⟨h1,_,_,h2⟩:=h
  by_cases e:p.1=k
  ·have e':q.1=k:=h1.symm.trans e
   have b:atKey (q :: qs) k=some q.2:=by simp [atKey,List.find?_cons,e']
   rw [valV_pos e,b]; exact h2
  ·have e':¬ q.1=k:=fun z=>e (h1.trans z)
   have b:atKey (q :: qs) k=atKey qs k:=by simp [atKey,List.find?_cons,e']
   rw [valV_neg e,b]; exact ih
theorem kn_repl{kvs:List (NestedKey×V)}{xs:List (NestedKey×Addr×Value)}(r:KN F kvs xs)(k:NestedKey){y:V}{u:Value}(ry:RelV y u):KN F (kvs.map fun kv=>if kv.1=k then (kv.1,y) else kv) (xs.map (putAt k u)):=by
 induction r with
 | nil=>exact .nil
 | @cons p q ps qs h t ih =>
  rw [List.map_cons,List.map_cons]
  refine .cons ?_ ih
  obtain ⟨h1,h2,h3,h4⟩:=h
  unfold putAt
  by_cases e:p.1=k
  ·rw [if_pos e,if_pos (h1.symm.trans e)]; exact ⟨h1,h2,h3,ry⟩
  ·rw [if_neg e,if_neg (fun z=>e (h1.trans z))]; exact ⟨h1,h2,h3,h4⟩
theorem kn_put{kvs:List (NestedKey×V)}{xs:List (NestedKey×Addr×Value)}(r:KN F kvs xs)(k:NestedKey){b:Addr}{y:V}{u:Value}(hb:KeyV F k (.ref b))(hd:k.depth≤8)(ry:RelV y u):KN F (putK kvs k y) (storedH xs k b u):=by
 have e:(kvs.any fun kv=>decide (kv.1=k))=(atKey xs k).isSome:=by
  rw [valV_any,(kn_val r k).isSome_eq,Option.isSome_map]
 unfold putK storedH
 rw [e]
 by_cases q:(atKey xs k).isSome=true
 ·rw [if_pos q,if_pos q]; exact kn_repl r k ry
 ·rw [if_neg q,if_neg q]; exact Paired.snoc r ⟨rfl,hb,hd,ry⟩
theorem tup_ref{v:V}(h:keyT p=true)(r:Rep (kkX X) H p v):∃ b,v = .ref b:=by
 cases p <;> simp [keyT] at h
 unfold Rep at r
 obtain ⟨b,_,e,_⟩:=r
 exact ⟨b,e⟩
theorem dx_getItem{Q:Value→Shared→Prop}(hu:A.units+10 < cLine)(I:Inv X pins σ H s)(e:H a=some (dHO a o))(dk:DicK (kkX X) H o (ks.map nkOf) vs)(hs:sameK p ks=true)(rp:Rep (kkX X) H p y)(ry:RelV y u)
  (hv:((dIx ks p).bind fun j=>vs[j]?)=some v)(h:∀ w' s',Inv X pins σ H s'→RelV v w'→Q w' s'):wpAny (model X.prog X.w) A (getItem (.ref a) u) Q E s:=by
 have hg:=dx_get? I e
 obtain ⟨h8,hk8⟩:=sameK_N hs
 rcases sameK_cases hs with ⟨hp,hks⟩ | ⟨hp,hks⟩
 ·obtain ⟨kvs,rs,h3,h4,h5,dd,nd,hz⟩:=leaf_dict hg (toLeaf dk hks)
  have hval:=ix_val (fun a b=>Leaf.key_inj) (leafOf_key hp) h8 h3 hk8
  rw [h4] at hv
  obtain ⟨w',hw,rw'⟩:=RelO.some_of (v:=v) (o:=valueAt rs (leafOf p)) (by rw [← hv,← hval]; exact h5.val _)
  exact wpAny_getItem_of (knd:=plK X.prog X.w) (leaf_is hp rp ry) dd.mapOf hw (h w' _ (I.tok _) rw')
 ·obtain ⟨kvs,xs,h3,h4,h5,dd,nd,hz⟩:=tup_dict I hg (Same.refl _) (toTup dk hks)
  obtain ⟨b,rfl⟩:=tup_ref hp rp
  cases ry
  obtain ⟨kv,_,kd⟩:=rep_key 8 p _ h8 rp
  have hval:=ix_val (f:=id) (fun a b z=>z) (k:=nkOf p) rfl h8 h3 hk8
  rw [h4] at hv
  obtain ⟨w',hw,rw'⟩:=RelO.some_of (v:=v) (o:=(atKey xs (nkOf p)).map (·.2)) (by rw [← hv,← hval]; exact kn_val h5 _)
  obtain ⟨q,hq,hq2⟩:=Option.map_eq_some_iff.mp hw
  refine wpAny_getItem_heap (knd:=nestedKind X.prog X.w) (show A.in1.units+8 < cLine by rw [Around.in1_units]; omega) ⟨keyV_nested I.hok _ _ _ kv rfl,kd⟩ dd hq ?_
  rw [hq2]
  exact h w' _ (I.tok _) rw'
theorem dx_in{Q:Value→Shared→Prop}(neg:Bool)(hu:A.units+10 < cLine)(I:Inv X pins σ H s)(e:H a=some (dHO a o))(hd:(a == sysModules)=false)(dk:DicK (kkX X) H o (ks.map nkOf) vs)(hs:sameK p ks=true)(rp:Rep (kkX X) H p y)(ry:RelV y u)
  (h:∀ s',Inv X pins σ H s'→Q (.bool (if neg then !(dIx ks p).isSome else (dIx ks p).isSome)) s'):wpAny (model X.prog X.w) A (compareOp (if neg then .NotIn else .In) u (.ref a)) Q E s:=by
 have hg:=dx_get? I e
 obtain ⟨h8,hk8⟩:=sameK_N hs
 have hix:∀ {n:Nat},dIx ks p=some n→n < ks.length:=by
  intro n
  have:∀ (ks:List PV) (n:Nat),dIx ks p=some n→n < ks.length:=by
   intro ks
   induction ks with
   | nil=>intro n h; cases h
   | cons q ks ih =>
    intro n h
    unfold dIx at h
    split at h
    ·cases h; simp
    ·cases hq:dIx ks p with
     | none=>rw [hq] at h; cases h
     | some m=>rw [hq] at h; cases h; have:=ih m hq; simp; omega
  exact this ks n
 rcases sameK_cases hs with ⟨hp,hks⟩ | ⟨hp,hks⟩
 ·obtain ⟨kvs,rs,h3,h4,h5,dd,nd,hz⟩:=leaf_dict hg (toLeaf dk hks)
  have hval:=ix_val (fun a b=>Leaf.key_inj) (leafOf_key hp) h8 h3 hk8
  have q:=(h5.val (leafOf p)).isSome_eq
  have hlen:(kvs.map (·.2)).length=ks.length:=by have:=congrArg List.length h3; simpa using this.symm
  have hb:(dIx ks p).isSome=(valueAt rs (leafOf p)).isSome:=by
   rw [← q,hval]
   cases hx:dIx ks p with
   | none=>rfl
   | some n=>have:=hix hx; rw [Option.bind_some,List.getElem?_eq_getElem (show n < (kvs.map (·.2)).length by omega)]; rfl
  cases neg with
  | false=>exact wpAny_in_of (knd:=plK X.prog X.w) (leaf_is hp rp ry) hd dd.mapOf (by rw [← hb]; exact h _ (I.tok _))
  | true=>exact wpAny_notIn_of (knd:=plK X.prog X.w) (leaf_is hp rp ry) hd dd.mapOf (by rw [← hb]; exact h _ (I.tok _))
 ·obtain ⟨kvs,xs,h3,h4,h5,dd,nd,hz⟩:=tup_dict I hg (Same.refl _) (toTup dk hks)
  obtain ⟨b,rfl⟩:=tup_ref hp rp
  cases ry
  obtain ⟨kv,_,kd⟩:=rep_key 8 p _ h8 rp
  have hval:=ix_val (f:=id) (fun a b z=>z) (k:=nkOf p) rfl h8 h3 hk8
  have q:=(kn_val h5 (nkOf p)).isSome_eq
  rw [Option.isSome_map] at q
  have hlen:(kvs.map (·.2)).length=ks.length:=by have:=congrArg List.length h3; simpa using this.symm
  have hb:(dIx ks p).isSome=(atKey xs (nkOf p)).isSome:=by
   rw [← q,hval]
   cases hx:dIx ks p with
   | none=>rfl
   | some n=>have:=hix hx; rw [Option.bind_some,List.getElem?_eq_getElem (show n < (kvs.map (·.2)).length by omega)]; rfl
  have hr:A.in1.units+8 < cLine:=by rw [Around.in1_units]; omega
  cases neg with
  | false=>exact wpAny_in_heap (knd:=nestedKind X.prog X.w) hr ⟨keyV_nested I.hok _ _ _ kv rfl,kd⟩ hd dd (by rw [← hb]; exact h _ (I.tok _))
  | true=>exact wpAny_notIn_heap (knd:=nestedKind X.prog X.w) hr ⟨keyV_nested I.hok _ _ _ kv rfl,kd⟩ hd dd (by rw [← hb]; exact h _ (I.tok _))
theorem dx_setItem{Q:Unit→Shared→Prop}(hu:A.units+10 < cLine)(I:Inv X pins σ H s)(hf:Same F H)(e:H a=some (dHO a o))(dk:DicK (kkX X) F o (ks.map nkOf) vs)(hs:sameK p ks=true)(rp:Rep (kkX X) F p y)(ry:RelV y u)(rv:RelV v r)(hz:ks.length < sizeLine)
  (h:∀ o' s',DicK (kkX X) F o' ((dPutK ks p).map nkOf) (dPutV ks vs p v)→Inv X pins σ (upd H a (dHO a o')) s'→Q () s'):wpAny (model X.prog X.w) A (setItem (.ref a) u r) Q E s:=by
 have hg:=dx_get? I e
 obtain ⟨h8,hk8⟩:=sameK_N hs
 have mu:Mut (H a):=by rw [e]; exact True.intro
 have dkl:=dk.len
 rcases sameK_cases hs with ⟨hp,hks⟩ | ⟨hp,hks⟩
 ·obtain ⟨kvs,rs,h3,h4,h5,dd,nd,hz'⟩:=leaf_dict hg (toLeaf dk hks)
  have hlen:kvs.length=ks.length:=by have:=congrArg List.length h3; simpa using this.symm
  obtain ⟨p1,p2⟩:=ix_put (fun a b=>Leaf.key_inj) v (leafOf_key hp) h8 h3 hk8 nd
  refine wpAny_setItem_pairs (knd:=plK X.prog X.w) (hsz:=by rw [← h5.length]; exact hz') (leaf_is hp rp ry) dd fun h' dd' hs'=>?_
  obtain ⟨o',es,ep,g1,g2,g3,g4,g5,g6⟩:=dd'
  refine h o' _ (.inl ⟨putK kvs (leafOf p) v,_,es,ep,g2,g3,p1,by rw [p2,h4],h5.put _ rv,g4,g5,g6,?_⟩) (d_write (t':=s.toks+1) I mu hs' ⟨o',g1⟩ ⟨g1,⟨o',g1⟩,fun h1 h2 z k=>k _ z⟩)
  have:=length_putK kvs (leafOf p) v
  omega
 ·obtain ⟨kvs,xs,h3,h4,h5,dd,nd,hz'⟩:=tup_dict I hg hf (toTup dk hks)
  have rpH:Rep (kkX X) H p y:=Rep.mono hf _ _ rp
  obtain ⟨b,rfl⟩:=tup_ref hp rpH
  cases ry
  obtain ⟨kvF,_,kd⟩:=rep_key 8 p _ h8 rp
  obtain ⟨kv,_,_⟩:=rep_key 8 p _ h8 rpH
  have hlen:kvs.length=ks.length:=by have:=congrArg List.length h3; simpa using this.symm
  obtain ⟨p1,p2⟩:=ix_put (f:=id) (fun a b z=>z) (k:=nkOf p) v rfl h8 h3 hk8 nd
  refine wpAny_setItem_heap (knd:=nestedKind X.prog X.w) (hsz:=by rw [← Paired.length h5]; exact hz') (show A.in1.units+8 < cLine by rw [Around.in1_units]; omega) ⟨keyV_nested I.hok _ _ _ kv rfl,kd⟩ dd fun h' dd' hs'=>?_
  obtain ⟨o',es,ep,g1,g2,g3,g4,g5,g6⟩:=dd'
  refine h o' _ (.inr ⟨putK kvs (nkOf p) v,_,es,ep,g2,g3,p1,by rw [p2,h4],kn_put h5 _ kvF kd rv,g4,g6,?_⟩) (d_write (t':=s.toks+_) I mu hs' ⟨o',g1⟩ ⟨g1,⟨o',g1⟩,fun h1 h2 z k=>k _ z⟩)
  have:=length_putK kvs (nkOf p) v
  omega
end
end Vl
end
section
set_option Elab.async false
set_option linter.all false
set_option maxRecDepth 100000
set_option maxHeartbeats 1000000
namespace Vl
open PySem L2 Vm PyProof.Rows
section
variable {K:KK} {F H F1 H1:Hp}
theorem dic_exact{o:Obj}{nks:List NestedKey}{vs:List V}(h:DicK K F o nks vs):o.ExactDict:=by
 rcases h with ⟨_,_,_,_,z,_⟩ | ⟨_,_,_,_,z,_⟩ <;> exact z
theorem Ext.new(h:Same F H)(t:Tups F H){p:Addr}{o:HO}(ho:∀ xs,o ≠ tq xs)(hp:H p=none):Ext F H F (upd H p o) :=
 ⟨Same.refl _,same_new hp,h.trans (same_new hp),tups_new t ho (h.free hp),fun _ q=>.inl q⟩
theorem rep_dic{ks l:List PV}{v:V}(h:Rep K F (.dic ks l) v):∃ a o vs,v = .ref a∧F a=some (dHO a o)∧(a == sysModules)=false∧DicK K F o (ks.map nkOf) vs∧ks.all keyG=true∧RepL K F l vs:=by
 unfold Rep at h; exact h
theorem own_dic{d:Nat}{fp:List Addr}{ks l:List PV}{v:V}(h:Own K F H (d+1) fp (.dic ks l) v):∃ a o vs fps,v = .ref a∧H a=some (dHO a o)∧(a == sysModules)=false∧DicK K F o (ks.map nkOf) vs∧ks.all keyG=true∧fp=a :: fps.flatten∧OwnL (Own K F H d) fps l vs:=by
 rcases h with ⟨l',a,vs,fps,h1,h2,h3,h4⟩ | ⟨_,h,_⟩
 ·rcases h2 with ⟨e,_⟩ | ⟨ks',o,e,z1,z2,z3,z4⟩ | ⟨_,_,e,_⟩
  ·cases e
  ·cases e
   exact ⟨a,o,vs,fps,h1,z1,z2,z3,z4,h3,h4⟩
  ·cases e
 ·cases h
theorem own_mkD{d:Nat}{ks l:List PV}{a:Addr}{o:Obj}{vs:List V}{fps:List (List Addr)}(z1:H a=some (dHO a o))(z2:(a == sysModules)=false)(z3:DicK K F o (ks.map nkOf) vs)(z4:ks.all keyG=true)(h:OwnL (Own K F H d) fps l vs):Own K F H (d+1) (a :: fps.flatten) (.dic ks l) (.ref a) :=
 .inl ⟨l,a,vs,fps,rfl,.inr (.inl ⟨ks,o,rfl,z1,z2,z3,z4⟩),rfl,h⟩
theorem rv_partD{Hs:Hp}{t:Tg}{ks l:List PV}{v:V}(hf:Same F H)(h:RV K F H Hs (t,.dic ks l) v):∃ a o vs,v = .ref a∧H a=some (dHO a o)∧(a == sysModules)=false∧DicK K H o (ks.map nkOf) vs∧RepL K H l vs∧∀ (j:Nat) p u,l[j]? = some p→vs[j]? = some u→∀ Hs',RV K F H Hs' (dn t,p) u:=by
 have zero:Rep K F (.dic ks l) v→∃ a o vs,v = .ref a∧H a=some (dHO a o)∧(a == sysModules)=false∧DicK K H o (ks.map nkOf) vs∧RepL K H l vs∧∀ (j:Nat) p u,l[j]? = some p→vs[j]? = some u→∀ Hs',RV K F H Hs' (.fz,p) u:=fun r=>by
  obtain ⟨a,o,vs,rfl,h2,h3,h4,h5,h6⟩:=rep_dic r
  refine ⟨a,o,vs,rfl,hf _ _ h2,h3,h4.tups fun _ _=>hf _ _,h6.mono hf _ _,fun j p u e1 e2 Hs'=>.fz ?_⟩
  obtain ⟨u',e3,r⟩:=h6.get e1
  rw [e2] at e3; cases e3
  exact r
 have own:∀ {d:Nat} {fp:List Addr},Own K F H d fp (.dic ks l) v→∃ a o vs,v = .ref a∧H a=some (dHO a o)∧(a == sysModules)=false∧DicK K H o (ks.map nkOf) vs∧RepL K H l vs∧∀ (j:Nat) p u,l[j]? = some p→vs[j]? = some u→∀ Hs',RV K F H Hs' (dn (.bw d),p) u:=by
  intro d fp h
  cases d with
  | zero=>exact zero h.2
  | succ d =>
   obtain ⟨a,o,vs,fps,rfl,h2,h3,h4,h5,h6,h7⟩:=own_dic h
   refine ⟨a,o,vs,rfl,h2,h3,h4.tups fun _ _=>hf _ _,ownl_rep hf h7,fun j p u e1 e2 Hs'=>?_⟩
   obtain ⟨f,o⟩:=own_part h7 e1 e2
   cases d with
   | zero=>exact .fz o.2
   | succ d=>exact ⟨[],f,o⟩
 cases t with
 | fz=>obtain ⟨_,r⟩:=h; exact zero r
 | bw d=>obtain ⟨_,fp,h⟩:=h; exact own h
 | ow d =>
  obtain ⟨fp,h,_⟩:=h
  obtain ⟨a,o,vs,h1,h2,h3,h4,h5,h6⟩:=own h
  refine ⟨a,o,vs,h1,h2,h3,h4,h5,?_⟩
  cases d with
  | zero=>exact h6
  | succ d=>cases d with
   | zero=>exact h6
   | succ d=>exact h6
end
section
variable {C:Cn} {cm:Bool} {k:Nat} {N:List Str} {sc so:Scope} {a b c e o tg kx:Expr} {es:List Expr} {A B J:EX} {As:EXs} {T U:TX} {pos p tpos apos cpos p1 p2:Pos} {X:Cx} {x:Str}
theorem Sta.u10(S:Sta C cm k N sc X):X.A.units+10 < cLine:=by have:=S.u; omega
def tDX(K:KK)(td ty:TE):TE:=fun σ H Q=>td σ H fun x H1=>ty σ H1 fun y H2=>∃ a o ks vs p v,x = .ref a∧H2 a=some (dHO a o)∧DicK K H2 o (ks.map nkOf) vs∧sameK p ks=true∧Rep K H2 p y∧((dIx ks p).bind fun j=>vs[j]?)=some v∧Q v H2
theorem pe_dx{td ty:TE}{i:Expr}(hu:X.A.units+10 < cLine)(ho:PE X o td)(hi:PE X i ty)(hs:NoSl i):PE X (.Subscript o i pos) (tDX (kkX X) td ty):=by
 refine ⟨fun pins s σ H Q I h=>?_⟩
 refine subD_of PySem.F.slot_dict_getitem.lookup hs (thn (ho.run pins s σ H _ I h) fun u s1 ⟨x,H1,I1,rx,q1⟩=>thn (hi.run pins s1 σ H1 _ I1 q1) fun iv s2 ⟨y,H2,I2,ry,a,ob,ks,vs,p,v,ex,g1,g2,g3,g4,g5,q2⟩=>?_)
 subst ex
 obtain rfl:u=Value.ref a:=rx
 exact ⟨⟨ob,dx_get? I2 g1,(dic_exact g2).1⟩,dx_getItem hu I2 g1 g2 g3 g4 ry g5 fun w' s3 I3 rw'=>⟨v,H2,I3,rw',q2⟩⟩
theorem de_didx(ha:DE C cm k N sc a A)(hb:DE C cm k N sc b B)(hs:NoSl b:=by exact fun _ _=>rfl):DE C cm k N sc (.Subscript a b pos) (eDIdx A B):=by
 obtain ⟨ta,pa,qa⟩:=ha
 obtain ⟨tb,pb,qb⟩:=hb
 refine ⟨fun W=>tDX C.K (ta W) (tb W),fun X S W T=>by rw [← S.KK]; exact pe_dx S.u10 (pa X S W T) (pb X S W T) hs,fun W σ Γ F0 H0 F H Q g h=>?_⟩
 refine qa W σ Γ F0 H0 F H _ g (EOk.bind h fun x v F1 H1 ex e1 r1 h1=>?_)
 refine qb W σ Γ F0 H0 F1 H1 _ (g.next e1) (EOk.bind (h1.next e1) fun y u F2 H2 ey e2 r2 h2=>?_)
 have h3:=h2.next e2
 have ry:=r2.rep e2.fh
 have rx:=r1.ext e2
 obtain ⟨t,q⟩:=x
 cases q with
 | dic ks l =>
  obtain ⟨ad,ob,vs,rfl,g1,g2,g3,g4,g5⟩:=rv_partD e2.fh rx
  have h4:EOk C W σ F2 H2 Q (if sameK y.2 ks then (match dGet ks l y.2 with
   | some x=>.ok (dn t,x)
   | none=>.bad) else .bad):=h3
  by_cases hk:sameK y.2 ks=true
  ·rw [if_pos hk] at h4
   cases hd:dGet ks l y.2 with
   | none=>rw [hd] at h4; exact h4.elim
   | some z =>
    rw [hd] at h4
    unfold dGet at hd
    cases hj:dIx ks y.2 with
    | none=>rw [hj] at hd; cases hd
    | some j =>
     rw [hj] at hd
     have hd:l[j]? = some z:=hd
     obtain ⟨w,hw,rw'⟩:=g4.get hd
     exact ⟨ad,ob,ks,vs,y.2,w,rfl,g1,g3,hk,ry,by rw [hj]; exact hw,h4 w F2 H2 (Ext.refl e2.fh e2.tp) (g5 j z w hd hw _)⟩
  ·rw [if_neg hk] at h4; exact h4.elim
 | _=>exact h3.elim
def rDIn(K:KK)(neg:Bool):R2:=fun x y H Q=>∃ p q b,Rep K H p x∧Rep K H q y∧dinB p q = .ok b∧Q (.bl (if neg then !b else b)) H
theorem op_dinP(hu:X.A.units+10 < cLine)(neg:Bool):OpR X (compareOp (if neg then .NotIn else .In)) (rDIn (kkX X) neg):=by
 intro pins s σ H x y v u Q I rx ry h
 obtain ⟨p,q,b,rp,rq,hb,hq⟩:=h
 cases q with
 | dic ks l =>
  obtain ⟨a,ob,vs,rfl,g1,g2,g3,g4,g5⟩:=rep_dic rq
  cases ry
  have hb:(if sameK p ks then (.ok (dIx ks p).isSome:Res Bool) else .bad) = .ok b:=hb
  by_cases hk:sameK p ks=true
  ·rw [if_pos hk] at hb
   cases hb
   exact dx_in neg hu I g1 g2 g3 hk rp rx fun s' I'=>⟨_,H,I',by cases neg <;> rfl,hq⟩
  ·rw [if_neg hk] at hb; cases hb
 | _=>cases hb
theorem dinB_noexc{p q:PV}{c:Nat}:dinB p q ≠ .exc c:=by
 intro h
 cases q with
 | dic ks l =>
  have h:(if sameK p ks then (.ok (dIx ks p).isSome:Res Bool) else .bad) = .exc c:=h
  split at h <;> cases h
 | _=>cases h
theorem op2_dnotIn:Op2 C (rDIn C.K true) opDNotIn:=by
 intro p q v u H Q rp rq
 unfold opDNotIn
 cases e:dinB p q with
 | ok b=>exact fun hq=>⟨p,q,b,rp,rq,e,hq fun F=>rep_bl⟩
 | exc c=>exact (dinB_noexc e).elim
 | bad=>trivial
theorem dc_dnotIn(ha:DE C cm k N sc a A)(hb:DE C cm k N sc b B):DCm C cm k N sc .NotIn a b (eOp2 opDNotIn A B):=dc_op (r:=rDIn C.K true) (fun X S=>by rw [← S.KK]; exact op_dinP S.u10 true) op2_dnotIn ha hb
def dNew:Obj:={ cls:=.type "dict",data:=.dict #[] }
theorem new_ok{pins:List (Addr×Obj)}{σ:L2.St}{H:Hp}{s:Shared}{t':Nat}(I:Inv X pins σ H s):Inv X pins σ (upd H s.heap.objs.size (dHO s.heap.objs.size dNew)) { s with heap:=s.heap.push dNew,toks:=t' }∧(s.heap.objs.size == sysModules)=false :=
 ⟨I.laid (a:=s.heap.objs.size) (t':=t') (fun _ _ q=>Heap.get?_push_of_some _ q) (Nat.le_refl _) ⟨Heap.get?_push_size _ rfl,⟨_,Heap.get?_push_size _ rfl⟩,fun h1 h2 z k=>k _ z⟩,beq_eq_false_iff_ne.mpr (Ne.symm (Nat.ne_of_lt I.big))⟩
end
end Vl
end
section
set_option Elab.async false
set_option linter.all false
set_option maxRecDepth 100000
set_option maxHeartbeats 1000000
namespace Vl
open PySem L2 Vm PyProof.Rows
section
variable {C:Cn} {cm:Bool} {k:Nat} {N:List Str} {sc so:Scope} {a b c e f o tg kx:Expr} {es:List Expr} {A B J E:EX} {As:EXs} {T U:TX} {pos p tpos apos cpos p1 p2 pos':Pos} {X:Cx} {x:Str}
theorem fzK_ok{y:TV}{q:PV}(h:fzK y = .ok q):y=(.fz,q):=by
 obtain ⟨t,p⟩:=y
 cases t with
 | fz=>cases h; rfl
 | _=>cases h
theorem fzK_noexc{y:TV}{c:Nat}:fzK y ≠ .exc c:=by
 obtain ⟨t,p⟩:=y
 cases t <;> (intro h; cases h)
def sDX(K:KK)(td ty tv:TE):TS:=fun D σ H=>tv σ H fun v H1=>td σ H1 fun x H2=>ty σ H2 fun y H3=>∃ F a o ks vs p,x = .ref a∧Same F H3∧H3 a=some (dHO a o)∧DicK K F o (ks.map nkOf) vs∧sameK p ks=true∧Rep K F p y∧ks.length < sizeLine ∧
 ∀ o',DicK K F o' ((dPutK ks p).map nkOf) (dPutV ks vs p v)→D.nx σ (upd H3 a (dHO a o'))
theorem ps_dx{td ty tv:TE}{i value:Expr}(hu:X.A.units+10 < cLine)(ho:PE X o td)(hi:PE X i ty)(hv:PE X value tv)(hs:swapsWith value (some (.Subscript o i pos')) pos.line X.env=pure false):PS X (.Assign [.Subscript o i pos'] value pos) (sDX (kkX X) td ty tv):=by
 refine ⟨fun pins s σ H D I h=>?_⟩
 refine wpAny_Assign_Subscript (thn (hv.run pins s σ H _ I h) fun r s1 ⟨v,H1,I1,rv,q1⟩=>thn (ho.run pins s1 σ H1 _ I1 q1) fun u s2 ⟨x,H2,I2,rx,q2⟩=>thn (hi.run pins s2 σ H2 _ I2 q2) fun iv s3 ⟨y,H3,I3,ry,F,a,ob,ks,vs,p,ex,g0,g1,g2,g3,g4,g5,q3⟩=>?_) hs
 subst ex
 obtain rfl:u=Value.ref a:=rx
 exact dx_setItem hu I3 g0 g1 g2 g3 g4 ry rv g5 fun o' s4 d' I4=>⟨σ,_,I4,q3 o' d'⟩
def tDisp1(K:KK)(tuple:Bool)(tk tv:TE):TE:=fun σ H Q=>∀ p,H p=none→(p == sysModules)=false→tk σ (upd H p (dHO p dNew)) fun y H1=>tv σ H1 fun v H2=>∃ F pk,Same F H2∧H2 p=some (dHO p dNew)∧(if tuple then keyT pk else keyL pk)=true∧Rep K F pk y ∧
 ∀ o',DicK K F o' ([pk].map nkOf) [v]→Q (.ref p) (upd H2 p (dHO p o'))
theorem pe_disp1{tk tv:TE}{ke ve:Expr}(tuple:Bool)(hu:X.A.units+10 < cLine)(hk:PE X ke tk)(hv:PE X ve tv):PE X (.Dict [some ke] [ve] pos) (tDisp1 (kkX X) tuple tk tv):=by
 refine ⟨fun pins s σ H Q I q=>?_⟩
 obtain ⟨I1,hd⟩:=new_ok (t':=s.toks) I
 have q:=q _ (I.hok.fresh (Nat.le_refl _)) hd
 cases tuple with
 | false =>
  refine wpAny_Dict_walk (knd:=plK X.prog X.w) (keys:=[some ke]) (values:=[ve]) rfl rfl (by simp) (by simp) (pairTrees_cons_walk (thn (hk.run pins _ σ _ _ I1 q) fun u s1 ⟨y,H1,I2,ry,q1⟩=>thn (hv.run pins s1 σ H1 _ I2 q1) fun r s2 ⟨v,H2,I3,rv,F,pk,g0,g1,g2,g3,q2⟩=>pairTrees_nil_walk ?_))
  have g2:keyL pk=true:=g2
  have hg:=dx_get? I3 g1
  have rk:=Rep.mono g0 _ _ g3
  refine ⟨[(leafOf pk,r)],⟨leaf_is g2 rk ry,rfl,trivial⟩,⟨dNew,#[],0,hg,⟨rfl,rfl,rfl⟩,rfl,fun e he=>by simp at he,.nil,List.nodup_nil⟩,fun h' dd' hs'=>?_⟩
  obtain ⟨o',es,ep,k1,k2,k3,k4,k5,k6⟩:=dd'
  have dk:DicK (kkX X) F o' ([pk].map nkOf) [v]:=.inl ⟨[(leafOf pk,v)],_,es,ep,k2,k3,by simp [leafOf_key g2],rfl,Paired.cons ⟨rfl,rv⟩ Paired.nil,k4,k5,k6,by rw [sizeLine_eq]; show (1:Nat)≤16777216; decide⟩
  exact ⟨.ref s.heap.objs.size,_,d_write (ob:=dHO s.heap.objs.size o') (t':=s2.toks+1) I3 (by rw [g1]; exact True.intro) hs' ⟨o',k1⟩ ⟨k1,⟨o',k1⟩,fun h1 h2 z k=>k _ z⟩,rfl,q2 o' dk⟩
 | true =>
  rw [arm_eval_Dict,zip_pairTrees [some ke] [ve] X.env pos rfl rfl,dictDisplay_pairs (pairTrees [some ke] [ve] X.env pos) (fun z=>by cases z) (by show (1:Nat) < 17; decide)]
  refine wpAny_bind (wpAny_standAt (wpAny_bind (wpAny_subDictH (knd:=nestedKind X.prog X.w) (Q:=fun d s'=>wpAny (model X.prog X.w) X.A (pure (Value.ref d)) (EP X pins σ Q) X.xe s') (show X.A.units+8 < cLine by omega) (by show (1:Nat)≤15; decide)
   (pairTrees_cons_walk (thn (hk.run pins _ σ _ _ I1 q) fun u s1 ⟨y,H1,I2,ry,q1⟩=>thn (hv.run pins s1 σ H1 _ I2 q1) fun r s2 ⟨v,H2,I3,rv,F,pk,g0,g1,g2,g3,q2⟩=>pairTrees_nil_walk ?_)))))
  have g2:keyT pk=true:=g2
  have hg:=dx_get? I3 g1
  have rk:=Rep.mono g0 _ _ g3
  obtain ⟨b,rfl⟩:=tup_ref g2 rk
  cases ry
  obtain ⟨kv,_,kd⟩:=rep_key 8 pk _ (keyT_N g2) rk
  obtain ⟨kvF,_,_⟩:=rep_key 8 pk _ (keyT_N g2) g3
  refine ⟨[(nkOf pk,b,r)],⟨rfl,rfl,⟨keyV_nested I3.hok _ _ _ kv rfl,kd⟩,trivial⟩,⟨dNew,#[],0,hg,⟨rfl,rfl,rfl⟩,rfl,rfl,fun _ hx=>by simp at hx,List.nodup_nil⟩,fun h' tk dd' hs'=>?_⟩
  obtain ⟨o',es,ep,k1,k2,k3,k4,k5,k6⟩:=dd'
  have dk:DicK (kkX X) F o' ([pk].map nkOf) [v]:=.inr ⟨[(nkOf pk,v)],[(nkOf pk,b,r)],es,ep,k2,k3,rfl,rfl,Paired.cons ⟨rfl,kvF,kd,rv⟩ Paired.nil,k4,by simp,by rw [sizeLine_eq]; show (1:Nat)≤16777216; decide⟩
  exact wpAny_pure ⟨.ref s.heap.objs.size,_,d_write (ob:=dHO s.heap.objs.size o') (t':=tk) I3 (by rw [g1]; exact True.intro) hs' ⟨o',k1⟩ ⟨k1,⟨o',k1⟩,fun h1 h2 z k=>k _ z⟩,rfl,q2 o' dk⟩
end
end Vl
end
section
set_option Elab.async false
set_option linter.all false
set_option maxRecDepth 100000
set_option maxHeartbeats 1000000
namespace Vl
open PySem L2 Vm PyProof.Rows
section
variable {C:Cn} {F0 H0 F H F1 H1:Hp} {Γ:En} {σ:L2.St}
theorem dput_new{α:Type}{p:PV}{x:α}:∀ {ks:List PV} {l:List α},dIx ks p=none→ks.length=l.length→dPutK ks p=ks++[p]∧dPutV ks l p x=l++[x]
 | [],[],_,_=>⟨rfl,rfl⟩
 | [],_ :: _,_,h=>by cases h
 | _ :: _,[],_,h=>by cases h
 | k :: ks,v :: l,h,e=>by
  unfold dIx at h
  by_cases hk:eqv k p=true
  ·rw [if_pos hk] at h; cases h
  ·rw [if_neg hk] at h
   have h':dIx ks p=none:=by
    cases z:dIx ks p with
    | none=>rfl
    | some j=>rw [z] at h; cases h
   obtain ⟨a,b⟩:=dput_new (x:=x) h' (by simpa using e)
   unfold dPutK dPutV
   rw [if_neg hk,if_neg hk,a,b]
   exact ⟨rfl,rfl⟩
def Go(C:Cn)(F0 H0 F H:Hp)(Γ:En)(σ:L2.St)(i:Nat)(fp:List Addr)(v:V):Prop:=∀ (F2 H2 H3:Hp) (d':Nat) (p':PV) (fp':List Addr),Ext F H F2 H2→(∀ a,a ∉ fp→H3 a=H2 a)→(∀ a∈fp,∀ xs,H3 a ≠ some (tq xs))→Own C.K F2 H3 d' fp' p' v→fp'.Nodup→(∀ a∈fp',a∈fp ∨ (H a=none∧F2 a=none))→GoodS C.K F0 H0 (Γ.set i (some (.ow d',p'))) σ F2 H3
theorem good_go{i:Nat}{d:Nat}{p:PV}(g:GoodS C.K F0 H0 Γ σ F H)(e:Γ.get i=some (.ow d,p)):∃ v fp,σ[i]? = some (some v)∧Own C.K F H d fp p v∧fp.Nodup∧(∀ a∈fp,F a=none∧H0 a=none)∧Go C F0 H0 F H Γ σ i fp v:=by
 obtain ⟨v,fp,h1,h2,h3,h4,h5⟩:=good_chg g e
 exact ⟨v,fp,h1,h2,h3,h4,fun _ _ _ _ _ _ a b c d e f=>h5 a b c d e f⟩
theorem Go.step{i d:Nat}{fp fp5:List Addr}{v:V}{p:PV}{x:Sl}{H5:Hp}(go:Go C F0 H0 F H Γ σ i fp v)(own:Own C.K F H d fp p v)(fr:∀ a∈fp,F a=none∧H0 a=none)(e:Ext F H F1 H1)(hfp:∀ a∈fp5,a∈fp ∨ (H a=none∧F1 a=none))(hsub:∀ a∈fp,a∈fp5)(h5:∀ a,a ∉ fp→H5 a=H1 a)(n5:∀ a∈fp5,H5 a ≠ none):Go C F0 H0 F1 H5 (Γ.set i x) σ i fp5 v:=by
 intro F2 H2 H3 d' p' fp' e2 k1 k2 o' nd' sub
 have hth:∀ a∈fp,H a ≠ none:=fun a ha=>by obtain ⟨_,z,_⟩:=own.there d a ha; rw [z]; simp
 have f1n:∀ a∈fp5,F1 a=none:=fun a ha=>by
  rcases hfp a ha with z | z
  ·cases q:F1 a with
   | none=>rfl
   | some o =>
    rcases e.nw a (by rw [q]; simp) with w | w
    ·exact (w (fr a z).1).elim
    ·exact (hth a z w).elim
  ·exact z.2
 have f2n:∀ a∈fp5,F2 a=none:=fun a ha=>by
  cases q:F2 a with
  | none=>rfl
  | some o =>
   rcases e2.nw a (by rw [q]; simp) with w | w
   ·exact (w (f1n a ha)).elim
   ·exact (n5 a ha w).elim
 have dec:∀ a,Decidable (a∈fp):=fun a=>Classical.propDecidable _
 let H2':Hp:=fun a=>@ite _ (a∈fp) (dec a) (H a) (H3 a)
 have t1:∀ a,a∈fp→H2' a=H a:=fun a ha=>if_pos ha
 have t2:∀ a,a ∉ fp→H2' a=H3 a:=fun a ha=>if_neg ha
 have g:=go F2 H2' H3 d' p' fp' ⟨e.ff.trans e2.ff,fun a o z=>?_,fun a o z=>?_,fun a xs z=>?_,fun a z=>?_⟩ (fun a ha=>(t2 a ha).symm) (fun a ha=>k2 a (hsub a ha)) o' nd' (fun a ha=>?_)
 ·rw [List.set_set]; exact g
 ·by_cases ha:a∈fp
  ·rw [t1 a ha]; exact z
  ·have h5':a ∉ fp5:=fun w=>by
    rcases hfp a w with q | q
    ·exact ha q
    ·rw [q.1] at z; cases z
   rw [t2 a ha,k1 a h5']
   exact e2.hh _ _ (by rw [h5 a ha]; exact e.hh _ _ z)
 ·have h5':a ∉ fp5:=fun w=>by rw [f2n a w] at z; cases z
  rw [t2 a (fun w=>h5' (hsub a w)),k1 a h5']
  exact e2.fh _ _ z
 ·by_cases ha:a∈fp
  ·rw [t1 a ha] at z
   obtain ⟨ob,q1,q2⟩:=own.there d a ha
   rw [q1] at z; cases z
   exact (q2 _ rfl).elim
  ·rw [t2 a ha] at z
   by_cases w:a∈fp5
   ·exact (k2 a w xs z).elim
   ·rw [k1 a w] at z; exact e2.tp _ _ z
 ·rcases e2.nw a z with w | w
  ·exact e.nw a w
  ·by_cases ha:a∈fp
   ·exact (n5 a (hsub a ha) w).elim
   ·rw [h5 a ha] at w; exact .inr (e.hh.free w)
 ·rcases sub a ha with w | w
  ·rcases hfp a w with q | q
   ·exact .inl q
   ·exact .inr ⟨q.1,f2n a w⟩
  ·by_cases hb:a∈fp
   ·exact .inl hb
   ·have:=w.1
    rw [h5 a hb] at this
    exact .inr ⟨e.hh.free this,w.2⟩
theorem modD2{i n:Nat}{ks l m:List PV}{ad:Addr}{ob:Obj}{vs:List V}{fps:List (List Addr)}(go:Go C F0 H0 F H Γ σ i (ad :: fps.flatten) (.ref ad))(own:Own C.K F H 2 (ad :: fps.flatten) (.dic ks l) (.ref ad))(nd:(ad :: fps.flatten).Nodup)(d1:H ad=some (dHO ad ob))(d2:(ad == sysModules)=false)(d3:DicK C.K F ob (ks.map nkOf) vs)(d4:ks.all keyG=true)(h5:OwnL (Own C.K F H 1) fps l vs)(hn:l[n]? = some (.lst m)) :
  ∃ ad2 us,vs[n]? = some (.ref ad2)∧H ad2=some (.lst us)∧RepL C.K F m us ∧
  ∀ {F2 H2:Hp} {m2:List PV} {us2:List V},Ext F H F2 H2→RepL C.K F2 m2 us2→GoodS C.K F0 H0 (Γ.set i (some (.ow 2,.dic ks (l.set n (.lst m2))))) σ F2 (upd H2 ad2 (.lst us2))∧H2 ad2=some (.lst us):=by
 have nd':=nd
 rw [List.nodup_cons] at nd'
 obtain ⟨f,u,k1,k2,k3,k4,k5⟩:=ownl_set h5 nd'.2 hn
 obtain ⟨ad2,us,rfl,k6,k7,rfl⟩:=own_one' k4
 have hm:ad2∈fps.flatten:=k2 ad2 (by simp)
 have hne:ad ≠ ad2:=fun z=>nd'.1 (z ▸ hm)
 refine ⟨ad2,us,k1,k6,k7,fun {F2 H2 m2 us2} e2 r2=>⟨go _ H2 _ _ _ (ad :: fps.flatten) e2 (fun a ha=>upd_ne fun z=>ha (by subst z; exact List.mem_cons_of_mem _ hm)) (fun a ha xs=>?_) (own_mkD ?_ d2 (d3.tups fun _ _=>e2.ff _ _) d4 (k5 e2.ff (fun a ha hb=>?_) ?_)) nd (fun a ha=>.inl ha),e2.hh _ _ k6⟩⟩
 ·by_cases z:a=ad2
  ·subst z; rw [upd_same]; intro q; cases q
  ·rw [upd_ne z]
   obtain ⟨ob,q1,q2⟩:=own.there _ a ha
   rw [e2.hh _ _ q1]
   intro q; cases q; exact q2 _ rfl
 ·rw [upd_ne hne]; exact e2.hh _ _ d1
 ·have hb:a ≠ ad2:=by simpa using hb
  rw [upd_ne hb]
  obtain ⟨ob,q1,q2⟩:=own.there _ a (List.mem_cons_of_mem _ ha)
  rw [q1]; exact e2.hh _ _ q1
 ·exact own_new r2 upd_same
end
section
variable {C:Cn} {cm:Bool} {k:Nat} {N:List Str} {sc so:Scope} {a b c e f o tg kx:Expr} {es:List Expr} {A B J E:EX} {As:EXs} {T U:TX} {pos p tpos apos cpos p1 p2 p3 pos' apos2 cpos2:Pos} {X:Cx} {x:Str}
end
end Vl
end
section
set_option linter.all false
set_option maxHeartbeats 1000000
namespace Vm
@[simp] def eDicN (ks:List (List Nat)) (as:EXs):EX:=fun Γ=>(as Γ).bind fun xs=>(putVs xs).bind fun ps=>if ps.length=ks.length then .ok (.ow 1,.dic (ks.map .str) ps) else .bad
end Vm
end
section
set_option Elab.async false
set_option linter.all false
set_option maxRecDepth 100000
set_option maxHeartbeats 1000000
namespace Vl
open PySem L2 Vm PyProof.Rows
section
variable {C:Cn} {cm:Bool} {k i:Nat} {N:List Str} {sc:Scope} {pos p1 p2 dpos:Pos} {X:Cx} {e b:Expr} {A B:EX} {As:EXs}
def sK(l:List Nat):V:=V.str ⟨l.toArray⟩
def tK(l:List Nat):Leaf:=Leaf.text ⟨l.toArray⟩
theorem tK_inj{a b:List Nat}(h:tK a=tK b):a=b:=by
 have h2:(⟨a.toArray⟩:Str)=⟨b.toArray⟩:=by injection h
 have h3:a.toArray=b.toArray:=congrArg Str.cps h2
 have:=congrArg Array.toList h3
 simpa using this
theorem leafs_of{P:Program}{w:World}:∀ {ks:List (List Nat)} {vs:List V} {ws:List (Value×Value)},vs.length=ks.length→VV ((ks.map sK).zip vs) ws→∃ rs:List (Leaf×Value),Carries (plK P w) ws rs∧L2.KV ((ks.map tK).zip vs) rs∧rs.map (·.1)=ks.map tK
 | [],vs,ws,_,r=>by
  rw [List.map_nil,List.zip_nil_left] at r
  cases r
  exact ⟨[],True.intro,.nil,rfl⟩
 | l :: ks,[],ws,h,_=>by simp at h
 | l :: ks,v :: vs,ws,h,r=>by
  rw [List.map_cons,List.zip_cons_cons] at r
  cases r with
  | @cons a b as bs h1 t =>
   obtain ⟨rs,c,q,m⟩:=leafs_of (P:=P) (w:=w) (by simpa using h) t
   obtain ⟨b1,b2⟩:=b
   obtain ⟨g1,g2⟩:=h1
   refine ⟨(tK l,b2) :: rs,⟨?_,rfl,c⟩,.cons ⟨rfl,g2⟩ q,by rw [List.map_cons,m,List.map_cons]⟩
   obtain ⟨t,rfl⟩:=g1
   show (Leaf.isOf _ _ && true)=true
   rw [Bool.and_true]
   exact mixKind_str P w _ t
def tDispN(K:KK)(ks:List (List Nat))(trs:List (TE×TE)):TE:=fun σ H Q=>∀ p,H p=none→(p == sysModules)=false→tPairs trs σ (upd H p (dHO p dNew)) fun ps H2=>H2 p=some (dHO p dNew)∧∃ vs:List V,ps=(ks.map sK).zip vs∧vs.length=ks.length ∧
 ∀ o',LeafK K o' (ks.map fun l=>nkOf (.str l)) vs→Q (.ref p) (upd H2 p (dHO p o'))
theorem pe_dispN{keys:List (Option Expr)}{values:List Expr}{trs:List (TE×TE)}{ks:List (List Nat)}(h:PPs X pos keys values trs)(hall:keys.all (·.isSome)=true)(hl:keys.length=values.length)(h0:keys ≠ [])(h15:keys.length≤15)(hk15:ks.length≤15)(hnd:ks.Nodup):PE X (.Dict keys values pos) (tDispN (kkX X) ks trs):=by
 refine ⟨fun pins s σ H Q I q=>?_⟩
 obtain ⟨I1,hd⟩:=new_ok (t':=s.toks) I
 have q:=q _ (I.hok.fresh (Nat.le_refl _)) hd
 refine wpAny_Dict_walk (knd:=plK X.prog X.w) hall hl h0 h15 (thn (h.run pins _ σ _ _ I1 q) fun ws s2 ⟨ps,H2,I2,rel,g1,vs,ep,lk,q2⟩=>?_)
 subst ep
 have hg:=dx_get? I2 g1
 obtain ⟨rs,c,rk,rm⟩:=leafs_of (P:=X.prog) (w:=X.w) lk rel
 have hnd2:(rs.map (·.1)).Nodup:=by
  rw [rm]
  exact List.pairwise_map.mpr (hnd.imp fun h z=>h (tK_inj z))
 refine ⟨rs,c,⟨dNew,#[],0,hg,⟨rfl,rfl,rfl⟩,rfl,fun e he=>by simp at he,.nil,List.nodup_nil⟩,fun h' dd' hs'=>?_⟩
 rw [merged_nil_of_nodup rs hnd2] at dd'
 obtain ⟨o',es,ep,k1,k2,k3,k4,k5,k6⟩:=dd'
 have hzl:((ks.map tK).zip vs).length=ks.length:=by rw [List.length_zip,List.length_map,lk,Nat.min_self]
 have dk:LeafK (kkX X) o' (ks.map fun l=>nkOf (.str l)) vs:=⟨(ks.map tK).zip vs,rs,es,ep,k2,k3,by
   have e1:((ks.map tK).zip vs).map (fun p=>p.1.key)=(((ks.map tK).zip vs).map (·.1)).map Leaf.key:=by rw [List.map_map]; rfl
   rw [e1,List.map_fst_zip (by rw [List.length_map,lk]; exact Nat.le_refl _),List.map_map]
   rfl,by rw [List.map_snd_zip (by rw [List.length_map,lk]; exact Nat.le_refl _)],rk,k4,k5,k6,by rw [hzl,sizeLine_eq]; omega⟩
 exact ⟨.ref s.heap.objs.size,_,d_write (ob:=dHO s.heap.objs.size o') (t':=s2.toks+ws.length) I2 (by rw [g1]; exact True.intro) hs' ⟨o',k1⟩ ⟨k1,⟨o',k1⟩,fun h1 h2 z k=>k _ z⟩,rfl,q2 o' dk⟩
theorem de_dicN{keys:List (Option Expr)}{values:List Expr}(ks:List (List Nat))(hp:DP C cm k N sc dpos keys values (ks.map fun l=>(⟨l.toArray⟩:Str)) As)(hall:keys.all (·.isSome)=true:=by rfl)(hkl:keys.length=values.length:=by rfl)(h0:keys ≠ []:=by exact List.cons_ne_nil _ _)(h15:keys.length≤15:=by decide)(hk15:ks.length≤15:=by decide)(hnd:ks.Nodup:=by decide)(hG:(ks.map fun l=>(PV.str l)).all keyG=true:=by rfl):DE C cm k N sc (.Dict keys values dpos) (eDicN ks As):=by
 obtain ⟨tp,pp,qp⟩:=hp
 refine ⟨fun W=>tDispN C.K ks (tp W),fun X S W T=>by rw [← S.KK]; exact pe_dispN (pp X S W T) hall hkl h0 h15 hk15 hnd,fun W σ Γ F0 H0 F H Q g h ad hp hd=>?_⟩
 have e0:Ext F H F (upd H ad (dHO ad dNew)):=Ext.new g.ext.fh g.ext.tp (fun _ z=>by cases z) hp
 refine qp W σ Γ F0 H0 F (upd H ad (dHO ad dNew)) _ (g.next e0) ?_
 have h:EOk C W σ F H Q (eDicN ks As Γ):=h
 unfold eDicN at h
 cases eA:As Γ with
 | bad=>rw [eA] at h; exact h.elim
 | exc c=>rw [eA] at h; exact fun F' H' e'=>h F' H' (e0.trans e')
 | ok xs =>
  rw [eA,bind_ok] at h
  intro vs fp F2 H2 e2 rvs hlen
  rw [List.length_map] at hlen
  cases hps:putVs xs with
  | exc c=>exact (putVs_noexc hps).elim
  | bad=>rw [hps] at h; exact h.elim
  | ok ps =>
   rw [hps,bind_ok] at h
   obtain ⟨F3,e3,s3,r3,_⟩:=RVs.put e2 rvs hps
   by_cases hl:ps.length=ks.length
   ·rw [if_pos hl] at h
    have hD:H2 ad=some (dHO ad dNew):=e2.hh _ _ upd_same
    have fD:F3 ad=none:=by
     cases z:F3 ad with
     | none=>rfl
     | some o =>
      rcases e3.nw ad (by rw [z]; simp) with q | q
      ·exact absurd (g.ext.fh.free hp) q
      ·rw [upd_same] at q; cases q
    refine ⟨hD,vs,by rw [List.map_map]; rfl,hlen,fun o' lk=>?_⟩
    have dk:DicK C.K F3 o' ((ks.map fun l=>PV.str l).map nkOf) vs:=.inl (by rw [List.map_map]; exact lk)
    have eF:Ext F H F3 (upd H2 ad (dHO ad o')):=by
     refine ⟨e3.ff,fun a o z=>?_,fun a o z=>?_,tups_new e3.tp (fun _ z=>by cases z) fD,fun a z=>?_⟩
     ·rw [upd_ne (ne_of_none z hp)]; exact e2.hh _ _ (by rw [upd_ne (ne_of_none z hp)]; exact z)
     ·rw [upd_ne (ne_of_none z fD)]; exact e3.fh _ _ z
     ·rcases e3.nw a z with q | q
      ·exact .inl q
      ·by_cases ha:a=ad
       ·subst ha; exact .inr hp
       ·rw [upd_ne ha] at q; exact .inr q
    refine h _ F3 _ eF ⟨ad :: (ps.map fun _=>[]).flatten,own_mkD (vs:=vs) upd_same hd dk hG (ownl_flat r3),by rw [flat_nil]; simp,fun b hb=>?_⟩
    rw [flat_nil] at hb
    simp at hb
    subst hb
    exact ⟨fD,hp⟩
   ·rw [if_neg hl] at h; exact h.elim
end
end Vl
end
section
set_option linter.all false
set_option maxHeartbeats 1000000
namespace Vm
@[simp] def eOrN (a b:EX):EX:=fun Γ=>(a Γ).bind fun x=>match x.2 with
 | .non=>b Γ
 | .int i=>if i=0 then b Γ else .ok (.fz,.int i)
 | _=>.bad
end Vm
end
section
set_option Elab.async false
set_option linter.all false
set_option maxRecDepth 100000
set_option maxHeartbeats 1000000
namespace Vl
open PySem L2 Vm PyProof.Rows
section
variable {C:Cn} {cm:Bool} {k i:Nat} {N:List Str} {sc:Scope} {pos p1 p2 dpos:Pos} {X:Cx} {a b:Expr} {A B:EX}
theorem truthy_none{M:Model}{A:Around}{E:Value→Shared→Prop}{s:Shared}{Q:Bool→Shared→Prop}(h:Q false s):wpAny M A (truthy .none) Q E s:=fun _ _ _=>h
def tOrN(ta tb:TE):TE:=fun σ H Q=>ta σ H fun x H1=>(x = .non∧tb σ H1 Q) ∨ ∃ i,x = .int i∧if i=0 then tb σ H1 Q else Q (.int i) H1
theorem pe_orN{ta tb:TE}{rest:List Expr}(ha:PE X a ta)(hb:PE X (.BoolOp .Or (b :: rest) pos) tb):PE X (.BoolOp .Or (a :: b :: rest) pos) (tOrN ta tb):=by
 refine ⟨fun pins s σ H Q I h=>?_⟩
 refine BoolOp_or (thn (ha.run pins s σ H _ I h) fun v s1 ⟨x,H1,I1,r1,q1⟩=>?_)
 rcases q1 with ⟨rfl,q1⟩ | ⟨j,rfl,q1⟩
 ·cases r1
  exact truthy_none (hb.run pins s1 σ H1 Q I1 q1)
 ·obtain ⟨t,rfl⟩:=r1
  refine PySem.P.truthy_int ?_
  by_cases h0:j=0
  ·subst h0
   rw [if_pos rfl] at q1
   exact hb.run pins s1 σ H1 Q I1 q1
  ·rw [if_neg h0] at q1
   rw [show (j != 0)=true from bne_iff_ne.mpr h0]
   exact ⟨.int j,H1,I1,⟨t,rfl⟩,q1⟩
theorem de_orN{rest:List Expr}(ha:DE C cm k N sc a A)(hb:DE C cm k N sc (.BoolOp .Or (b :: rest) pos) B):DE C cm k N sc (.BoolOp .Or (a :: b :: rest) pos) (eOrN A B):=by
 obtain ⟨ta,pa,qa⟩:=ha
 obtain ⟨tb,pb,qb⟩:=hb
 refine ⟨fun W=>tOrN (ta W) (tb W),fun X S W T=>pe_orN (pa X S W T) (pb X S W T),fun W σ Γ F0 H0 F H Q g h=>?_⟩
 refine qa W σ Γ F0 H0 F H _ g (EOk.bind h fun x v F1 H1 ex e1 r1 h1=>?_)
 have r:=r1.rep e1.fh
 obtain ⟨t,p⟩:=x
 cases p with
 | non =>
  unfold Rep at r
  exact .inl ⟨r,qb W σ Γ F0 H0 F1 H1 Q (g.next e1) (h1.next e1)⟩
 | int j =>
  unfold Rep at r
  refine .inr ⟨j,r,?_⟩
  by_cases h0:j=0
  ·rw [if_pos h0]
   simp only [h0,if_true] at h1
   exact qb W σ Γ F0 H0 F1 H1 Q (g.next e1) (h1.next e1)
  ·rw [if_neg h0]
   simp only [h0,if_false] at h1
   exact h1 _ F1 H1 e1 (.fz (by unfold Rep; rfl))
 | _=>exact h1.elim
end
end Vl
end
section
set_option linter.all false
set_option maxHeartbeats 1000000
namespace Vm
@[simp] def eStrOnce (l:List Nat) (b:EX):EX:=fun Γ=>(b Γ).bind fun y=>match y.2 with
 | .int i=>if i=0 then .ok (.fz,.str []) else if i=1 then .ok (.fz,.str l) else .bad
 | _=>.bad
end Vm
end
section
set_option Elab.async false
set_option linter.all false
set_option maxRecDepth 100000
set_option maxHeartbeats 1000000
namespace Vl
open PySem L2 Vm PyProof.Rows
section
variable {C:Cn} {cm:Bool} {k:Nat} {N:List Str} {sc:Scope} {pos p1 p2:Pos} {X:Cx} {b:Expr} {B:EX}
end
end Vl
end
section
set_option Elab.async false
set_option linter.all false
set_option maxRecDepth 100000
set_option maxHeartbeats 1000000
namespace Vl
open PySem L2 Vm PyProof.Rows
section
variable {P:Program} {w:World} {K:PySem.W.Frag} {tg:Expr} {d:Addr} {o:Obj} {es:Array DictEntry} {ep:Nat}
end
end Vl
end
section
set_option Elab.async false
set_option linter.all false
set_option maxRecDepth 100000
set_option maxHeartbeats 1000000
namespace Vl
open PySem L2 Vm PyProof.Rows
section
variable {K:KK} {F H:Hp}
end
section
variable {P:Program} {w:World} {K:PySem.W.Frag} {tg:Expr} {d:Addr} {o:Obj} {es:Array DictEntry} {ep:Nat}
variable {X:Cx} {e:Expr} {td:TE} {apos cpos tpos:Pos}
end
section
variable {K:KK} {F H:Hp}
end
section
variable {C:Cn} {cm:Bool} {k:Nat} {N:List Str} {sc so:Scope} {a tg:Expr} {A:EX} {pos apos cpos tpos:Pos} {X:Cx} {elts:List Expr} {kk:Nat}
end
end Vl
end
section
set_option linter.all false
set_option maxHeartbeats 1000000
namespace Vm
@[simp] def sortKV (x:TV):Res TV:=match x.2 with
 | .dic ks _=>if srtOk ks && ks.all (keyN 8) && decide (ks.length≤16777216) then .ok (.ow 1,.lst (sortP ks)) else .bad
 | _=>.bad
@[simp] def eSortedD (a:EX):EX:=fun Γ=>(a Γ).bind sortKV
@[simp] def fzIts:TV→Res (List TV)
 | (.fz,.lst l)=>.ok (l.map fun p=>(.fz,p))
 | _=>.bad
@[simp] def fzX:TV→Res PV
 | (.fz,p)=>.ok p
 | _=>.bad
@[simp] def popG (Γ:En) (i:Nat):Option (List PV×PV):=match Γ.get i with
 | some (.ow 1,.lst l)=>l.getLast?.map fun p=>(l.dropLast,p)
 | _=>none
@[simp] def dForPop (i:Nat) (a:EX) (pat:Pat) (ws:List Nat) (body:ST):ST:=fun Γ=>aft (a Γ) Γ fun x=>match popG Γ i with
 | some q=>aft ((fzX x).bind fun p=>(ixV (.fz,p) q.2).bind fzIts) Γ fun l=>forL pat ws body l (wipeE (Γ.set i (some (.ow 1,.lst q.1))) ws)
 | none=>.bad
@[simp] def dForPopG (i:Nat) (a:EX) (pat:Pat) (ws:List Nat) (body:ST):ST:=fun Γ=>aft (a Γ) Γ fun x=>match popG Γ i with
 | some q=>aft ((fzX x).bind fun p=>(dgetV (.fz,p) q.2 (.ow 1,.lst [])).bind fzIts) Γ fun l=>forL pat ws body l (wipeE (Γ.set i (some (.ow 1,.lst q.1))) ws)
 | none=>.bad
@[simp] def dSetPop (j i:Nat):ST:=fun Γ=>match popG Γ i with
 | some q=>.nx ((Γ.set i (some (.ow 1,.lst q.1))).set j (some (.fz,q.2)))
 | none=>.bad
@[simp] def dIns (i:Nat) (k e:EX):ST:=fun Γ=>match Γ.get i with
 | some (.ow 1,.lst l)=>aft (k Γ) Γ fun y=>aft (e Γ) Γ fun x=>aft (putV x) Γ fun p=>match y.2 with
  | .int z=>if 0≤z∧z≤l.length∧l.length < 16777216 then .nx (Γ.set i (some (.ow 1,.lst (l.take z.toNat++p :: l.drop z.toNat)))) else .bad
  | _=>.bad
 | _=>.bad
@[simp] def lstO:Nat→PV→Bool
 | 0,_=>true
 | d+1,.lst l=>l.all (lstO d)
 | _+1,_=>false
@[simp] def lstA:TV→Bool
 | (.fz,_)=>true
 | (.bw d,p)=>lstO d p
 | (.ow d,p)=>lstO d p
@[simp] def stabD:TV→Bool
 | (.fz,.dic _ l)=>stabL l
 | r=>stabR r
@[simp] def eCallD (f:FN) (as:EXs):EX:=fun Γ=>(as Γ).bind fun xs=>(f (xs.map (·.2))).bind fun r=>if xs.all lstA && stabD r then .ok r else .bad
end Vm
end
section
set_option Elab.async false
set_option linter.all false
set_option maxRecDepth 100000
set_option maxHeartbeats 1000000
namespace Vl
open PySem L2 Vm PyProof.Rows
section
variable {X:Cx} {tg e:Expr} {te:TE}
def iSq(K:PySem.W.Frag)(te:TE):TI:=fun σ H R=>te σ H fun x H1=>∃ a,x = .ref a∧((∃ xs,SqL K H1 a xs)∧R (Itl K a) H1 ∨ (∃ xs,SqT K H1 a xs)∧R (Itt K a) H1)
theorem pi_sq(he:PE X e te):PI X tg e (iSq X.K te):=by
 refine ⟨fun pins s σ H R I h=>?_⟩
 refine thn (he.run pins s σ H _ I h) fun v s1 ⟨x,H1,I1,r1,a,ex,q1⟩=>?_
 subst ex
 cases r1
 rcases q1 with ⟨⟨xs,hq⟩,q⟩ | ⟨⟨xs,hq⟩,q⟩
 ·obtain ⟨its,rv,p,hz⟩:=I1.list hq
  refine wpAny_pyIter_list p.isList ?_
  refine ⟨s1.heap.objs.size,[s1.heap.objs.size],_,_,H1,rfl,I1.kept (t':=s1.toks) fun b o e=>Heap.get?_push_of_some _ e,turn_list a _,⟨_,Heap.get?_push_size _ rfl,rfl,rfl⟩,fun b hb=>?_,q⟩
  have e:b=s1.heap.objs.size:=by simpa using hb
  subst e
  exact I1.fpOk (Nat.le_refl _) (I1.hok.fresh (Nat.le_refl _))
 ·obtain ⟨its,rv,p,hz⟩:=I1.tuple hq
  refine wpAny_pyIter_tuple (show s1.heap.IsTuple a its.toArray from p) ?_
  refine ⟨s1.heap.objs.size,[s1.heap.objs.size],_,_,H1,rfl,I1.kept (t':=s1.toks) fun b o e=>Heap.get?_push_of_some _ e,turn_tuple a _,⟨_,Heap.get?_push_size _ rfl,rfl,rfl⟩,fun b hb=>?_,q⟩
  have e:b=s1.heap.objs.size:=by simpa using hb
  subst e
  exact I1.fpOk (Nat.le_refl _) (I1.hok.fresh (Nat.le_refl _))
end
section
variable {C:Cn} {cm:Bool} {k:Nat} {N:List Str} {sc so:Scope} {a b c e tg:Expr} {es:List Expr} {A B:EX} {As:EXs} {T U:TX} {pos p p1 apos cpos spos lpos:Pos} {X:Cx} {x y:Str} {st:Stmt} {sts:List Stmt} {d d':ST}
variable {F0 H0 F H F1 H1:Hp} {Γ:En} {σ:L2.St} {W:WX} {D:Ends}
end
end Vl
end
section
set_option Elab.async false
set_option linter.all false
set_option maxRecDepth 100000
set_option maxHeartbeats 1000000
namespace Vl
open PySem L2 Vm PyProof.Rows
section
variable {C:Cn} {cm:Bool} {k:Nat} {N:List Str} {sc so:Scope} {a b c e tg:Expr} {es:List Expr} {A B:EX} {As:EXs} {T U:TX} {pos p p1 apos cpos spos lpos gpos dpos:Pos} {X:Cx} {x y:Str} {st:Stmt} {sts:List Stmt} {d d':ST}
variable {F0 H0 F H F1 H1:Hp} {Γ:En} {σ:L2.St} {W:WX} {D:Ends}
end
section
variable {K:KK} {H:Hp}
mutual
theorem key_reads {P:Program} {w:World} {h:Heap} (ok:HOk P w H h):∀ (n:Nat) (p:PV) (v:V) (u:Value),keyN n p=true→Rep K H p v→RelV v u→Reads h u (dat p) []
 | n,.non,v,u,_,r,ru=>by unfold Rep at r; subst r; cases ru; exact .none
 | n,.int i,v,u,_,r,ru=>by unfold Rep at r; subst r; obtain ⟨t,rfl⟩:=ru; exact .int _ _
 | n,.str l,v,u,_,r,ru=>by unfold Rep at r; obtain ⟨rfl,_⟩:=r; obtain ⟨t,rfl⟩:=ru; exact .str _ _
 | 0,.tup l,v,u,s,_,_=>by simp [keyN] at s
 | n+1,.tup l,v,u,s,r,ru=>by
  unfold keyN at s
  unfold Rep at r
  obtain ⟨a,vs,rfl,⟨ob,_,h2⟩,h3⟩:=r
  cases ru
  obtain ⟨_,_,its,rv,o,h4,h5,m,h6⟩:=(show ObjOk P w H h a (tq (ob,vs)) from ok a _ h2)
  exact .tuple h4 h5 h6 (by simpa using keys_reads ok n l vs its s h3 rv)
 | n,.bl _,v,u,s,_,_=>by simp [keyN] at s
 | n,.lst _,v,u,s,_,_=>by simp [keyN] at s
 | n,.dic _ _,v,u,s,_,_=>by simp [keyN] at s
 | n,.exo _ _,v,u,s,_,_=>by simp [keyN] at s
theorem keys_reads {P:Program} {w:World} {h:Heap} (ok:HOk P w H h):∀ (n:Nat) (l:List PV) (vs:List V) (us:List Value),keyNL n l=true→RepL K H l vs→Vals vs us→ReadsAll h us (datL l) []
 | n,[],vs,us,_,r,ru=>by unfold RepL at r; subst r; cases ru; exact .nil
 | n,p :: ps,vs,us,s,r,ru=>by
  unfold keyNL at s
  rw [Bool.and_eq_true] at s
  unfold RepL at r
  obtain ⟨v,r',rfl,h2,h3⟩:=r
  cases ru with
  | cons r1 r2=>exact .cons (as:=[]) (bs:=[]) (key_reads ok n p v _ s.1 h2 r1) (keys_reads ok n ps r' _ s.2 h3 r2)
end
end
theorem keyNL_of{n:Nat}:∀ {ks:List PV},ks.all (keyN n)=true→keyNL n ks=true
 | [],_=>rfl
 | p :: ks,h=>by
  rw [List.all_cons,Bool.and_eq_true] at h
  unfold keyNL
  rw [h.1,keyNL_of h.2]; rfl
theorem each_reads0{h:Heap}:∀ {its:List Value} {us:List V} {l:List PV} {a:Addr},us.length=l.length→Vals us its→ReadsAll h its (datL l) []→PySem.W.EachIs (fun v (b:V×PV)=>∃ as,Reads h v (dat b.2) as∧a ∉ as) its (us.zip l)
 | _,[],[],_,_,.nil,_=>.nil
 | _,u :: us,p :: l,a,h,.cons r t,hr=>by
  unfold datL at hr
  generalize e:([]:List Addr)=q at hr
  cases hr with
  | @cons _ _ _ _ as bs h1 h2 =>
   have e2:=List.append_eq_nil_iff.mp e.symm
   obtain ⟨rfl,rfl⟩:=e2
   exact .cons ⟨[],h1,by simp⟩ (each_reads0 (by simpa using h) t h2)
 | _,[],_ :: _,_,h,_,_=>by simp at h
 | _,_ :: _,[],_,h,_,_=>by simp at h
section
variable {C:Cn} {cm:Bool} {k:Nat} {N:List Str} {sc so:Scope} {a:Expr} {A:EX} {pos p:Pos}
end
end Vl
end
section
set_option Elab.async false
set_option linter.all false
set_option maxRecDepth 100000
set_option maxHeartbeats 1000000
namespace Vl
open PySem L2 Vm PyProof.Rows
section
variable {K:KK} {F H:Hp}
end
section
variable {C:Cn} {cm:Bool} {k:Nat} {N:List Str} {sc:Scope} {a b c e:Expr} {es:List Expr} {A B:EX} {As:EXs} {T U:TX} {pos p:Pos} {X:Cx} {x:Str}
end
end Vl
end
section
set_option linter.all false
set_option maxHeartbeats 1000000
namespace Vm
@[simp] def eChain3 (op op' op'':PV→PV→Res PV) (a b c d:EX):EX:=fun Γ=>(a Γ).bind fun x=>(b Γ).bind fun y=>(op x.2 y.2).bind fun z=>match z with
 | .bl true=>(c Γ).bind fun w=>(op' y.2 w.2).bind fun z'=>match z' with
  | .bl true=>(d Γ).bind fun u=>(op'' w.2 u.2).bind fzv
  | .bl false=>.ok (.fz,.bl false)
  | _=>.bad
 | .bl false=>.ok (.fz,.bl false)
 | _=>.bad
def intsP:List PV→Option (List Int)
 | []=>some []
 | .int i :: l=>(intsP l).map (i :: ·)
 | _ :: _=>none
def lexI:List Int→List Int→Bool
 | [],[]=>false
 | [],_ :: _=>true
 | _ :: _,[]=>false
 | x :: xs,y :: ys=>decide (x < y) || (decide (x=y) && lexI xs ys)
@[simp] def opLtT:PV→PV→Res PV
 | .tup xs,.tup ys=>match intsP xs,intsP ys with
  | some a,some b=>.ok (.bl (lexI a b))
  | _,_=>.bad
 | _,_=>.bad
end Vm
end
section
set_option Elab.async false
set_option linter.all false
set_option maxRecDepth 100000
set_option maxHeartbeats 1000000
namespace Vl
open PySem L2 Vm PyProof.Rows
section
variable {X:Cx} {a b c d:Expr} {ta tb tc td:TE} {pos:Pos}
end
section
variable {C:Cn} {cm:Bool} {k:Nat} {N:List Str} {sc:Scope} {a b c d:Expr} {A B E D:EX} {pos:Pos}
structure CmpQ (C:Cn) (cm:Bool) (k:Nat) (N:List Str) (sc:Scope) (op:CmpOp) (r:R2) (f:PV→PV→Res PV):Prop where
 o:∀ X,Sta C cm k N sc X→OpR X (compareOp op) r
 e:Op2 C r f
 b:∀ p q z,f p q = .ok z→∃ b:Bool,z = .bl b
theorem CmpI.q{op:CmpOp}{f:PV→PV→Res PV}(h:CmpI C cm k N sc op f):∃ r,CmpQ C cm k N sc op r f:=by
 obtain ⟨r,o1,o2⟩:=h.x
 exact ⟨r,o1,o2,h.b⟩
end
end Vl
end
section
set_option linter.all false
set_option maxHeartbeats 1000000
namespace Vm
@[simp] def eTupRev (a:EX):EX:=fun Γ=>(a Γ).bind fun x=>match x with
 | (t,.lst l)=>if flat1 t then .ok (.fz,.tup l.reverse) else .bad
 | (_,.tup l)=>.ok (.fz,.tup l.reverse)
 | _=>.bad
end Vm
end
section
set_option Elab.async false
set_option linter.all false
set_option maxRecDepth 100000
set_option maxHeartbeats 1000000
namespace RT
open PySem PySem.Spec PyProof.Rows L2
section
variable {prog:Program} {w:World} {A:Around} {E:Value→Shared→Prop} {s:Shared}
end
section
variable {X:Cx}
end
end RT
end
section
set_option Elab.async false
set_option linter.all false
set_option maxRecDepth 100000
set_option maxHeartbeats 1000000
namespace Vl
open PySem L2 Vm PyProof.Rows
section
variable {C:Cn} {cm:Bool} {k:Nat} {N:List Str} {sc:Scope} {a:Expr} {A:EX} {pos p p2 pos2:Pos}
end
end Vl
end
section
set_option linter.all false
set_option maxHeartbeats 1000000
namespace Vm
def putU(x:Int):List Int→List Int
 | []=>[x]
 | y :: ys=>if x < y then x :: y :: ys else if y < x then y :: putU x ys else y :: ys
def sortU(l:List Int):List Int:=l.foldr putU []
def sortSetV:TV→Res TV
 | (t,.lst l)=>if flat1 t then (intsOf l).bind fun ns=>if ns.length < 64 then .ok (.ow 1,.lst ((sortU ns).map PV.int)) else .bad else .bad
 | (_,.tup l)=>(intsOf l).bind fun ns=>if ns.length < 64 then .ok (.ow 1,.lst ((sortU ns).map PV.int)) else .bad
 | _=>.bad
@[simp] def eSortSet (a:EX):EX:=fun Γ=>(a Γ).bind sortSetV
end Vm
end
section
set_option Elab.async false
set_option linter.all false
set_option maxRecDepth 100000
set_option maxHeartbeats 4000000
namespace L2
open PySem PySem.Spec PyProof.Rows
section
variable {P:Program} {w:World} {A:Around} {E:Value→Shared→Prop} {s:Shared}
end
section
variable {X:Cx}
end
end L2
end
section
set_option Elab.async false
set_option linter.all false
set_option maxRecDepth 100000
set_option maxHeartbeats 1000000
namespace Vl
open PySem L2 Vm PyProof.Rows
section
variable {C:Cn} {cm:Bool} {k:Nat} {N:List Str} {sc:Scope} {a:Expr} {A:EX} {pos p p2 pos2:Pos}
end
end Vl
end
section
set_option linter.all false
set_option maxHeartbeats 1000000
namespace Vm
@[simp] def eIndexQ (a b:EX):EX:=fun Γ=>(a Γ).bind fun x=>match listOf x.2 with
 | some l=>(b Γ).bind fun y=>match shp 50 y.2 && shpL 50 l with
  | true=>match firstIx (fun z=>eqv z y.2) l with
   | some k=>.ok (.fz,.int k)
   | none=>.bad
  | false=>.bad
 | none=>.bad
def lrOk(n:Int):Bool:=rngOk n && Nat.ble n.toNat 16777216
@[simp] def eListR (a:EX):EX:=fun Γ=>(a Γ).bind fun x=>match x.2 with
 | .int n=>if lrOk n then .ok (.ow 1,.lst (rngL 0 n)) else .bad
 | _=>.bad
end Vm
end
section
set_option Elab.async false
set_option linter.all false
set_option maxRecDepth 100000
set_option maxHeartbeats 1000000
namespace L2
open PySem PySem.Spec PyProof.Rows
section
variable {X:Cx}
def rIndexTD(K:PySem.W.Frag):V→List V→Hp→VK→Prop:=fun x xs H Q=>∃ (a:Addr) (y:V) (d:PyData) (ds:List PyData) (j:Nat) (z:PyData),x=V.ref a∧xs=[y]∧Dp K H (V.ref a) (.tuple ds)∧Dp K H y d ∧
 SeqAt.shaped (.tuple ds)=true∧SeqAt.shaped d=true∧ds[j]? = some z∧PyData.eqv z d=true∧(∀ (m:Nat) (z':PyData),m < j→ds[m]? = some z'→PyData.eqv z' d=false)∧Q (.int (j:Nat)) H
theorem mt_indexTD(hu:X.A.units+65 < cLine):MtR X "tuple.index" (rIndexTD X.K):=by
 intro pins s σ H x xs v us Q I rx rxs h
 obtain ⟨a,y,d,ds,j,z,rfl,rfl,hl,hy,sl,sd,hz,hzj,hno,q⟩:=h
 cases rx
 cases rxs with
 | cons ry rt =>
  rename_i uy ut
  cases rt
  obtain ⟨bs,r1⟩:=Dp.reads I d y uy hy ry
  have hxs:PyData.canLayAll0 ds=true:=SeqAt.canLay_of_shaped sl
  have hroom:X.A.units+1+min (PyData.depthAll ds) d.depth < cLine:=room_in_shaped sd hu
  cases hl with
  | tup hs ha =>
   obtain ⟨its,rv,⟨⟨cls,dd,data,sls⟩,ho,hc,n,hdt⟩,hlen⟩:=I.tuple hs
   simp only at hc hdt
   subst hc hdt
   obtain ⟨as,h4⟩:=Dp.readsAll I ds _ its ha rv
   have hn:its.length=ds.length:=SeqAt.ReadsAll.length ds its as h4
   have hmap:its.map (SeqAt.readOf s.heap)=ds:=SeqAt.readsAll_map ds its as hxs h4
   have hvl:=rv.length
   obtain ⟨hjd,_⟩:=List.getElem?_eq_some_iff.mp hz
   have hjl:j < its.length:=by omega
   have hj:j < its.toArray.size:=by simpa using hjl
   have at_:∀ (m:Nat) (hm:m < its.toArray.size) (z':PyData),ds[m]? = some z'→SeqAt.readOf s.heap its.toArray[m]=z':=by
    intro m hm z' hz'
    have hml:m < its.length:=by simpa using hm
    rw [← hmap,List.getElem?_map,List.getElem?_eq_getElem hml] at hz'
    have e1:SeqAt.readOf s.heap its[m]=z':=Option.some.inj (show some (SeqAt.readOf s.heap its[m])=some z' from hz')
    simpa using e1
   refine call_meets PySem.F.slot_tuple_index ⟨_,ho,rfl⟩ PySem.F.entry_tuple_index (PySem.F.args_tuple_index_2 _ _)
    (TI.tuple_indexAt a its.toArray n dd sls uy (fun u=>PyData.eqv (SeqAt.readOf s.heap u) d) j hj ?_ ?_) ⟨ho,SeqAt.items_eqAt (vs:=its.toArray) (show ReadsAll s.heap its.toArray.toList ds as from h4) r1 hxs (SeqAt.canLay_of_shaped sd) hroom,?_⟩
   ·show PyData.eqv (SeqAt.readOf s.heap its.toArray[j]) d=true
    rw [at_ j hj z hz]
    exact hzj
   ·intro m hm hmj
    have hmd:m < ds.length:=by omega
    have hz':ds[m]? = some ds[m]:=List.getElem?_eq_getElem hmd
    show PyData.eqv (SeqAt.readOf s.heap its.toArray[m]) d=false
    rw [at_ m hm _ hz']
    exact hno m _ hmj hz'
   ·exact ⟨.int (j:Nat),H,I.tok _,⟨_,rfl⟩,q⟩
def tIxQ(K:PySem.W.Frag)(to:TE)(t:TA):TE:=fun σ H Q=>to σ H fun x H1=>(tyV K "list" x H1∧t σ H1 fun xs H2=>rIndexD K x xs H2 Q) ∨
 ((∃ a o vs,x = .ref a∧o.dict=none∧H1 a=some (.frz o (.tup vs)))∧t σ H1 fun xs H2=>rIndexTD K x xs H2 Q)
theorem pe_ixQ {o e:Expr} {es:List Expr} {to:TE} {t:TA} {apos cpos:Pos} (hu:X.A.units+65 < cLine) (ho:PE X o to) (ha:PA X (e :: es) t)
  (hbase:attributeBase o "index" X.env (eval o X.env)=eval o X.env:=by rfl)
  (hfew:((backTo cpos (starEach (e :: es) X.env)).all (fun x=>!x.1) && (backToKw cpos (keywordEach [] X.env)).all (fun x=>x.1.isSome)
   && decide ((e :: es).length+([]:List Keyword).length+(if ([]:List Keyword).isEmpty then 0 else 1) < 30))=true:=by rfl)
  (hline:(apos.endLine == cpos.line)=true:=by rfl) (hs:starEach (e :: es) X.env=(false,eval e X.env) :: starEach es X.env:=by rfl) (hplain:(backTo cpos (starEach es X.env)).any (·.1)=false:=by rfl) :
  PE X (.Call (.Attribute o "index" apos) (e :: es) [] cpos) (tIxQ X.K to t):=by
 refine ⟨fun pins s σ H Q I h=>?_⟩
 refine wpAny_Call_method_late hbase hfew hline rfl (thn (ho.run pins s σ H _ I h) fun v s1 ⟨x,H1,I1,r1,hh⟩=>?_)
 rcases hh with ⟨ty,q1⟩ | ⟨⟨a,ob,vs,rfl,hd,hH⟩,q1⟩
 ·obtain ⟨h1,h2⟩:=tyV_is I1 r1 ty
  refine ⟨"list",_,PySem.F.plainAttrs_list,PySem.F.slot_list_index,PySem.F.type_list_index,h1,h2,?_⟩
  have hA:=ha.run cpos pins s1 σ H1 _ I1 q1
  rw [hs] at hA ⊢
  refine Calls.callWith_builtin (by show (false || (backTo cpos (starEach es X.env)).any (·.1))=false; rw [hplain] <;> rfl) (Calls.evalArgs_plain ?_)
  exact thn hA fun us s2 ⟨vs,H2,I2,r2,q2⟩=>mt_indexD hu pins s2 σ H2 x vs v us Q I2 r1 r2 q2
 ·have r1':=r1
  cases r1
  obtain ⟨h1,h2⟩:=tyD_is I1 hH hd
  refine ⟨"tuple",_,PySem.F.plainAttrs_tuple,PySem.F.slot_tuple_index,PySem.F.type_tuple_index,h1,h2,?_⟩
  have hA:=ha.run cpos pins s1 σ H1 _ I1 q1
  rw [hs] at hA ⊢
  refine Calls.callWith_builtin (by show (false || (backTo cpos (starEach es X.env)).any (·.1))=false; rw [hplain] <;> rfl) (Calls.evalArgs_plain ?_)
  exact thn hA fun us s2 ⟨vs,H2,I2,r2,q2⟩=>mt_indexTD hu pins s2 σ H2 _ vs _ us Q I2 r1' r2 q2
end
end L2
namespace Vl
open PySem L2 Vm PyProof.Rows
theorem datL_get{l:List PV}{k:Nat}{z:PV}(h:l[k]? = some z):(datL l)[k]? = some (dat z):=by rw [datL_map,List.getElem?_map,h]; rfl
theorem datL_back{l:List PV}{k:Nat}{d:PyData}(h:(datL l)[k]? = some d):∃ z,l[k]? = some z∧dat z=d:=by
 rw [datL_map,List.getElem?_map] at h
 obtain ⟨z,h1,h2⟩:=Option.map_eq_some_iff.mp h
 exact ⟨z,h1,h2⟩
section
variable {C:Cn} {cm:Bool} {k:Nat} {N:List Str} {sc so:Scope} {e o:Expr} {A B:EX} {apos cpos:Pos} {X:Cx}
theorem de_indexQ (ho:DE C cm k N sc o A) (he:DE C cm k N sc e B) (hbase:∀ env:PySem.Env,attributeBase o "index" env (eval o env)=eval o env:=by intro _; rfl)
  (hfew:∀ env:PySem.Env,((backTo cpos (starEach [e] env)).all (fun x=>!x.1) && (backToKw cpos (keywordEach [] env)).all (fun x=>x.1.isSome)
   && decide (([e]).length+([]:List Keyword).length+(if ([]:List Keyword).isEmpty then 0 else 1) < 30))=true:=by intro _; rfl)
  (hline:(apos.endLine == cpos.line)=true:=by rfl) (hst:∀ env:PySem.Env,starEach [e] env=(false,eval e env) :: starEach [] env:=by intro _; rfl):DE C cm k N sc (.Call (.Attribute o "index" apos) [e] [] cpos) (eIndexQ A B):=by
 obtain ⟨ta,pa,qa⟩:=ho
 obtain ⟨tb,pb,qb⟩:=he
 refine ⟨fun W=>tIxQ C.K (ta W) (tCons (tb W) tNil),fun X S W T=>by rw [← S.K]; exact pe_ixQ S.u' (pa X S W T) (pa_cons (pb X S W T) pa_nil (hst _)) (hbase _) (hfew _) hline (hst _) rfl,fun W σ Γ F0 H0 F H Q g h=>?_⟩
 refine qa W σ Γ F0 H0 F H _ g (EOk.bind h fun x v F1 H1 ex e1 r1 h1=>?_)
 obtain ⟨t,q⟩:=x
 have rest:∀ {l:List PV} {v:V} (s:PV),(s = .lst l ∨ s = .tup l)→Rep C.K H1 s v→EOk C W σ F1 H1 Q ((B Γ).bind fun y=>match shp 50 y.2 && shpL 50 l with
   | true=>match firstIx (fun z=>eqv z y.2) l with
    | some k=>.ok (.fz,.int k)
    | none=>.bad
   | false=>.bad)→∀ R:List V→Hp→Prop,(∀ xs H2,(∃ y,xs=[y]∧∃ (d:PyData) (j:Nat) (z:PyData),Dp C.K H2 v (dat s)∧Dp C.K H2 y d ∧
   SeqAt.shaped (dat s)=true∧SeqAt.shaped d=true∧(datL l)[j]? = some z∧PyData.eqv z d=true∧(∀ (m:Nat) (z':PyData),m < j→(datL l)[m]? = some z'→PyData.eqv z' d=false)∧Q (.int (j:Nat)) H2)→R xs H2)→(tCons (tb W) tNil) σ H1 R:=by
  intro l v s hs rs hh R hR
  refine qb W σ Γ F0 H0 F1 H1 _ (g.next e1) (EOk.bind hh fun y u F2 H2 ey e2 r2 h2=>?_)
  have ry:=r2.rep e2.fh
  refine hR _ _ ⟨u,rfl,?_⟩
  cases hp:(shp 50 y.2 && shpL 50 l) with
  | false=>rw [hp] at h2; exact h2.elim
  | true =>
   rw [hp] at h2
   rw [Bool.and_eq_true] at hp
   obtain ⟨hp1,hp2⟩:=hp
   cases hf:firstIx (fun z=>eqv z y.2) l with
   | none=>rw [hf] at h2; exact h2.elim
   | some j =>
    rw [hf] at h2
    obtain ⟨⟨z,hz,hzp⟩,hlt⟩:=firstIx_spec hf
    have rs2:Rep C.K H2 s v:=rs.mono e2.hh _ _
    have hsh:shp 51 s=true:=by rcases hs with rfl | rfl <;> (unfold shp; exact hp2)
    have zs:∀ {w:PV},w∈l→shp 50 w=true:=fun hw=>shpL_mem hp2 hw
    refine ⟨dat y.2,j,dat z,(rep_dp 51 s v hsh rs2).1,(rep_dp 50 y.2 u hp1 ry).1,shaped_dat (by omega) hsh rs2,shaped_dat (by omega) hp1 ry,datL_get hz,?_,fun m z' hm hz'=>?_,h2 _ F2 H2 e2 (.fz rep_int)⟩
    ·rw [eqv_dat 50 50 z y.2 (zs (List.mem_of_getElem? hz)) hp1]; exact hzp
    ·obtain ⟨w,hw,rfl⟩:=datL_back hz'
     rw [eqv_dat 50 50 w y.2 (zs (List.mem_of_getElem? hw)) hp1]
     exact hlt m w hm hw
 cases q with
 | lst l =>
  have r:=r1.rep e1.fh
  obtain ⟨ad,vs,ev,s2,r3⟩:=rep_lst r
  subst ev
  refine .inl ⟨.inl ⟨rfl,vs,s2⟩,?_⟩
  refine rest (.lst l) (.inl rfl) r (h1.next e1) _ fun xs H2 ⟨y,ey,d,j,z,d1,d2,s1,s3,k1,k2,k3,k4⟩=>?_
  exact ⟨ad,y,d,datL l,j,z,rfl,ey,d1,d2,s1,s3,k1,k2,k3,k4⟩
 | tup l =>
  have r:=r1.rep e1.fh
  obtain ⟨ad,vs,ev,s2,r3⟩:=rep_tup r
  subst ev
  obtain ⟨ob,hd,hH⟩:=id s2
  refine .inr ⟨⟨ad,ob,vs,rfl,hd,hH⟩,?_⟩
  refine rest (.tup l) (.inr rfl) r (h1.next e1) _ fun xs H2 ⟨y,ey,d,j,z,d1,d2,s1,s3,k1,k2,k3,k4⟩=>?_
  exact ⟨ad,y,d,datL l,j,z,rfl,ey,d1,d2,s1,s3,k1,k2,k3,k4⟩
 | _=>exact h1.elim
end
end Vl
end
section
set_option Elab.async false
set_option linter.all false
set_option maxRecDepth 100000
set_option maxHeartbeats 1000000
namespace Vl
open PySem L2 Vm PyProof.Rows
section
variable {C:Cn} {cm:Bool} {k:Nat} {N:List Str} {sc so:Scope} {a:Expr} {A:EX} {p p2 pos pos2:Pos} {X:Cx}
end
end Vl
end
section
set_option linter.all false
set_option maxHeartbeats 1000000
namespace Vm
abbrev FX:=List PV→Res (PV×List PV)
def isHs:List PV→Bool
 | .exo 0 _ :: _=>true
 | _=>false
def takeH(m:Bool)(Γ:En)(js:List (Nat×Tg)):Option (List PV):=match takeA Γ js with
 | some ps=>if m && !isHs ps then none else some ps
 | none=>none
def callX(m:Bool)(f:FX)(js:List (Nat×Tg))(as:EXs)(Γ:En)(k:PV→En→Out):Out:=match takeH m Γ js with
 | none=>.bad
 | some ps=>match as Γ with
  | .exc c=>.exc c Γ
  | .bad=>.bad
  | .ok xs=>match putVs xs with
   | .ok qs=>(match f (ps++qs) with
    | .ok (p,news)=>k p (putA Γ js news)
    | .exc c=>.exc c Γ
    | .bad=>.bad)
   | _=>.bad
inductive RM where
 | ok (b:Bool) (Γ:En) | exc (c:Nat) (Γ:En) | bad
abbrev TM:=En→RM
end Vm
end
section
set_option Elab.async false
set_option linter.all false
set_option maxRecDepth 100000
set_option maxHeartbeats 1000000
namespace Vl
open PySem L2 Vm PyProof.Rows
def spX(C:Cn)(ts:List Tg)(f:FX):Sp:=fun vs H Q E=>∃ F H0 ps,ps.length=ts.length∧vs.length=ts.length∧GoodS C.K F H0 (startM ts ps) (vs.map some) F H∧match f ps with
 | .ok (p,news)=>∀ v F' H',news.length=ts.length→GoodS C.K F H0 (startM ts news) (vs.map some) F' H'→Rep C.K F' p v→Q v H'
 | .exc c=>∀ F' H',GoodS C.K F H0 (startM ts ps) (vs.map some) F' H'→E (C.xc c) none H'
 | .bad=>False
structure CalX (C:Cn) (x:Str) (k:Nat) (ts:List Tg) (f:FX):Prop where
 ex:∃ ad fd ps,ps.length=ts.length∧FnOk C.P C.w C.K C.mg C.base (L2.CX C.P C.w) k ad fd ps (spX C ts f)∧PySem.W.keepIn C.K (.ref ad)=true∧Binds C.K fd ps []∧C.mg x=some (.ref ad)
section
variable {C:Cn} {F0 H0 F H F1 H1:Hp} {Γ:En} {σ:L2.St}
end
end Vl
end
section
set_option Elab.async false
set_option linter.all false
set_option maxRecDepth 100000
set_option maxHeartbeats 1000000
namespace Vl
open PySem L2 Vm PyProof.Rows
def Kp(keep:List Nat)(σ σ0:L2.St):Prop:=∀ i∈keep,σ[i]? = σ0[i]?
def OutX(C:Cn)(W:WX)(F0 H0:Hp)(D:Ends)(keep:List Nat)(σ0:L2.St):Out→Prop
 | .nx Γ=>∀ σ F H,GoodS C.K F0 H0 Γ σ F H→Kp keep σ σ0→D.nx σ H
 | .bk Γ=>∀ σ F H,GoodS C.K F0 H0 Γ σ F H→Kp keep σ σ0→D.bk σ H
 | .ct Γ=>∀ σ F H,GoodS C.K F0 H0 Γ σ F H→Kp keep σ σ0→D.ct σ H
 | .rt .fz p Γ=>∀ v σ F H,GoodS C.K F0 H0 Γ σ F H→Kp keep σ σ0→Rep C.K F p v→D.rt v H
 | .exc c Γ=>∀ σ F H,GoodS C.K F0 H0 Γ σ F H→Kp keep σ σ0→W (C.xc c) none σ H
 | _=>False
section
variable {C:Cn} {F0 H0 F H F1 H1:Hp} {Γ:En} {σ σ1:L2.St} {W:WX} {D:Ends} {keep:List Nat}
theorem Kp.refl:Kp keep σ σ:=fun _ _=>rfl
theorem Kp.trans{σ2:L2.St}(a:Kp keep σ2 σ1)(b:Kp keep σ1 σ):Kp keep σ2 σ:=fun i hi=>(a i hi).trans (b i hi)
theorem Kp.set{i:Nat}{v:Option V}(h:i ∉ keep):Kp keep (σ.set i v) σ:=fun j hj=>List.getElem?_set_ne (by intro z; subst z; exact h hj)
theorem OutX.later(k:Kp keep σ1 σ):∀ {o:Out},OutX C W F0 H0 D keep σ o→OutX C W F0 H0 D keep σ1 o
 | .nx Γ,h=>fun σ2 F H g k2=>h σ2 F H g (k2.trans k)
 | .bk Γ,h=>fun σ2 F H g k2=>h σ2 F H g (k2.trans k)
 | .ct Γ,h=>fun σ2 F H g k2=>h σ2 F H g (k2.trans k)
 | .rt .fz p Γ,h=>fun v σ2 F H g k2=>h v σ2 F H g (k2.trans k)
 | .rt (.bw _) p Γ,h=>h.elim
 | .rt (.ow _) p Γ,h=>h.elim
 | .exc c Γ,h=>fun σ2 F H g k2=>h σ2 F H g (k2.trans k)
 | .bad,h=>h.elim
theorem OutX.bind{f:TV→Out}{Q1:VK}{r:Res TV}(g:GoodS C.K F0 H0 Γ σ F H)(h:OutX C W F0 H0 D keep σ (aft r Γ f))
  (q:∀ x v F1 H1,r = .ok x→Ext F H F1 H1→RV C.K F1 H1 H x v→OutX C W F0 H0 D keep σ (f x)→Q1 v H1):EOk C W σ F H Q1 r:=by
 cases r with
 | ok x=>exact fun v F' H' e rv=>q x v F' H' rfl e rv h
 | exc c=>exact fun F' H' e=>h σ F' H' (g.next e) Kp.refl
 | bad=>exact h
theorem OutX.bindT{f:Bool→Out}{Q1:Bool→Hp→Prop}{r:Res Bool}(g:GoodS C.K F0 H0 Γ σ F H)(h:OutX C W F0 H0 D keep σ (aft r Γ f))
  (q:∀ x F1 H1,r = .ok x→Ext F H F1 H1→OutX C W F0 H0 D keep σ (f x)→Q1 x H1):TOk C W σ F H Q1 r:=by
 cases r with
 | ok x=>exact fun F' H' e=>q x F' H' rfl e h
 | exc c=>exact fun F' H' e=>h σ F' H' (g.next e) Kp.refl
 | bad=>exact h
end
section
variable {C:Cn} {cm:Bool} {k:Nat} {N:List Str} {sc so:Scope} {a b c e o tg:Expr} {es:List Expr} {A B:EX} {As:EXs} {T U:TX} {pos p tpos apos cpos p1:Pos} {X:Cx} {x:Str} {st:Stmt} {sts:List Stmt} {d d':ST} {keep:List Nat}
variable {F0 H0 F H F1 H1:Hp} {Γ:En} {σ:L2.St} {W:WX} {D:Ends}
end
section
variable {C:Cn} {k:Nat} {N:List Str} {sc:Scope} {st:Stmt}
end
end Vl
end
section
set_option Elab.async false
set_option linter.all false
set_option maxRecDepth 100000
set_option maxHeartbeats 1000000
namespace Vl
open PySem L2 Vm PyProof.Rows
section
variable (C:Cn) (cm:Bool) (k:Nat) (N:List Str) (sc:Scope)
end
def CXok(C:Cn)(W:WX)(σ:L2.St)(F0 H0:Hp)(Γ:En)(m:Bool)(f:FX)(js:List (Nat×Tg))(as:EXs)(Q:PV→En→V→Hp→Prop):Prop:=match takeH m Γ js with
 | none=>False
 | some ps=>match as Γ with
  | .exc c=>∀ F' H',GoodS C.K F0 H0 Γ σ F' H'→W (C.xc c) none σ H'
  | .bad=>False
  | .ok xs=>match putVs xs with
   | .ok qs=>(match f (ps++qs) with
    | .ok (p,news)=>∀ v F' H',GoodS C.K F0 H0 (putA Γ js news) σ F' H'→Rep C.K F' p v→Q p (putA Γ js news) v H'
    | .exc c=>∀ F' H',GoodS C.K F0 H0 Γ σ F' H'→W (C.xc c) none σ H'
    | .bad=>False)
   | _=>False
section
variable {C:Cn} {cm:Bool} {k:Nat} {N:List Str} {sc so:Scope} {a b c e o tg:Expr} {es:List Expr} {A B:EX} {As:EXs} {T U:TX} {pos p tpos apos cpos p1:Pos} {X:Cx} {x:Str} {st:Stmt} {sts:List Stmt} {d d':ST} {keep:List Nat}
variable {F0 H0 F H F1 H1:Hp} {Γ:En} {σ:L2.St} {W:WX} {D:Ends} {js:List (Nat×Tg)} {f:FX} {ts:List Tg} {n j:Nat} {m:Bool}
theorem CXok.of{K1:PV→En→Out}{Q1:PV→En→V→Hp→Prop}(h:OutOk C W F0 H0 D (callX m f js As Γ K1))(q:∀ p Γ' v F' H',GoodS C.K F0 H0 Γ' σ F' H'→Rep C.K F' p v→OutOk C W F0 H0 D (K1 p Γ')→Q1 p Γ' v H'):CXok C W σ F0 H0 Γ m f js As Q1:=by
 unfold callX at h
 unfold CXok
 cases e1:takeH m Γ js with
 | none=>rw [e1] at h; exact h
 | some ps =>
  rw [e1] at h
  simp only at h ⊢
  cases e2:As Γ with
  | exc c=>rw [e2] at h; exact fun F' H' g=>h σ F' H' g
  | bad=>rw [e2] at h; exact h
  | ok xs =>
   rw [e2] at h
   simp only at h ⊢
   cases e3:putVs xs with
   | exc c=>rw [e3] at h; exact h
   | bad=>rw [e3] at h; exact h
   | ok qs =>
    rw [e3] at h
    simp only at h ⊢
    cases e4:f (ps++qs) with
    | exc c=>rw [e4] at h; exact fun F' H' g=>h σ F' H' g
    | bad=>rw [e4] at h; exact h
    | ok y=>rw [e4] at h; exact fun v F' H' g r=>q _ _ v F' H' g r h
theorem CXok.imp{Q1 Q2:PV→En→V→Hp→Prop}(h:CXok C W σ F0 H0 Γ m f js As Q1)(q:∀ p Γ' v H',Q1 p Γ' v H'→Q2 p Γ' v H'):CXok C W σ F0 H0 Γ m f js As Q2:=by
 unfold CXok at h ⊢
 cases e1:takeH m Γ js with
 | none=>rw [e1] at h; exact h
 | some ps =>
  rw [e1] at h
  simp only at h ⊢
  cases e2:As Γ with
  | exc c=>rw [e2] at h; exact h
  | bad=>rw [e2] at h; exact h
  | ok xs =>
   rw [e2] at h
   simp only at h ⊢
   cases e3:putVs xs with
   | exc c=>rw [e3] at h; exact h
   | bad=>rw [e3] at h; exact h
   | ok qs =>
    rw [e3] at h
    simp only at h ⊢
    cases e4:f (ps++qs) with
    | exc c=>rw [e4] at h; exact h
    | bad=>rw [e4] at h; exact h
    | ok y=>rw [e4] at h; exact fun v F' H' g r=>q _ _ v H' (h v F' H' g r)
def MOk(C:Cn)(W:WX)(σ:L2.St)(F0 H0:Hp)(Q:Bool→Hp→Prop):RM→Prop
 | .ok b Γ=>∀ F H,GoodS C.K F0 H0 Γ σ F H→Q b H
 | .exc c Γ=>∀ F H,GoodS C.K F0 H0 Γ σ F H→W (C.xc c) none σ H
 | .bad=>False
variable (C k N sc) in
def DTM (e:Expr) (t:TM):Prop:=∃ tb:WX→TT,(∀ X,Sta C true k N sc X→∀ W,Takes X W→PT X e (tb W)) ∧
 ∀ W σ Γ F0 H0 F H Q,GoodS C.K F0 H0 Γ σ F H→MOk C W σ F0 H0 Q (t Γ)→tb W σ H Q
variable (C k N sc) in
def DWM (e:Expr) (t:TM):Prop:=∃ tb:WX→TT,(∀ X,Sta C true k N sc X→∀ W,Takes X W→PW X e (tb W)) ∧
 ∀ W σ Γ F0 H0 F H Q,GoodS C.K F0 H0 Γ σ F H→MOk C W σ F0 H0 Q (t Γ)→tb W σ H Q
variable {t u:TM}
end
end Vl
end
section
set_option linter.all false
set_option maxHeartbeats 1000000
namespace Vm
@[simp] def dnP (t:Tg) (p:PV):Tg:=if boxed p then dn t else .fz
@[simp] def fldV (j:Nat) (x:TV):Res TV:=match x with
 | (t,.exo 0 l)=>match l[j]? with
  | some p=>.ok (dnP t p,p)
  | none=>.bad
 | _=>.bad
@[simp] def eFld (j:Nat) (a:EX):EX:=fun Γ=>(a Γ).bind fun x=>fldV j x
end Vm
end
section
set_option Elab.async false
set_option linter.all false
set_option maxRecDepth 100000
set_option maxHeartbeats 1000000
namespace Vl
open PySem L2 Vm PyProof.Rows
structure HsC (C:Cn):Prop where
 ex:∃ Ch:Addr,C.mg "House" = some (.ref Ch)∧Cls C.K Ch∧∀ f∈fldN,NoAttr C.K Ch f
section
variable {C:Cn} {cm:Bool} {k:Nat} {N:List Str} {sc so:Scope} {a b c e o tg:Expr} {es:List Expr} {A B:EX} {As:EXs} {T U:TX} {pos p tpos apos cpos p1 p2 pos':Pos} {X:Cx} {x fname m:Str} {st:Stmt} {sts:List Stmt} {d d':ST} {keep:List Nat}
variable {F0 H0 F H F1 H1:Hp} {Γ:En} {σ:L2.St} {W:WX} {D:Ends} {js:List (Nat×Tg)} {ts:List Tg} {n j:Nat}
end
end Vl
end
section
set_option Elab.async false
set_option linter.all false
set_option maxRecDepth 100000
set_option maxHeartbeats 1000000
namespace Vl
open PySem L2 Vm PyProof.Rows
section
variable {K:KK} {F H F' H':Hp}
end
section
variable {C:Cn} {cm:Bool} {k:Nat} {N:List Str} {sc so:Scope} {a b c e o tg:Expr} {es:List Expr} {A B:EX} {As:EXs} {T U:TX} {pos p tpos apos cpos p1 p2 pos':Pos} {X:Cx} {x fname m:Str} {st:Stmt} {sts:List Stmt} {d d':ST} {keep:List Nat}
variable {F0 H0 F H F1 H1:Hp} {Γ:En} {σ:L2.St} {W:WX} {D:Ends} {js:List (Nat×Tg)} {ts:List Tg} {n j:Nat}
end
end Vl
end
section
set_option Elab.async false
set_option linter.all false
set_option maxRecDepth 100000
set_option maxHeartbeats 1000000
namespace Vl
open PySem L2 Vm PyProof.Rows
section
variable {κ:Type} [DecidableEq κ] {f:κ→NestedKey}
end
section
variable {C:Cn} {cm:Bool} {k:Nat} {N:List Str} {sc so:Scope} {a b c e o tg:Expr} {es:List Expr} {A B:EX} {As:EXs} {T U:TX} {pos p tpos apos apos2 cpos p1 p2 pos':Pos} {X:Cx} {x fname m:Str} {st:Stmt} {sts:List Stmt} {d d':ST} {keep:List Nat}
variable {F0 H0 F H F1 H1:Hp} {Γ:En} {σ:L2.St} {W:WX} {D:Ends} {js:List (Nat×Tg)} {ts:List Tg} {n j:Nat}
structure CalI (C:Cn) (k:Nat) (f:FX):Prop where
 ex:∃ ad fd ps Ch,FnOk C.P C.w C.K C.mg C.base (L2.CX C.P C.w) k ad fd ps (spX C [.ow 2] f)∧Binds C.K fd ps []∧C.mg "House" = some (.ref Ch)∧Mk C.K Ch ad
structure CalF (C:Cn) (m:Str) (n k:Nat) (f:FN):Prop where
 ex:∃ ad fd ps Ch,ps.length=n∧FnOk C.P C.w C.K C.mg C.base (L2.CX C.P C.w) k ad fd ps (spOf C n f)∧Binds C.K fd ps []∧C.mg "House" = some (.ref Ch)∧Cls C.K Ch∧Meth C.K Ch m ad
structure CalH (C:Cn) (m:Str) (k:Nat) (ts:List Tg) (f:FX) (nd:Nat):Prop where
 ex:∃ ad fd ps Ch,ps.length=ts.length∧FnOk C.P C.w C.K C.mg C.base (L2.CX C.P C.w) k ad fd ps (spX C ts f)∧Binds C.K fd ps (List.replicate nd .none)∧C.mg "House" = some (.ref Ch)∧Cls C.K Ch∧Meth C.K Ch m ad
end
end Vl
end
section
set_option linter.all false
set_option maxHeartbeats 1000000
namespace Vm
@[simp] def tupKV (x:TV):Res TV:=match x.2 with
 | .dic ks _=>if ks.all (keyN 8) && decide (ks.length≤16777216) then .ok (.fz,.tup ks) else .bad
 | _=>.bad
@[simp] def eTupleK (a:EX):EX:=fun Γ=>(a Γ).bind tupKV
@[simp] def eFn (l:List Nat):EX:=fun _=>.ok (.fz,.exo 1 [.str l])
def fnOf{α:Type}(x:PV)(tb:List (List Nat×α)):Option α:=match x with
 | .exo 1 [.str s]=>(tb.find? fun q=>decide (q.1=s)).map (·.2)
 | _=>none
def catchN:List (List (Nat×Bool)×ST)→Nat→En→Out
 | [],c,Γ=>.exc c Γ
 | (cs,h) :: r,c,Γ=>match takesC cs c with
  | some true=>(match h Γ with
   | .exc _ _=>.bad
   | o=>o)
  | some false=>catchN r c Γ
  | none=>.bad
end Vm
end
section
set_option Elab.async false
set_option linter.all false
set_option maxRecDepth 100000
set_option maxHeartbeats 1000000
namespace PySem
open PySem.F PySem.W
section
variable {prog:Program} {w:World} {A:Around} {E:Value→Shared→Prop} {s:Shared}
end
end PySem
namespace Vl
open PySem L2 Vm PyProof.Rows
section
variable {C:Cn} {cm:Bool} {k:Nat} {N:List Str} {sc so:Scope} {a b c e o tg fe:Expr} {es:List Expr} {A B E:EX} {As:EXs} {T U:TX} {pos p tpos apos apos2 cpos p1 p2 pos' np:Pos} {X:Cx} {x fname m:Str} {st b₀:Stmt} {sts body suite:List Stmt} {d d':ST} {keep:List Nat}
variable {F0 H0 F H F1 H1:Hp} {Γ:En} {σ:L2.St} {W:WX} {D:Ends} {js:List (Nat×Tg)} {ts:List Tg} {n j:Nat}
variable (keep C k N sc) in
def DHX (hds:List ExceptHandler) (l:List (List (Nat×Bool)×ST)):Prop:=∃ l':List (Value×(Addr→Value→Option Addr→TS)),(∀ X,StaS C true k N sc X→HdsOk X hds l') ∧
 ∀ W D σ c Γ F0 H0 F H,GoodS C.K F0 H0 Γ σ F H→OutX C W F0 H0 D keep σ (catchN l c Γ)→wMany C.K W D l' (C.xc c) none σ H
end
end Vl
end
section
set_option Elab.async false
set_option linter.all false
set_option maxRecDepth 100000
set_option maxHeartbeats 1000000
namespace Vl
open PySem L2 Vm PyProof.Rows
section
variable {C:Cn} {k:Nat} {N:List Str} {sc:Scope} {st:Stmt}
end
section
variable {C:Cn} {k:Nat} {N:List Str} {sc:Scope} {a b:Expr} {B:EX} {As:EXs} {p1 pos:Pos} {x:Str} {js:List (Nat×Tg)} {f:FX} {m:Bool}
end
end Vl
end
section
set_option Elab.async false
set_option linter.all false
set_option maxRecDepth 100000
set_option maxHeartbeats 1000000
namespace Vl
open PySem L2 Vm PyProof.Rows
section
variable {C:Cn} {cm:Bool} {k:Nat} {N:List Str} {sc:Scope} {x:Str} {j j' n:Nat} {ts:List Tg} {keep:List Nat} {sts:List Stmt}
end
end Vl
end
section
namespace Vm
@[simp] def eListRev (a:EX):EX:=fun Γ=>(a Γ).bind fun x=>match x.2 with
 | .lst l=>if flat1 x.1 then .ok (.ow 1,.lst l.reverse) else .bad
 | _=>.bad
def onceL{α:Type}[DecidableEq α](l:List α):List α:=l.foldl (fun a x=>if x∈a then a else a++[x]) []
@[simp] def eLenSet (a:EX):EX:=fun Γ=>(a Γ).bind fun x=>match x.2 with
 | .lst l=>if flat1 x.1 then (match strsOf l with
  | some ws=>if ws.length < 1000 then .ok (.fz,.int (onceL ws).length) else .bad
  | none=>.bad) else .bad
 | _=>.bad
end Vm
end
section
set_option Elab.async false
set_option linter.all false
set_option maxRecDepth 100000
set_option maxHeartbeats 1000000
namespace RT
open PySem PySem.Spec PyProof.Rows
section
variable {prog:Program} {w:World} {A:Around} {E:Value→Shared→Prop} {s:Shared}
end
end RT
namespace L2
open PySem PySem.Spec PyProof.Rows RT
section
variable {X:Cx}
end
end L2
namespace Vl
open PySem L2 Vm PyProof.Rows
section
variable {C:Cn} {cm:Bool} {k:Nat} {N:List Str} {sc:Scope} {a:Expr} {A:EX} {pos p p2 pos2:Pos}
end
end Vl
end
section
set_option Elab.async false
set_option linter.all false
set_option maxRecDepth 100000
set_option maxHeartbeats 4000000
namespace L2
open PySem PySem.Spec PyProof.Rows
section
variable {P:Program} {w:World} {A:Around} {E:Value→Shared→Prop} {s:Shared}
end
section
variable {X:Cx}
end
end L2
end
section
set_option Elab.async false
set_option linter.all false
set_option maxRecDepth 100000
set_option maxHeartbeats 1000000
namespace Vl
open PySem L2 Vm PyProof.Rows
section
variable {C:Cn} {cm:Bool} {k:Nat} {N:List Str} {sc:Scope} {a:Expr} {A:EX} {pos p p2 pos2:Pos}
end
end Vl
end
section
set_option linter.all false
namespace Vm
@[simp] def eLCX (own:List Nat) (it:IX) (pat:Pat) (c:TX) (e:EX):EX:=fun Γ=>(it Γ).bind fun xs =>
 if xs.2.length≤16777216 then (lcGo (wipeE Γ own) pat c e xs.2).bind fun ps=>if ps.length≤16777216 then .ok (.ow 1,.lst ps) else .bad else .bad
end Vm
end
section
set_option Elab.async false
set_option linter.all false
set_option maxRecDepth 100000
set_option maxHeartbeats 1000000
namespace Vl
open PySem L2 Vm PyProof.Rows
section
variable {M:Model} {A:Around} {E:Value→Shared→Prop} {s:Shared} {Z:Obj→Prop} {base:Heap} {env:PySem.Env} {outer l:List PySem.Env} {L C e:Addr}
open HandSPX
end
section
variable {X:Cx}
end
end Vl
end
section
set_option Elab.async false
set_option linter.all false
set_option maxRecDepth 100000
set_option maxHeartbeats 1000000
namespace Vl
open PySem L2 Vm PyProof.Rows
section
variable {C:Cn} {cm:Bool} {k:Nat} {N:List Str} {sc so:Scope} {a b c e tg:Expr} {es:List Expr} {A B:EX} {As:EXs} {T U:TX} {pos p:Pos} {X:Cx} {x:Str}
variable {elt iter:Expr} {ifs:List Expr} {scope:Scope} {own:List (Str×Nat)} {I:IX} {pat:Pat}
variable (C cm k N sc) in
def DEx (e:Expr) (E:EX):Prop:=∃ tb:WX→TE,(∀ X,StaS C cm k N sc X→∀ W,Takes X W→PE X e (tb W)) ∧
 ∀ W σ Γ F0 H0 F H Q,Good C.K F0 H0 Γ σ F H→EOk C W σ F H Q (E Γ)→tb W σ H Q
variable (C cm k N sc) in
def DAx (es:List Expr) (E:EXs):Prop:=∃ tb:WX→TA,(∀ X,StaS C cm k N sc X→∀ W,Takes X W→PA X es (tb W)) ∧
 ∀ W σ Γ F0 H0 F H Q,Good C.K F0 H0 Γ σ F H→AOk C W σ F H Q (E Γ)→tb W σ H Q
end
section
variable {C:Cn} {cm:Bool} {k:Nat} {N:List Str} {sc so:Scope} {a b c e tg:Expr} {es:List Expr} {A B:EX} {As:EXs} {T U:TX} {pos p:Pos} {X:Cx} {x:Str}
end
section
variable {C:Cn} {k:Nat} {N:List Str} {sc:Scope} {tg elt iter:Expr} {ifs:List Expr} {scope:Scope} {own:List (Str×Nat)} {I:IX} {pat:Pat} {A:EX} {T:TX} {pos p:Pos}
end
end Vl
end
section
set_option linter.all false
set_option maxRecDepth 10000
namespace Vm
def eDic1L(tuple:Bool)(a b:EX):EX:=fun Γ=>(a Γ).bind fun x=>(b Γ).bind fun y=>(fzK x).bind fun p=>match y with
 | (.ow 1,.lst m)=>if (if tuple then keyT p else keyL p) then .ok (.ow 2,.dic [p] [.lst m]) else .bad
 | _=>.bad
def dDNew(i:Nat)(k:EX):ST:=fun Γ=>match Γ.get i with
 | some (.ow 2,.dic ks l)=>aft (k Γ) Γ fun y=>aft (fzK y) Γ fun q =>
  if sameK q ks && decide (ks.length < 16777216) && (dIx ks q).isNone then .nx (Γ.set i (some (.ow 2,.dic (dPutK ks q) (dPutV ks l q (.lst []))))) else .bad
 | _=>.bad
def appL(pat:Pat)(k e:EX)(ks:List PV)(j:Nat)(Γ:En):List PV→Res (List PV)
 | []=>.ok []
 | p :: ps=>(bindP Γ (.fz,p) pat).bind fun Γ1=>(k Γ1).bind fun y=>(fzK y).bind fun q=>if sameK q ks && dIx ks q == some j then (e Γ1).bind fun x=>(putV x).bind fun w=>(appL pat k e ks j Γ ps).bind fun r=>.ok (w :: r) else .bad
def dForApp(i:Nat)(ws:List Nat)(k1:EX)(pat:Pat)(k2 e:EX):ST:=fun Γ=>match Γ.get i with
 | some (.ow 2,.dic ks l)=>aft (k1 Γ) Γ fun y=>aft (fzK y) Γ fun q1=>(match (k2 Γ).bind fzK with
  | .ok q2=>if sameK q1 ks && sameK q2 ks && !ws.elem i && pat.slots.all fun w=>ws.elem w then
   (match lstAtD (ks,l) q1,lstAtD (ks,l) q2 with
    | some (j1,m1),some (j2,m2)=>if j1=j2 then .bad else (match appL pat k2 e ks j2 ((wipeE Γ ws).set i none) m1 with
     | .ok ps=>if m2.length+ps.length≤16777216 then .nx ((wipeE Γ ws).set i (some (.ow 2,.dic ks (l.set j2 (.lst (m2++ps)))))) else .bad
     | _=>.bad)
    | _,_=>.bad) else .bad
  | _=>.bad)
 | _=>.bad
def sortTV(x:TV):Res TV:=match x with
 | (.fz,.tup l)=>if srtOk l && l.all (keyN 8) && decide (l.length≤16777216) then .ok (.ow 1,.lst (sortP l)) else .bad
 | _=>.bad
def eSortedT(a:EX):EX:=fun Γ=>(a Γ).bind sortTV
def opInDT(x y:PV):Res PV:=match y with
 | .tup l=>if shp 50 x && shpL 50 l then .ok (.bl (l.any fun z=>eqv z x)) else .bad
 | _=>.bad
end Vm
end
section
set_option Elab.async false
set_option linter.all false
set_option maxRecDepth 100000
set_option maxHeartbeats 1000000
namespace Vl
open PySem L2 Vm PyProof.Rows
section
variable {C:Cn} {F0 H0 F H F1 H1:Hp} {Γ:En} {σ:L2.St}
theorem ownl_at{Q:List Addr→PV→V→Prop}:∀ {fs:List (List Addr)} {ps:List PV} {vs:List V} {n:Nat} {q:PV},OwnL Q fs ps vs→ps[n]? = some q→∃ f u,fs[n]? = some f∧vs[n]? = some u∧Q f q u
 | [],[],[],n,q,h,e=>by simp at e
 | f :: fs,p :: ps,v :: vs,0,q,h,e=>by
  simp at e
  subst e
  exact ⟨f,v,rfl,rfl,h.1⟩
 | f :: fs,p :: ps,v :: vs,n+1,q,h,e=>by
  obtain ⟨g,u,h1,h2,h3⟩:=ownl_at (n:=n) h.2 (by simpa using e)
  exact ⟨g,u,by simpa using h1,by simpa using h2,h3⟩
 | [],[],_ :: _,_,_,h,_=>h.elim
 | [],_ :: _,_,_,_,h,_=>h.elim
 | _ :: _,[],_,_,_,h,_=>h.elim
 | _ :: _,_ :: _,[],_,_,h,_=>h.elim
theorem flat_apart{fs:List (List Addr)}(nd:fs.flatten.Nodup){n m:Nat}{f g:List Addr}(h1:fs[n]? = some f)(h2:fs[m]? = some g)(hne:n ≠ m):∀ a∈f,a ∉ g:=by
 intro a ha hb
 have key:∀ {n m:Nat} {f g:List Addr},fs[n]? = some f→fs[m]? = some g→n < m→a∈f→a∈g→False:=by
  intro n m f g h1 h2 hlt ha hb
  have hd:fs=fs.take m++fs.drop m:=(List.take_append_drop m fs).symm
  rw [hd,List.flatten_append] at nd
  obtain ⟨_,_,n3⟩:=List.nodup_append.mp nd
  have m1:f∈fs.take m:=List.mem_of_getElem? (i:=n) (by rw [List.getElem?_take,if_pos hlt]; exact h1)
  have m2:g∈fs.drop m:=List.mem_of_getElem? (i:=0) (by rw [List.getElem?_drop]; exact h2)
  exact n3 a (List.mem_flatten.mpr ⟨f,m1,ha⟩) a (List.mem_flatten.mpr ⟨g,m2,hb⟩) rfl
 rcases Nat.lt_or_gt_of_ne hne with q | q
 ·exact key h1 h2 q ha hb
 ·exact key h2 h1 q hb ha
theorem lstAt_of{ks l m:List PV}{q:PV}{j:Nat}(h:lstAtD (ks,l) q=some (j,m)):dIx ks q=some j∧l[j]? = some (.lst m):=by
 unfold lstAtD at h
 cases hj:dIx ks q with
 | none=>simp only [hj] at h; cases h
 | some j' =>
  simp only [hj] at h
  split at h
  ·rename_i m' e3; cases h; exact ⟨rfl,e3⟩
  ·cases h
theorem upd_upd{H:Hp}{a:Addr}{x y:HO}:upd (upd H a x) a y=upd H a y:=by
 funext b
 by_cases h:b=a
 ·subst h; rw [upd_same,upd_same]
 ·rw [upd_ne h,upd_ne h,upd_ne h]
theorem upd_self{H:Hp}{a:Addr}{x:HO}(h:H a=some x):upd H a x=H:=by
 funext b
 by_cases e:b=a
 ·subst e; rw [upd_same,h]
 ·rw [upd_ne e]
theorem Ext.under{F2 H2 F5 H5:Hp}{a:Addr}{us us':List V}(e:Ext F H F2 H2)(hf:F a=none)(ha:H a=some (.lst us))(e5:Ext F2 (upd H2 a (.lst us')) F5 H5):Ext F H F5 (upd H5 a (.lst us))∧H5 a=some (.lst us'):=by
 have f2:F2 a=none:=by
  cases z:F2 a with
  | none=>rfl
  | some o =>
   rcases e.nw a (by rw [z]; simp) with w | w
   ·exact (w hf).elim
   ·rw [ha] at w; cases w
 have f5:F5 a=none:=by
  cases z:F5 a with
  | none=>rfl
  | some o =>
   rcases e5.nw a (by rw [z]; simp) with w | w
   ·exact (w f2).elim
   ·rw [upd_same] at w; cases w
 refine ⟨⟨e.ff.trans e5.ff,fun b o z=>?_,fun b o z=>?_,fun b xs z=>?_,fun b z=>?_⟩,e5.hh _ _ upd_same⟩
 ·by_cases q:b=a
  ·subst q; rw [upd_same]; rw [ha] at z; exact z
  ·rw [upd_ne q]; exact e5.hh _ _ (by rw [upd_ne q]; exact e.hh _ _ z)
 ·by_cases q:b=a
  ·subst q; rw [f5] at z; cases z
  ·rw [upd_ne q]; exact e5.fh _ _ z
 ·by_cases q:b=a
  ·subst q; rw [upd_same] at z; cases z
  ·rw [upd_ne q] at z; exact e5.tp _ _ z
 ·rcases e5.nw b z with w | w
  ·exact e.nw b w
  ·by_cases q:b=a
   ·subst q; rw [upd_same] at w; cases w
   ·rw [upd_ne q] at w; exact .inr (e.hh.free w)
theorem wipeE_set_ne{Γ:En}{i:Nat}{x:Sl}:∀ {ws:List Nat},i ∉ ws→wipeE (Γ.set i x) ws=(wipeE Γ ws).set i x
 | [],_=>rfl
 | w :: ws,h=>by
  simp only [List.mem_cons,not_or] at h
  unfold wipeE
  rw [wipeE_set_ne h.2,List.set_comm _ _ h.1]
theorem get_wiped{Γ:En}{ws:List Nat}{j:Nat}{x:TV}{i:Nat}{y:Sl}(hi:i ∉ ws)(h:En.get ((wipeE Γ ws).set i y) j=some x):j ∉ ws:=by
 rw [get_set] at h
 split at h
 ·rename_i q; rw [q.1]; exact hi
 ·exact (wipe_get h).2
theorem GoodS.move{i:Nat}{y:Sl}{ws:List Nat}{σ':L2.St}(g:GoodS C.K F0 H0 ((wipeE Γ ws).set i y) σ F H)(hi:i ∉ ws)(hw:L2.wipe σ' ws=L2.wipe σ ws):GoodS C.K F0 H0 ((wipeE Γ ws).set i y) σ' F H:=by
 have hl:σ'.length=σ.length:=by rw [← wipe_length σ' ws,hw,wipe_length]
 obtain ⟨⟨e,l,fp,h1,h2⟩,nb⟩:=g
 refine ⟨⟨e,by rw [hl]; exact l,fp,fun j x hx=>?_,h2⟩,nb⟩
 obtain ⟨v,h3,h4⟩:=h1 j x hx
 have hj:=get_wiped hi hx
 refine ⟨v,?_,h4⟩
 rw [← wipe_keep hj,hw,wipe_keep hj]
 exact h3
end
section
variable {C:Cn} {k:Nat} {N:List Str} {sc:Scope} {b1 b2 e tg:Expr} {A B1 B2:EX} {pos p1 p2 p3 p4 apos cpos pos':Pos} {X:Cx} {x:Str} {pat:Pat}
theorem ds_forApp (i:Nat) (ws:List Nat) (h1:DE C true k N sc b1 B1) (hg:DG C true k N sc sc tg pat) (h2:DE C true k N sc b2 B2) (he:DE C true k N sc e A)
  (hN:N[i]? = some x:=by rfl) (hv:Vis sc x:=by first | exact Or.inl rfl | exact Or.inr (Or.inl rfl) | exact Or.inr (Or.inr rfl)) (hd:(x == ("__debug__":Str))=false:=by decide) (hcd:(x == ("__classdict__":Str))=false:=by decide)
  (n1:NoSl b1:=by exact fun _ _=>rfl) (n2:NoSl b2:=by exact fun _ _=>rfl)
  (hs:∀ (env:PySem.Env) x',foldedSetIterable (.Subscript (.Name x p1) b1 p2) env x'=pure x':=by intro _ _; rfl)
  (hbase:∀ env:PySem.Env,attributeBase (.Subscript (.Name x p3) b2 p4) "append" env (eval (.Subscript (.Name x p3) b2 p4) env)=eval (.Subscript (.Name x p3) b2 p4) env:=by intro _; rfl)
  (hfew:∀ env:PySem.Env,((backTo cpos (starEach [e] env)).all (fun x=>!x.1) && (backToKw cpos (keywordEach [] env)).all (fun x=>x.1.isSome)
   && decide (([e]).length+([]:List Keyword).length+(if ([]:List Keyword).isEmpty then 0 else 1) < 30))=true:=by intro _; rfl)
  (hline:(apos.endLine == cpos.line)=true:=by rfl) (hst:∀ env:PySem.Env,starEach [e] env=(false,eval e env) :: starEach [] env:=by intro _; rfl)
  (hs2:∀ env:PySem.Env,swapsWith (.Call (.Attribute (.Subscript (.Name x p3) b2 p4) "append" apos) [e] [] cpos) none pos'.line env=pure false:=by intro _; rfl) :
  DS C true k N sc (.For tg (.Subscript (.Name x p1) b1 p2) [.Expr (.Call (.Attribute (.Subscript (.Name x p3) b2 p4) "append" apos) [e] [] cpos) pos'] [] pos) (dForApp i ws B1 pat B2 A):=by
 obtain ⟨t1,r1,q1⟩:=h1
 obtain ⟨t,pt,qt⟩:=hg
 obtain ⟨t2,r2,q2⟩:=h2
 obtain ⟨ta,pa,qa⟩:=he
 refine ⟨fun W=>tFor (iSq C.K (tDX C.K (tVar i) (t1 W))) t (tDrop (tBM C.K "list" rAppend (tDX C.K (tVar i) (t2 W)) (tCons (ta W) tNil))),fun X S W T=>ps_for S.po (S.c rfl) ?_ (pt X S.toSta S.rq) (pss_one ?_) (hs _),fun W D σ Γ F0 H0 F H g h=>?_⟩
 ·rw [← S.KK]
  exact pi_sq (pe_dx S.u10 (pe_var (by rw [S.n]; exact hN) (by rw [S.s]; exact hv) hd hcd) (r1 X S.toSta W T) n1)
 ·rw [← S.KK]
  exact ps_expr (pe_bm PySem.F.plainAttrs_list PySem.F.slot_list_append PySem.F.type_list_append mt_append (pe_dx S.u10 (pe_var (by rw [S.n]; exact hN) (by rw [S.s]; exact hv) hd hcd) (r2 X S.toSta W T) n2) (pa_cons (pa X S.toSta W T) pa_nil (hst _)) (hbase _) (hfew _) hline (hst _) rfl) (hs2 _)
 unfold dForApp at h
 split at h
 ·rename_i ks l eg
  obtain ⟨v0,fp,hv0,own,nd,fr,go⟩:=good_go g eg
  obtain ⟨ad,ob,vs,fps,rfl,d1,d2,d3,d4,rfl,d6⟩:=own_dic own
  refine ⟨.ref ad,hv0,q1 W σ Γ F0 H0 F H _ g.toGood (OutOk.bind g h fun z u F1 H1 ez e1 rz h=>?_)⟩
  cases hfz:fzK z with
  | exc c=>exact (fzK_noexc hfz).elim
  | bad=>rw [hfz] at h; exact h.elim
  | ok kq =>
  rw [hfz,after_ok] at h
  have ez2:=fzK_ok hfz
  subst ez2
  cases hk2:(B2 Γ).bind fzK with
  | exc c=>rw [hk2] at h; exact h.elim
  | bad=>rw [hk2] at h; exact h.elim
  | ok kq2 =>
  rw [hk2] at h
  simp only at h
  by_cases hk:(sameK kq ks && sameK kq2 ks && !ws.elem i && pat.slots.all fun w=>ws.elem w)=true
  ·rw [if_pos hk] at h
   simp only [Bool.and_eq_true,Bool.not_eq_true'] at hk
   obtain ⟨⟨⟨k1,k2⟩,k3⟩,k4⟩:=hk
   have hiw:i ∉ ws:=fun q=>by rw [List.elem_eq_mem] at k3; simp [q] at k3
   have hpw:∀ w∈pat.slots,w∈ws:=fun w hw=>by
    have:=List.all_eq_true.mp k4 w hw
    rw [List.elem_eq_mem] at this
    simpa using this
   cases hl1:lstAtD (ks,l) kq with
   | none=>rw [hl1] at h; exact h.elim
   | some jm1 =>
   obtain ⟨j1,m1⟩:=jm1
   cases hl2:lstAtD (ks,l) kq2 with
   | none=>rw [hl1,hl2] at h; exact h.elim
   | some jm2 =>
   obtain ⟨j2,m2⟩:=jm2
   rw [hl1,hl2] at h
   simp only at h
   by_cases hj:j1=j2
   ·rw [if_pos hj] at h; exact h.elim
   rw [if_neg hj] at h
   cases hap:appL pat B2 A ks j2 ((wipeE Γ ws).set i none) m1 with
   | exc c=>rw [hap] at h; exact h.elim
   | bad=>rw [hap] at h; exact h.elim
   | ok ps =>
   rw [hap] at h
   simp only at h
   by_cases hz:m2.length+ps.length≤16777216
   ·rw [if_pos hz] at h
    obtain ⟨x1,hm1⟩:=lstAt_of hl1
    obtain ⟨x2,hm2⟩:=lstAt_of hl2
    obtain ⟨f1,u1,y1,y2,y3⟩:=ownl_at d6 hm1
    obtain ⟨f2,u2,z1,z2,z3⟩:=ownl_at d6 hm2
    obtain ⟨a1,us1,rfl,hH1,rm1,rfl⟩:=own_one' y3
    obtain ⟨a2',us2',rfl,hH2',rm2',rfl⟩:=own_one' z3
    have nd2:=(List.nodup_cons.mp nd).2
    have ha12':a1 ≠ a2':=fun q=>flat_apart nd2 y1 z1 hj a1 (by simp) (by rw [q]; simp)
    obtain ⟨a2,us2,hv2,hH2,rm2,go2⟩:=modD2 go own nd d1 d2 d3 d4 d6 hm2
    have ea2:a2'=a2:=by rw [hv2] at z2; cases z2; rfl
    subst ea2
    have hf2:F a2'=none:=(fr a2' (List.mem_cons_of_mem _ (List.mem_flatten.mpr ⟨[a2'],List.mem_of_getElem? z1,by simp⟩))).1
    have had2:ad ≠ a2':=fun q=>by rw [q] at d1; rw [hH2] at d1; cases d1
    have hat1:∀ {F2 H2:Hp} {us':List V},Ext F H F2 H2→upd H2 a2' (.lst us') a1=some (.lst us1):=fun e=>by rw [upd_ne ha12']; exact e.hh _ _ hH1
    have hatd:∀ {F2 H2:Hp} {us':List V},Ext F H F2 H2→upd H2 a2' (.lst us') ad=some (dHO ad ob):=fun e=>by rw [upd_ne had2]; exact e.hh _ _ d1
    refine ⟨ad,ob,ks,vs,kq,.ref a1,rfl,e1.hh _ _ d1,d3.tups fun a xs z=>e1.fh _ _ (e1.ff _ _ z),k1,rz.rep e1.fh,by rw [x1]; exact y2,a1,rfl,.inl ⟨⟨us1,SqL.of (e1.hh _ _ hH1)⟩,
     fun n m σ' H'=>m=m1.length - n∧n≤m1.length∧∃ F2 H2 us',Ext F H F2 H2∧RepL C.K F2 (m2++ps.take n) us'∧H'=upd H2 a2' (.lst us')∧L2.wipe σ' ws=L2.wipe σ ws∧appL pat B2 A ks j2 ((wipeE Γ ws).set i none) (m1.drop n) = .ok (ps.drop n),
     ⟨_,rfl,Nat.zero_le _,F1,H1,us2,e1,by rw [List.take_zero,List.append_nil]; exact rm2.mono e1.ff _ _,(upd_self (e1.hh _ _ hH2)).symm,rfl,hap⟩,?_⟩⟩
    rintro n m σ' H' ⟨rfl,hn,F2,H2,us',e2,r2',rfl,hw,hrest⟩
    have g2:=(go2 e2 r2').1
    have hlen:ps.length=m1.length:=by
     have:∀ (l:List PV) (r:List PV),appL pat B2 A ks j2 ((wipeE Γ ws).set i none) l = .ok r→r.length=l.length:=by
      intro l
      induction l with
      | nil=>intro r h; cases h; rfl
      | cons p l ih =>
       intro r h
       unfold appL at h
       cases q1:bindP ((wipeE Γ ws).set i none) (.fz,p) pat with
       | exc c=>rw [q1] at h; cases h
       | bad=>rw [q1] at h; cases h
       | ok Γ1 =>
        rw [q1,bind_ok] at h
        cases q2:B2 Γ1 with
        | exc c=>rw [q2] at h; cases h
        | bad=>rw [q2] at h; cases h
        | ok y =>
        rw [q2,bind_ok] at h
        cases q2':fzK y with
        | exc c=>rw [q2'] at h; cases h
        | bad=>rw [q2'] at h; cases h
        | ok y' =>
        rw [q2',bind_ok] at h
        split at h
        ·cases q3:A Γ1 with
         | exc c=>rw [q3] at h; cases h
         | bad=>rw [q3] at h; cases h
         | ok w =>
         rw [q3,bind_ok] at h
         cases q3':putV w with
         | exc c=>rw [q3'] at h; cases h
         | bad=>rw [q3'] at h; cases h
         | ok w' =>
         rw [q3',bind_ok] at h
         cases q4:appL pat B2 A ks j2 ((wipeE Γ ws).set i none) l with
         | exc c=>rw [q4] at h; cases h
         | bad=>rw [q4] at h; cases h
         | ok r2=>rw [q4,bind_ok] at h; cases h; rw [List.length_cons,List.length_cons,ih r2 q4]
        ·cases h
     exact this m1 ps hap
    by_cases hlt:n < m1.length
    ·have hlu:n < us1.length:=by rw [rm1.len]; exact hlt
     refine .inr ⟨⟨us1,us1[n],SqL.of (hat1 e2),List.getElem?_eq_getElem hlu⟩,fun σ2 H2'=>n+1≤m1.length∧∃ F2 H2 us',Ext F H F2 H2∧RepL C.K F2 (m2++ps.take (n+1)) us'∧H2'=upd H2 a2' (.lst us')∧L2.wipe σ2 ws=L2.wipe σ ws∧appL pat B2 A ks j2 ((wipeE Γ ws).set i none) (m1.drop (n+1)) = .ok (ps.drop (n+1)),fun σ2 H2' hN'=>⟨m1.length - (n+1),by omega,rfl,hN'⟩,fun xv H2' hy=>?_⟩
     obtain ⟨rfl,hy⟩:=hy
     have hxv:=hy us1 (SqL.of (hat1 e2))
     obtain ⟨p,hp1,hp2⟩:=rm1.getV hxv
     have hdr:m1.drop n=p :: m1.drop (n+1):=by
      rw [List.drop_eq_getElem_cons hlt]
      rw [List.getElem?_eq_getElem hlt] at hp1
      cases hp1; rfl
     have hps:n < ps.length:=by rw [hlen]; exact hlt
     have hpd:ps.drop n=ps[n] :: ps.drop (n+1):=List.drop_eq_getElem_cons hps
     have hpt:ps.take (n+1)=ps.take n++[ps[n]]:=by rw [List.take_succ,List.getElem?_eq_getElem hps]; rfl
     rw [hdr,hpd] at hrest
     unfold appL at hrest
     have gw:GoodS C.K F0 H0 ((wipeE Γ ws).set i none) σ F2 (upd H2 a2' (.lst us')):=by
      have:=g2.forget (i :: ws)
      rw [show wipeE (Γ.set i (some (.ow 2,.dic ks (l.set j2 (.lst (m2++ps.take n)))))) (i :: ws)=(wipeE Γ ws).set i none from by
       show (wipeE (Γ.set i _) ws).set i none=_
       rw [wipeE_set_ne hiw,List.set_set]] at this
      exact this
     have gm:=gw.move hiw hw
     refine qt _ σ' F0 H0 F2 _ (.fz,p) xv (upd H2 a2' (.lst us')) _ gm.toGood (.fz (hp2.mono e2.ff _ _)) ?_
     cases hbp:bindP ((wipeE Γ ws).set i none) (.fz,p) pat with
     | exc c=>exact (bindP_noexc hbp).elim
     | bad=>rw [hbp] at hrest; cases hrest
     | ok Γ1 =>
     rw [hbp,bind_ok] at hrest
     intro σ3 g3 hw3
     have hw3':L2.wipe σ3 ws=L2.wipe σ ws:=(hw3 ws hpw).trans hw
     have hσ3:σ3[i]? = some (some (.ref ad)):=by rw [← wipe_keep hiw,hw3',wipe_keep hiw]; exact hv0
     refine ⟨.ref ad,hσ3,q2 W σ3 Γ1 F0 H0 F2 _ _ g3 ?_⟩
     cases hy2:B2 Γ1 with
     | exc c=>rw [hy2] at hrest; cases hrest
     | bad=>rw [hy2] at hrest; cases hrest
     | ok y2 =>
     rw [hy2,bind_ok] at hrest
     intro u3 F3 H3 e3 r3
     cases hq2:fzK y2 with
     | exc c=>rw [hq2] at hrest; cases hrest
     | bad=>rw [hq2] at hrest; cases hrest
     | ok kq3 =>
     rw [hq2,bind_ok] at hrest
     have ey:=fzK_ok hq2
     subst ey
     by_cases hc:(sameK kq3 ks && dIx ks kq3 == some j2)=true
     ·rw [if_pos hc] at hrest
      rw [Bool.and_eq_true] at hc
      have hix:dIx ks kq3=some j2:=by simpa using hc.2
      obtain ⟨eu,hu3⟩:=Ext.under e2 hf2 hH2 e3
      have hdd:DicK C.K H3 ob (ks.map nkOf) vs:=d3.tups fun a xs z=>e3.fh _ _ (e3.ff _ _ (e2.ff _ _ z))
      refine ⟨ad,ob,ks,vs,kq3,.ref a2',rfl,e3.hh _ _ (hatd e2),hdd,hc.1,r3.rep e3.fh,by rw [hix]; exact z2,.inl ⟨rfl,us',SqL.of hu3⟩,qa W σ3 Γ1 F0 H0 F3 H3 _ (g3.next e3) ?_⟩
      cases hA:A Γ1 with
      | exc c=>rw [hA] at hrest; cases hrest
      | bad=>rw [hA] at hrest; cases hrest
      | ok xw =>
      rw [hA,bind_ok] at hrest
      intro wv F4 H4 e4 r4
      cases hpw':putV xw with
      | exc c=>exact (put_noexc hpw').elim
      | bad=>rw [hpw'] at hrest; cases hrest
      | ok w =>
      rw [hpw',bind_ok] at hrest
      cases hr:appL pat B2 A ks j2 ((wipeE Γ ws).set i none) (m1.drop (n+1)) with
      | exc c=>rw [hr] at hrest; cases hrest
      | bad=>rw [hr] at hrest; cases hrest
      | ok rr =>
      rw [hr,bind_ok] at hrest
      injection hrest with hrest
      injection hrest with ew er
      subst er
      obtain ⟨F5,e5,r5⟩:=r4.put e4 hpw'
      have eall:=e3.trans e5
      obtain ⟨eu5,hu5⟩:=Ext.under e2 hf2 hH2 eall
      refine ⟨a2',us',wv,rfl,rfl,hu5,?_,hlt,F5,upd H4 a2' (.lst us2),us'++[wv],eu5,?_,upd_upd.symm,hw3',rfl⟩
      ·have:=r2'.len
       rw [List.length_append,List.length_take] at this
       rw [this,← szL_eq]; omega
      ·rw [hpt,← List.append_assoc,← ew]
       exact (r2'.mono eall.ff _ _).append (RepL.cons r5 RepL.nil)
     ·rw [if_neg hc] at hrest; cases hrest
    ·have en:n=m1.length:=by omega
     refine .inl ⟨⟨us1,SqL.of (hat1 e2),by rw [rm1.len]; omega⟩,h σ' F2 _ ?_⟩
     have hpt:ps.take n=ps:=List.take_of_length_le (by omega)
     rw [hpt] at g2
     have:=g2.forget ws
     rw [wipeE_set_ne hiw] at this
     exact this.move hiw hw
   ·rw [if_neg hz] at h; exact h.elim
  ·rw [if_neg hk] at h; exact h.elim
 ·exact h.elim
end
section
variable {C:Cn} {cm:Bool} {k:Nat} {N:List Str} {sc:Scope} {b e:Expr} {A B:EX} {pos p1 p2 pos':Pos} {x:Str}
theorem de_dic1L(tuple:Bool){ke ve:Expr}(ha:DE C cm k N sc ke A)(hb:DE C cm k N sc ve B):DE C cm k N sc (.Dict [some ke] [ve] pos) (eDic1L tuple A B):=by
 obtain ⟨ta,pa,qa⟩:=ha
 obtain ⟨tb,pb,qb⟩:=hb
 refine ⟨fun W=>tDisp1 C.K tuple (ta W) (tb W),fun X S W T=>by rw [← S.KK]; exact pe_disp1 tuple S.u10 (pa X S W T) (pb X S W T),fun W σ Γ F0 H0 F H Q g h ad hp hd=>?_⟩
 have e0:Ext F H F (upd H ad (dHO ad dNew)):=Ext.new g.ext.fh g.ext.tp (fun _ z=>by cases z) hp
 refine qa W σ Γ F0 H0 F _ _ (g.next e0) (EOk.bind (EOk.next h e0) fun x u F1 H1 exA e1 r1 h1=>?_)
 refine qb W σ Γ F0 H0 F1 H1 _ ((g.next e0).next e1) (EOk.bind (h1.next e1) fun y v F2 H2 exB e2 r2 h2=>?_)
 cases hk:fzK x with
 | exc c=>exact (fzK_noexc hk).elim
 | bad=>rw [hk] at h2; exact h2.elim
 | ok pk =>
  rw [hk,bind_ok] at h2
  have ex:=fzK_ok hk
  subst ex
  obtain ⟨t,py⟩:=y
  split at h2
  ·rename_i m ey
   cases ey
   by_cases hs:(if tuple then keyT pk else keyL pk)=true
   ·rw [if_pos hs] at h2
    obtain ⟨fp,own,nd,fr⟩:=r2
    have e13:=e1.trans e2
    have rk:Rep C.K F2 pk u:=Rep.mono e2.ff _ _ r1.ofFz
    have hD1:H1 ad=some (dHO ad dNew):=e1.hh _ _ upd_same
    have hD:H2 ad=some (dHO ad dNew):=e2.hh _ _ hD1
    have fD:F2 ad=none:=by
     cases z:F2 ad with
     | none=>rfl
     | some o =>
      rcases e13.nw ad (by rw [z]; simp) with z | z
      ·exact (z (g.ext.fh.free hp)).elim
      ·rw [upd_same] at z; cases z
    refine ⟨F2,pk,e2.fh,hD,hs,rk,fun o' dk=>?_⟩
    have hG:keyN 8 pk=true:=by
     cases tuple with
     | true=>exact keyT_N hs
     | false=>exact keyL_N hs
    have eF:Ext F H F2 (upd H2 ad (dHO ad o')):=by
     have eu:=e0.trans e13
     refine ⟨eu.ff,fun a o z=>?_,fun a o z=>?_,tups_new eu.tp (fun _ z=>by cases z) fD,eu.nw⟩
     ·rw [upd_ne (ne_of_none z hp)]; exact eu.hh _ _ z
     ·rw [upd_ne (ne_of_none z fD)]; exact eu.fh _ _ z
    have h0:EOk C W σ F H Q (.ok (.ow 2,.dic [pk] [.lst m])):=by
     unfold eDic1L at h
     rw [exA,bind_ok,exB,bind_ok,hk,bind_ok] at h
     simp only at h
     rw [if_pos hs] at h
     exact h
    have hne:∀ a∈fp,a ≠ ad:=fun a ha q=>by
     have:=(fr a ha).2
     rw [q,hD1] at this; cases this
    have o2:Own C.K F2 (upd H2 ad (dHO ad o')) 1 fp (.lst m) v:=Own.mono (Same.refl _) 1 own fun a ha=>upd_ne (hne a ha)
    refine h0 _ F2 _ eF ⟨ad :: ([fp]:List (List Addr)).flatten,own_mkD (vs:=[v]) upd_same hd dk (by simp [(rep_key 8 pk u hG rk).2.1]) ⟨o2,trivial⟩,?_,fun b hb=>?_⟩
    ·rw [List.nodup_cons]
     simp only [List.flatten_cons,List.flatten_nil,List.append_nil]
     exact ⟨fun q=>hne ad q rfl,nd⟩
    ·simp only [List.flatten_cons,List.flatten_nil,List.append_nil,List.mem_cons] at hb
     rcases hb with q | q
     ·subst q; exact ⟨fD,hp⟩
     ·exact ⟨(fr b q).1,(e0.trans e1).hh.free (fr b q).2⟩
   ·rw [if_neg hs] at h2; exact h2.elim
  ·exact h2.elim
theorem ds_dnew (i:Nat) (hj:DE C cm k N sc b B) (hN:N[i]? = some x:=by rfl) (hv:Vis sc x:=by first | exact Or.inl rfl | exact Or.inr (Or.inl rfl) | exact Or.inr (Or.inr rfl)) (hd:(x == ("__debug__":Str))=false:=by decide)
  (hcd:(x == ("__classdict__":Str))=false:=by decide) (hs:∀ env:PySem.Env,swapsWith (.List [] p2) (some (.Subscript (.Name x p1) b pos')) pos.line env=pure false:=by intro _; rfl):DS C cm k N sc (.Assign [.Subscript (.Name x p1) b pos'] (.List [] p2) pos) (dDNew i B):=by
 obtain ⟨tb,pb,qb⟩:=hj
 refine ⟨fun W=>sDX C.K (tVar i) (tb W) (tLst tNil),fun X S W T=>by rw [← S.KK]; exact ps_dx S.u10 (pe_var (by rw [S.n]; exact hN) (by rw [S.s]; exact hv) hd hcd) (pb X S.toSta W T) (pe_lst (pa_nil (X:=X))) (hs _),fun W D σ Γ F0 H0 F H g h=>?_⟩
 unfold dDNew at h
 split at h
 ·rename_i ks l eg
  obtain ⟨v0,fp,hv0,own,nd,fr,go⟩:=good_go g eg
  obtain ⟨ad,ob,vs,fps,rfl,d1,d2,d3,d4,rfl,d6⟩:=own_dic own
  have dlen:ks.length=l.length:=by have:=d3.len; rw [List.length_map] at this; rw [this,ownl_len d6]
  refine ⟨by rw [sizeLine_eq]; simp,fun q hqn=>?_⟩
  have e0:Ext F H F (upd H q (.lst [])):=Ext.lst g.ext.fh g.ext.tp hqn
  have g0:=g.next e0
  refine ⟨.ref ad,hv0,qb W σ Γ F0 H0 F _ _ g0.toGood (OutOk.bind g0 h fun z u F1 H1 ez e1 r2 h=>?_)⟩
  cases hfz:fzK z with
  | exc c=>exact (fzK_noexc hfz).elim
  | bad=>rw [hfz] at h; exact h.elim
  | ok kq =>
   rw [hfz,after_ok] at h
   have ez2:=fzK_ok hfz
   subst ez2
   by_cases hk:(sameK kq ks && decide (ks.length < 16777216) && (dIx ks kq).isNone)=true
   ·rw [if_pos hk] at h
    rw [Bool.and_eq_true,Bool.and_eq_true,decide_eq_true_eq,Option.isNone_iff_eq_none] at hk
    obtain ⟨⟨hK,hsz⟩,hj⟩:=hk
    obtain ⟨n8,nk8⟩:=sameK_N hK
    have rk:=r2.ofFz
    have e01:=e0.trans e1
    refine ⟨F1,ad,ob,ks,vs,kq,rfl,e1.fh,e01.hh _ _ d1,d3.tups fun _ _=>e01.ff _ _,hK,rk,by rw [← szL_eq]; exact hsz,fun o' dk=>?_⟩
    obtain ⟨b1,b2⟩:=dput_new (x:=V.ref q) hj (show ks.length=vs.length by rw [ownl_len d6,dlen])
    obtain ⟨c1,c2⟩:=dput_new (x:=PV.lst []) hj dlen
    rw [b1,b2] at dk
    rw [c1,c2] at h
    have Hq:H1 q=some (.lst []):=e1.hh _ _ upd_same
    have hqf:∀ b∈ad :: fps.flatten,b ≠ q∧H1 b=H b:=fun b hb=>by
     obtain ⟨ob,z1,_⟩:=own.there _ b hb
     refine ⟨fun z=>?_,by rw [z1]; exact e01.hh _ _ z1⟩
     subst z
     rw [z1] at hqn; cases hqn
    have hadq:=(hqf ad (by simp)).1
    have fq:F1 q=none:=by
     cases z:F1 q with
     | none=>rfl
     | some o =>
      rcases e1.nw q (by rw [z]; simp) with w | w
      ·exact (w (g.ext.fh.free hqn)).elim
      ·rw [upd_same] at w; cases w
    have Hq3:upd H1 ad (dHO ad o') q=some (.lst []):=by rw [upd_ne (Ne.symm hadq)]; exact Hq
    have own5:Own C.K F1 (upd H1 ad (dHO ad o')) 2 (ad :: (fps++[[q]]).flatten) (.dic (ks++[kq]) (l++[.lst []])) (.ref ad):=by
     refine own_mkD upd_same d2 dk (by rw [List.all_append,d4]; simp [(rep_key 8 kq u n8 rk).2.1]) (ownl_append (ownl_mono e01.ff d6 fun b hb=>?_) ⟨own_new RepL.nil Hq3,trivial⟩)
     have hb':=hqf b (List.mem_cons_of_mem _ hb)
     have hba:b ≠ ad:=fun z=>(List.nodup_cons.mp nd).1 (z ▸ hb)
     rw [upd_ne hba]
     exact hb'.2
    have nd5:(ad :: (fps++[[q]]).flatten).Nodup:=by
     rw [List.flatten_append,List.flatten_cons,List.flatten_nil,List.append_nil]
     rw [List.nodup_cons] at nd ⊢
     refine ⟨fun z=>?_,List.nodup_append.mpr ⟨nd.2,by simp,fun a ha b hb z=>?_⟩⟩
     ·rcases List.mem_append.mp z with z | z
      ·exact nd.1 z
      ·simp at z; exact hadq z
     ·simp at hb
      subst hb z
      exact (hqf a (List.mem_cons_of_mem _ ha)).1 rfl
    exact h σ F1 _ (go F1 H1 _ _ _ _ e01 (fun b hb=>upd_ne fun z=>hb (by rw [z]; simp)) (fun b hb xs=>by
     by_cases z:b=ad
     ·subst z; rw [upd_same]; intro w; cases w
     ·rw [upd_ne z,(hqf b hb).2]
      obtain ⟨ob,z1,z2⟩:=own.there _ b hb
      rw [z1]; intro w; cases w; exact z2 _ rfl) own5 nd5 (fun b hb=>by
     rw [List.flatten_append,List.flatten_cons,List.flatten_nil,List.append_nil] at hb
     rcases List.mem_cons.mp hb with z | z
     ·exact .inl (by rw [z]; simp)
     ·rcases List.mem_append.mp z with z | z
      ·exact .inl (List.mem_cons_of_mem _ z)
      ·simp at z; subst z; exact .inr ⟨hqn,fq⟩))
   ·rw [if_neg hk] at h; exact h.elim
 ·exact h.elim
end
end Vl
end
section
set_option Elab.async false
set_option linter.all false
set_option maxRecDepth 100000
set_option maxHeartbeats 1000000
namespace Vl
open PySem L2 Vm PyProof.Rows
def rSortT(K:KK):List V→Hp→VK→Prop:=fun vs H Q=>∃ (a:Addr) (us:List V) (l:List PV),vs=[.ref a]∧SqT K H a us∧RepL K H l us∧srtOk l=true∧l.all (keyN 8)=true ∧
 ∀ (ws:List V) (p:Addr),(∀ (F:Hp),RepL K F l us→RepL K F (sortP l) ws)→H p=none→Q (.ref p) (upd H p (.lst ws))
theorem cr_sortT{X:Cx}(hu:X.A.units+100 < cLine):CallR X (.builtin "sorted") (rSortT (kkX X)):=by
 intro pins s σ H vs us Q I r h
 obtain ⟨a,ws,l,rfl,hs,rl,hok,hkn,q⟩:=h
 rw [Vals.ref1 r]
 have hlen:=rl.len
 obtain ⟨its,rv,⟨o,ho,hcl,n,hdt⟩,hz0⟩:=I.tuple hs
 unfold srtOk at hok
 rw [Bool.and_eq_true] at hok
 obtain ⟨h1,h2,h3⟩:=ordOk_spec hok.1
 obtain ⟨d1,d2,d3⟩:=rep_dpL 50 l ws h1 rl
 refine PySem.Calls.call_function_entry kind_sorted plain_sorted entry_sorted (args_sorted1 _) ?_
 unfold Builtin.«sorted»
 refine wpAny_bind (m:=checkCount "sorted" 1 1 _) (wpAny_pure ?_)
 have hlt:ws.length=its.length:=Paired.length rv
 refine wpAny_bind (wpAny_collect_seq (A:=X.A.in1) a (T:="tuple") (.inr rfl) ho hcl hdt (fun h' hk=>?_) (by rw [List.size_toArray]; omega))
 have hz:l.length≤sizeLine:=by omega
 have hl:its.length=l.length:=by omega
 show wpAny _ _ _ _ _ { s with heap:=h' }
 rw [show its.toArray.toList=its from rfl]
 refine wpAny_bind (wpAny_newList ?_ (by omega))
 have I1:Inv X pins σ H { s with heap:=h',toks:=s.toks }:=I.kept (t':=s.toks) hk
 have ra:ReadsAll s.heap its (datL l) []:=keys_reads I.hok 8 l ws _ (keyNL_of hkn) rl rv
 have ra':ReadsAll (h'.push { cls:=.type "list",data:=.seq its.toArray }) its (datL l) []:=ReadsAll.keeps (fun b o e=>Heap.get?_push_of_some _ (hk b o e)) ra
 have rv':Vals ws its:=rv
 have em:(ws.zip l).map (fun b=>dat b.2)=datL l:=by
  rw [datL_map]
  have:(ws.zip l).map (fun b=>b.2)=l:=by rw [List.map_snd_zip (by omega)]
  calc (ws.zip l).map (fun b=>dat b.2)=((ws.zip l).map (fun b=>b.2)).map dat:=by rw [List.map_map]; rfl
   _=l.map dat:=by rw [this]
 have al:PySem.W.AllAlike ((ws.zip l).map fun b=>dat b.2):=by
  rw [em]
  obtain ⟨a1,_⟩:=alikeAll_of hok.1
  exact fun d hd d' hd'=>a1 d hd d' hd'
 have sb:PySem.W.Sortable ((ws.zip l).map fun b=>dat b.2):=by
  rw [em,datL_map]
  have h4:=hok.2
  rw [Bool.or_eq_true,List.all_eq_true,List.all_eq_true] at h4
  rcases h4 with h4 | h4
  ·refine .inl fun d hd=>?_
   obtain ⟨p,hp,rfl⟩:=List.mem_map.mp hd
   have:=h4 p hp
   cases p with
   | tup m=>cases m with
    | nil=>cases this
    | cons x r=>exact ⟨dat x,datL r,rfl⟩
   | _=>cases this
  ·refine .inr fun d hd=>?_
   obtain ⟨p,hp,rfl⟩:=List.mem_map.mp hd
   refine ⟨dat_non (shpL_mem h1 hp) (h3 p hp),fun xs e=>?_⟩
   have:=h4 p hp
   cases p <;> first | (cases this; done) | (cases e; done) | (have:=shpL_mem h1 hp; simp at this)
 have hg:=PySem.W.list_sort_data (prog:=X.prog) (w:=X.w) (A:=X.A.in1) (E:=X.xe) (s:={ s with heap:=h'.push { cls:=.type "list",data:=.seq its.toArray },toks:=s.toks }) (a:=h'.objs.size) (n:=0) (vs:=its) (Q:=fun _ s'=>∃ x H',Inv X pins σ H' s'∧RelV x (.ref h'.objs.size)∧Q x H')
  (R:=fun (v:Value) (b:V×PV)=>RelV b.1 v) (enc:=fun b=>dat b.2) (bs:=ws.zip l) (Heap.get?_push_size _ rfl) (eachZ rv' hlen) (each_reads0 hlen rv' ra') al sb (by rw [List.length_zip]; omega) (fun b hb=>by
   have:(dat b.2).depth≤50:=by
    refine depth_mem d3 _ ?_
    rw [← em]
    exact List.mem_map.mpr ⟨b,hb,rfl⟩
   have:X.A.in1.units=X.A.units+1:=Around.in1_units _
   omega) fun out hol he=>?_
 ·refine wpAny_bind (wpAny_holding (wpAny_mono hg (fun _ s' x=>?_) fun _ _ e=>e))
  exact wpAny_pure ⟨_,rfl,x⟩
 ·generalize hm:(ws.zip l).mergeSort (PySem.W.dataLe false fun b:V×PV=>dat b.2)=z at he
  have pm:z.Perm (ws.zip l):=by rw [← hm]; exact List.mergeSort_perm _ _
  have snd:z.map (·.2)=sortP l:=by
   have:sortP l=((ws.zip l).map (·.2)).mergeSort (fun a b=>!ltv b a):=by rw [List.map_snd_zip (by omega)]; rfl
   rw [this,← hm]
   refine List.map_mergeSort fun x hx y hy=>?_
   rw [PySem.W.dataLe_eq]
   have mx:x.2∈l:=(List.of_mem_zip hx).2
   have my:y.2∈l:=(List.of_mem_zip hy).2
   show (!PySem.W.dataLt (dat y.2) (dat x.2))=_
   rw [ltv_is (shpL_mem h1 my) (shpL_mem h1 mx)]
  obtain ⟨ep',he'⟩:=PyProof.Rows.sortedHeap_at (out:=out.toArray) (Heap.get?_push_size h' (o:={ cls:=.type "list",data:=.seq its.toArray }) rfl)
  have hlz:(z.map (·.1)).length≤sizeLine:=by rw [List.length_map,pm.length_eq,List.length_zip]; omega
  refine ⟨.ref _,upd H h'.objs.size (.lst (z.map (·.1))),I1.laid (t':=s.toks) (fun b u e=>?_) (Nat.le_refl _) ⟨hlz,out,ep',each_vals he,he'⟩,rfl,q _ _ (fun F rF=>?_) (I1.hok.fresh (Nat.le_refl _))⟩
  ·have e2:(h'.push { cls:=.type "list",data:=.seq its.toArray }).get? b=some u:=Heap.get?_push_of_some _ e
   rw [sortedHeap_old (Nat.ne_of_lt (Heap.lt_size e)) (Heap.lt_size e2)]
   exact e2
  ·rw [← snd]
   exact repL_zip fun x hx=>repL_each rF x (pm.mem_iff.mp hx)
section
variable {C:Cn} {cm:Bool} {k:Nat} {N:List Str} {sc so:Scope} {a:Expr} {A:EX} {pos p:Pos}
theorem de_sortedT (ha:DE C cm k N sc a A) (mx:C.mg "sorted" = none) (hg:sc.names.lookup ("sorted":Str)=some .globalImplicit:=by rfl)
  (hst:∀ env:PySem.Env,starEach [a] env=(false,eval a env) :: starEach [] env:=by intro _; rfl):DE C cm k N sc (.Call (.Name "sorted" p) [a] [] pos) (eSortedT A) :=
 de_b1 (r:=rSortT C.K) (fun X S=>by rw [← S.KK]; exact cr_sortT S.u) (fun W σ x v F H Hs Q hf ht rv h=>by
  obtain ⟨t,q⟩:=x
  unfold sortTV at h
  split at h
  ·rename_i l e
   cases e
   by_cases hc:(srtOk l && l.all (keyN 8) && decide (l.length≤16777216))=true
   ·rw [if_pos hc] at h
    rw [Bool.and_eq_true,Bool.and_eq_true,decide_eq_true_eq] at hc
    obtain ⟨ad,us,rfl,s,r⟩:=rep_tup rv.ofFz
    refine ⟨ad,us,l,rfl,(TupAt.mono hf s).sq,r.mono hf _ _,hc.1.1,hc.1.2,fun ws p hw hp=>?_⟩
    exact h _ F _ (Ext.lst hf ht hp) (rv_new (hw F r) upd_same (hf.free hp) hp)
   ·rw [if_neg hc] at h; exact h.elim
  ·exact h.elim) mx (by decide +kernel) (by decide) (by decide) ha hg hst
end
def rInTD(K:KK):R2:=fun x y H Q=>∃ p l,Rep K H p x∧Rep K H (.tup l) y∧shp 50 p=true∧shpL 50 l=true∧Q (.bl (l.any fun z=>eqv z p)) H
theorem op_inTD{X:Cx}(hu:X.A.units+65 < cLine):OpR X (compareOp .In) (rInTD (kkX X)):=by
 intro pins s σ H x y v u Q I rx ry h
 obtain ⟨p,l,rp,rq,hs,hsl,hq⟩:=h
 have d1:=rep_dp 50 p x hs rp
 have hl:shp 51 (.tup l)=true:=by unfold shp; exact hsl
 have d2:=rep_dp 51 (.tup l) y hl rq
 have e:((datL l).any fun z=>PyData.eqv z (dat p))=l.any fun z=>eqv z p:=by
  rw [datL_map,List.any_map]
  have:∀ {l:List PV},shpL 50 l=true→(l.any ((fun z=>PyData.eqv z (dat p)) ∘ dat))=l.any fun z=>eqv z p:=by
   intro l
   induction l with
   | nil=>intro _; rfl
   | cons z l ih =>
    intro h
    unfold shpL at h
    rw [Bool.and_eq_true] at h
    rw [List.any_cons,List.any_cons,ih h.2]
    show (PyData.eqv (dat z) (dat p) || _)=_
    rw [eqv_dat 50 50 z p h.1 hs]
  exact this hsl
 obtain ⟨as,r1⟩:=Dp.reads I (dat p) x v d1.1 rx
 obtain ⟨bs,r2⟩:=Dp.reads I (dat (.tup l)) y u d2.1 ry
 have se:=shaped_dat (by omega) hl rq
 have sd:=shaped_dat (by omega) hs rp
 exact SeqAt.in_tuple_reads r2 r1 (SeqAt.canLay_of_shaped se) (SeqAt.canLay_of_shaped sd) (room_in_shaped sd hu) ⟨.bl _,H,I,rfl,by rw [← e] at hq; exact hq⟩
section
variable {C:Cn} {cm:Bool} {k:Nat} {N:List Str} {sc so:Scope} {a b:Expr} {A B:EX} {pos p:Pos}
theorem op2_inTD:Op2 C (rInTD C.K) opInDT:=by
 intro p q v u H Q rp rq
 cases q with
 | tup l =>
  show match (if shp 50 p && shpL 50 l then Res.ok (PV.bl (l.any fun z=>eqv z p)) else Res.bad) with
   | .ok z=>_
   | .exc _=>False
   | .bad=>True
  by_cases hc:(shp 50 p && shpL 50 l)=true
  ·rw [if_pos hc]
   rw [Bool.and_eq_true] at hc
   exact fun hq=>⟨p,l,rp,rq,hc.1,hc.2,hq fun F=>rep_bl⟩
  ·rw [if_neg hc]; trivial
 | _=>trivial
theorem dc_inTD(ha:DE C cm k N sc a A)(hb:DE C cm k N sc b B):DCm C cm k N sc .In a b (eOp2 opInDT A B):=dc_op (r:=rInTD C.K) (fun X S=>by rw [← S.KK]; exact op_inTD S.u') op2_inTD ha hb
end
end Vl
end
section
set_option Elab.async false
set_option linter.all false
set_option maxRecDepth 100000
set_option maxHeartbeats 4000000
namespace Vm
noncomputable def d_looks_alike:FN:=runFn 2 4
 (dSeq (dIf (xVal (eOp2 opNe (eLen (eVar 0)) (eLen (eVar 1))))
 (dRet (eC (.bl false)))
 (dNil))
 (dRet (eOp2 opEq (eLen (eLC [2,3] (jZip (eVar 0) (eVar 1)) (.t [2,3]) (xVal (eOp2 opNe (eVar 2) (eVar 3))) (eC (.int 1)))) (eC (.int 1)))))
noncomputable def d_step_price:FN:=runFn 4 13
 (dSeq (dSetT [4,5,6,7,8,9,10] (eVar 3))
 (dSeq (dSet 11 (eIdx (eVar 2) (eC (.int 0))))
 (dSeq (dIf (xVal (eOp2 opEq (eVar 11) (eC (.str [116,117,114,110]))))
 (dSeq (dIf (xVal (eCall d_looks_alike (eCons (eIdx (eVar 0) (eVar 1)) (eCons (eIdx (eVar 2) (eC (.int 1))) (eNil)))))
 (dRetV 4)
 (dNil))
 (dRetV 5))
 (dNil))
 (dDispRet 12 [[107,101,101,112],[108,111,115,101],[97,100,100],[116,119,105,99,101],[115,119,97,112],[115,107,105,112]] (eCons (eC (.int 0)) (eCons (eVar 6) (eCons (eVar 7) (eCons (eVar 8) (eCons (eVar 9) (eCons (eVar 10) (eNil))))))) (eVar 11)))))
noncomputable def d_skips_at:FN:=runFn 2 3
 (dSeq (dIf (xVal (eOp2 opEq (eVar 1) (eC (.int 0))))
 (dRet (eLst (eNil)))
 (dNil))
 (dRet (eLC [2] (jRange2 (eC (.int 1)) (eAdd (eOp2 opSub (eLen (eVar 0)) (eVar 1)) (eC (.int 1)))) (.v 2) (xVal (eOp2 opEq (eIdx (eVar 0) (eOp2 opSub (eAdd (eVar 1) (eVar 2)) (eC (.int 1)))) (eIdx (eVar 0) (eOp2 opSub (eVar 1) (eC (.int 1)))))) (eTup (eCons (eC (.str [115,107,105,112])) (eCons (eVar 2) (eNil)))))))
noncomputable def d_swaps_at:FN:=runFn 4 4
 (dSeq (dIf (xOr (xVal (eOp2 opGe (eAdd (eVar 2) (eC (.int 1))) (eLen (eVar 0)))) (xOr (xVal (eOp2 opGe (eAdd (eVar 3) (eC (.int 1))) (eLen (eVar 1)))) (xVal (eOp2 opEq (eIdx (eVar 0) (eVar 2)) (eIdx (eVar 0) (eAdd (eVar 2) (eC (.int 1))))))))
 (dRet (eLst (eNil)))
 (dNil))
 (dSeq (dIf (xAnd (xVal (eOp2 opEq (eIdx (eVar 1) (eVar 3)) (eIdx (eVar 0) (eAdd (eVar 2) (eC (.int 1)))))) (xVal (eOp2 opEq (eIdx (eVar 1) (eAdd (eVar 3) (eC (.int 1)))) (eIdx (eVar 0) (eVar 2)))))
 (dRet (eLst (eCons (eTup (eCons (eC (.str [115,119,97,112])) (eNil))) (eNil))))
 (dNil))
 (dRet (eLst (eNil)))))
noncomputable def d_knot_steps:FN:=runFn 4 5
 (dSeq (dSetO 4 (eLst (eNil)))
 (dSeq (dIf (xAnd (xVal (eOp2 opLt (eVar 2) (eLen (eVar 0)))) (xVal (eOp2 opLt (eVar 3) (eLen (eVar 1)))))
 (dIf (xVal (eOp2 opEq (eIdx (eVar 0) (eVar 2)) (eIdx (eVar 1) (eVar 3))))
 (dApp 4 (eTup (eCons (eC (.str [107,101,101,112])) (eNil))))
 (dApp 4 (eTup (eCons (eC (.str [116,117,114,110])) (eCons (eIdx (eVar 1) (eVar 3)) (eNil))))))
 (dNil))
 (dSeq (dIf (xVal (eOp2 opLt (eVar 2) (eLen (eVar 0))))
 (dApp 4 (eTup (eCons (eC (.str [108,111,115,101])) (eNil))))
 (dNil))
 (dSeq (dIf (xVal (eOp2 opLt (eVar 3) (eLen (eVar 1))))
 (dSeq (dApp 4 (eTup (eCons (eC (.str [97,100,100])) (eCons (eIdx (eVar 1) (eVar 3)) (eNil)))))
 (dIf (xAnd (xVal (eOp2 opGt (eVar 3) (eC (.int 0)))) (xVal (eOp2 opEq (eIdx (eVar 1) (eOp2 opSub (eVar 3) (eC (.int 1)))) (eIdx (eVar 1) (eVar 3)))))
 (dApp 4 (eTup (eCons (eC (.str [116,119,105,99,101])) (eNil))))
 (dNil)))
 (dNil))
 (dRet (eTuple (eAdd (eAdd (eVar 4) (eCall d_swaps_at (eCons (eVar 0) (eCons (eVar 1) (eCons (eVar 2) (eCons (eVar 3) (eNil))))))) (eCall d_skips_at (eCons (eVar 0) (eCons (eVar 2) (eNil)))))))))))
noncomputable def d_step_end:FN:=runFn 3 3
 (dSeq (dIf (xOr (xVal (eOp2 opEq (eIdx (eVar 2) (eC (.int 0))) (eC (.str [107,101,101,112])))) (xVal (eOp2 opEq (eIdx (eVar 2) (eC (.int 0))) (eC (.str [116,117,114,110])))))
 (dRet (eTup (eCons (eAdd (eVar 0) (eC (.int 1))) (eCons (eAdd (eVar 1) (eC (.int 1))) (eNil)))))
 (dNil))
 (dSeq (dIf (xVal (eOp2 opEq (eIdx (eVar 2) (eC (.int 0))) (eC (.str [108,111,115,101]))))
 (dRet (eTup (eCons (eAdd (eVar 0) (eC (.int 1))) (eCons (eVar 1) (eNil)))))
 (dNil))
 (dSeq (dIf (xOr (xVal (eOp2 opEq (eIdx (eVar 2) (eC (.int 0))) (eC (.str [97,100,100])))) (xVal (eOp2 opEq (eIdx (eVar 2) (eC (.int 0))) (eC (.str [116,119,105,99,101])))))
 (dRet (eTup (eCons (eVar 0) (eCons (eAdd (eVar 1) (eC (.int 1))) (eNil)))))
 (dNil))
 (dSeq (dIf (xVal (eOp2 opEq (eIdx (eVar 2) (eC (.int 0))) (eC (.str [115,119,97,112]))))
 (dRet (eTup (eCons (eAdd (eVar 0) (eC (.int 2))) (eCons (eAdd (eVar 1) (eC (.int 2))) (eNil)))))
 (dNil))
 (dRet (eTup (eCons (eAdd (eVar 0) (eIdx (eVar 2) (eC (.int 1)))) (eCons (eVar 1) (eNil)))))))))
noncomputable def d_priced_ends:FN:=runFn 5 7
 (dSeq (dSetO 5 (eLst (eNil)))
 (dSeq (dFor (jSeq (eCall d_knot_steps (eCons (eVar 0) (eCons (eVar 1) (eCons (eVar 2) (eCons (eVar 3) (eNil))))))) (.v 6) [6]
 (dApp 5 (eTup (eCons (eVar 6) (eCons (eCall d_step_end (eCons (eVar 2) (eCons (eVar 3) (eCons (eVar 6) (eNil))))) (eCons (eCall d_step_price (eCons (eVar 0) (eCons (eVar 2) (eCons (eVar 6) (eCons (eVar 4) (eNil)))))) (eNil)))))))
 (dRetV 5)))
noncomputable def d_empty_table:FN:=runFn 2 4
 (dRet (eLCO [2] (jRange (eAdd (eLen (eVar 0)) (eC (.int 1)))) (.v 2) (eLC [3] (jRange (eAdd (eLen (eVar 1)) (eC (.int 1)))) (.v 3) (xYes) (eC .non))))
noncomputable def d_kept_table:FN:=runFn 1 2
 (dRet (eTuple (eLC [1] (jSeq (eVar 0)) (.v 1) (xYes) (eTuple (eVar 1)))))
noncomputable def d_price_table:FN:=runFn 3 10
 (dSeq (dSetO 3 (eCall d_empty_table (eCons (eVar 0) (eCons (eVar 1) (eNil)))))
 (dSeq (dSetIx2 3 (eC (.int 0)) (eC (.int 0)) (eC (.int 0)))
 (dSeq (dFor (jRange (eAdd (eLen (eVar 0)) (eC (.int 1)))) (.v 4) [4,5,6,7,8,9]
 (dFor (jRange (eAdd (eLen (eVar 1)) (eC (.int 1)))) (.v 5) [5,6,7,8,9]
 (dFor (jSeq (eCall d_priced_ends (eCons (eVar 0) (eCons (eVar 1) (eCons (eVar 4) (eCons (eVar 5) (eCons (eVar 2) (eNil)))))))) (.t [6,7,8]) [6,7,8,9]
 (dSeq (dSet 9 (eIdx (eIdx (eVar 3) (eIdx (eVar 7) (eC (.int 0)))) (eIdx (eVar 7) (eC (.int 1)))))
 (dIf (xOr (xVal (eOp1 opIsN (eVar 9))) (xVal (eOp2 opLt (eAdd (eIdx (eIdx (eVar 3) (eVar 4)) (eVar 5)) (eVar 8)) (eVar 9))))
 (dSetIx2 3 (eIdx (eVar 7) (eC (.int 0))) (eIdx (eVar 7) (eC (.int 1))) (eAdd (eIdx (eIdx (eVar 3) (eVar 4)) (eVar 5)) (eVar 8)))
 (dNil))))))
 (dRet (eCall d_kept_table (eCons (eVar 3) (eNil)))))))
noncomputable def d_rest_table:FN:=runFn 3 10
 (dSeq (dSetO 3 (eCall d_empty_table (eCons (eVar 0) (eCons (eVar 1) (eNil)))))
 (dSeq (dFor (jRevR (eAdd (eLen (eVar 0)) (eC (.int 1)))) (.v 4) [4,5,6]
 (dFor (jRevR (eAdd (eLen (eVar 1)) (eC (.int 1)))) (.v 5) [5,6]
 (dSeq (dSet 6 (eCall d_priced_ends (eCons (eVar 0) (eCons (eVar 1) (eCons (eVar 4) (eCons (eVar 5) (eCons (eVar 2) (eNil))))))))
 (dSetIx2 3 (eVar 4) (eVar 5) (eMinDf (eLC [7,8,9] (jSeq (eVar 6)) (.t [7,8,9]) (xYes) (eAdd (eVar 9) (eIdx (eIdx (eVar 3) (eIdx (eVar 8) (eC (.int 0)))) (eIdx (eVar 8) (eC (.int 1)))))) (eC (.int 0)))))))
 (dRet (eCall d_kept_table (eCons (eVar 3) (eNil))))))
noncomputable def d_cheapest_ends:FN:=runFn 6 10
 (dSeq (dSet 6 (eCall d_priced_ends (eCons (eVar 0) (eCons (eVar 1) (eCons (eVar 2) (eCons (eVar 3) (eCons (eVar 4) (eNil))))))))
 (dRet (eLC [7,8,9] (jSeq (eVar 6)) (.t [7,8,9]) (xVal (eOp2 opEq (eAdd (eVar 9) (eIdx (eIdx (eVar 5) (eIdx (eVar 8) (eC (.int 0)))) (eIdx (eVar 8) (eC (.int 1))))) (eIdx (eIdx (eVar 5) (eVar 2)) (eVar 3)))) (eTup (eCons (eVar 7) (eCons (eVar 8) (eNil)))))))
noncomputable def d_least_slips:FN:=runFn 3 7
 (dSeq (dSet 3 (eCall d_rest_table (eCons (eVar 0) (eCons (eVar 1) (eCons (eVar 2) (eNil))))))
 (dSeq (dSetO 4 (eLst (eNil)))
 (dSeq (dSet 5 (eTup (eCons (eC (.int 0)) (eCons (eC (.int 0)) (eNil)))))
 (dSeq (dWhile (xVal (eOp2 opNe (eVar 5) (eTup (eCons (eLen (eVar 0)) (eCons (eLen (eVar 1)) (eNil)))))) [6]
 (dSeq (dSet 6 (eIdx (eCall d_cheapest_ends (eCons (eVar 0) (eCons (eVar 1) (eCons (eIdx (eVar 5) (eC (.int 0))) (eCons (eIdx (eVar 5) (eC (.int 1))) (eCons (eVar 2) (eCons (eVar 3) (eNil)))))))) (eC (.int 0))))
 (dSeq (dApp 4 (eIdx (eVar 6) (eC (.int 0))))
 (dSet 5 (eIdx (eVar 6) (eC (.int 1)))))))
 (dRet (eTup (eCons (eIdx (eIdx (eVar 3) (eC (.int 0))) (eC (.int 0))) (eCons (eTuple (eVar 4)) (eCons (eCall d_price_table (eCons (eVar 0) (eCons (eVar 1) (eCons (eVar 2) (eNil))))) (eNil))))))))))
noncomputable def d_many_from:FN:=runFn 4 10
 (dSeq (dSetO 4 (eCall d_empty_table (eCons (eVar 0) (eCons (eVar 1) (eNil)))))
 (dSeq (dFor (jRevR (eAdd (eLen (eVar 0)) (eC (.int 1)))) (.v 5) [5,6,7]
 (dFor (jRevR (eAdd (eLen (eVar 1)) (eC (.int 1)))) (.v 6) [6,7]
 (dSeq (dSet 7 (eCall d_cheapest_ends (eCons (eVar 0) (eCons (eVar 1) (eCons (eVar 5) (eCons (eVar 6) (eCons (eVar 2) (eCons (eVar 3) (eNil)))))))))
 (dSeq (dSetIx2 4 (eVar 5) (eVar 6) (eSum (eLC [8,9] (jSeq (eVar 7)) (.t [8,9]) (xYes) (eIdx (eIdx (eVar 4) (eIdx (eVar 9) (eC (.int 0)))) (eIdx (eVar 9) (eC (.int 1)))))))
 (dIf (xAnd (xVal (eOp2 opEq (eVar 5) (eLen (eVar 0)))) (xVal (eOp2 opEq (eVar 6) (eLen (eVar 1)))))
 (dSetIx2 4 (eVar 5) (eVar 6) (eC (.int 1)))
 (dNil))))))
 (dRetV 4)))
noncomputable def d_cheapest_many:FN:=runFn 3 3
 (dRet (eIdx (eIdx (eCall d_many_from (eCons (eVar 0) (eCons (eVar 1) (eCons (eVar 2) (eCons (eCall d_rest_table (eCons (eVar 0) (eCons (eVar 1) (eCons (eVar 2) (eNil))))) (eNil)))))) (eC (.int 0))) (eC (.int 0))))
noncomputable def d_many_to:FN:=runFn 4 9
 (dSeq (dSetO 4 (eCall d_empty_table (eCons (eVar 0) (eCons (eVar 1) (eNil)))))
 (dSeq (dSetIx2 4 (eC (.int 0)) (eC (.int 0)) (eC (.int 1)))
 (dSeq (dFor (jRange (eAdd (eLen (eVar 0)) (eC (.int 1)))) (.v 5) [5,6,7,8]
 (dFor (jRange (eAdd (eLen (eVar 1)) (eC (.int 1)))) (.v 6) [6,7,8]
 (dIf (xVal (eOp1 opNotN (eIdx (eIdx (eVar 4) (eVar 5)) (eVar 6))))
 (dFor (jSeq (eCall d_cheapest_ends (eCons (eVar 0) (eCons (eVar 1) (eCons (eVar 5) (eCons (eVar 6) (eCons (eVar 2) (eCons (eVar 3) (eNil))))))))) (.t [7,8]) [7,8]
 (dSetIx2 4 (eIdx (eVar 8) (eC (.int 0))) (eIdx (eVar 8) (eC (.int 1))) (eAdd (eOrN (eIdx (eIdx (eVar 4) (eIdx (eVar 8) (eC (.int 0)))) (eIdx (eVar 8) (eC (.int 1)))) (eC (.int 0))) (eIdx (eIdx (eVar 4) (eVar 5)) (eVar 6)))))
 (dNil))))
 (dRetV 4))))
noncomputable def d_sure_pairs:FN:=runFn 3 10
 (dSeq (dSet 3 (eCall d_rest_table (eCons (eVar 0) (eCons (eVar 1) (eCons (eVar 2) (eNil))))))
 (dSeq (dSet 4 (eCall d_many_to (eCons (eVar 0) (eCons (eVar 1) (eCons (eVar 2) (eCons (eVar 3) (eNil)))))))
 (dSeq (dSet 5 (eCall d_many_from (eCons (eVar 0) (eCons (eVar 1) (eCons (eVar 2) (eCons (eVar 3) (eNil)))))))
 (dSeq (dSetO 6 (eLst (eNil)))
 (dSeq (dFor (jRange (eLen (eVar 0))) (.v 7) [7,8,9]
 (dFor (jRange (eLen (eVar 1))) (.v 8) [8,9]
 (dSeq (dSet 9 (eAnd (eOp2 opEq (eIdx (eVar 0) (eVar 7)) (eIdx (eVar 1) (eVar 8))) (eOp2 opEq (eIdx (eIdx (eVar 3) (eAdd (eVar 7) (eC (.int 1)))) (eAdd (eVar 8) (eC (.int 1)))) (eIdx (eIdx (eVar 3) (eVar 7)) (eVar 8)))))
 (dIf (xAnd (xVal (eVar 9)) (xAnd (xVal (eOp1 opNotN (eIdx (eIdx (eVar 4) (eVar 7)) (eVar 8)))) (xVal (eOp2 opEq (eMul2 (eIdx (eIdx (eVar 4) (eVar 7)) (eVar 8)) (eIdx (eIdx (eVar 5) (eAdd (eVar 7) (eC (.int 1)))) (eAdd (eVar 8) (eC (.int 1))))) (eIdx (eIdx (eVar 5) (eC (.int 0))) (eC (.int 0)))))))
 (dApp 6 (eTup (eCons (eVar 7) (eCons (eVar 8) (eNil)))))
 (dNil)))))
 (dRet (eTuple (eVar 6))))))))
noncomputable def d_law_cell_at:FN:=runFn 2 2
 (dSeq (dIf (xVal (eOp2 opLt (eVar 1) (eLen (eVar 0))))
 (dRet (eIdx (eVar 0) (eVar 1)))
 (dNil))
 (dRet (eC (.int 0))))
noncomputable def d_law_stir:FN:=runFn 1 1
 (dRet (eOp2 opMod (eMul2 (eVar 0) (eC (.int 105172331949523456789012345678901234567))) (eC (.int 170141183460469231731687303715884105727))))
noncomputable def d_law_next:FN:=runFn 1 1
 (dRet (eOp2 opMod (eMul2 (eVar 0) (eC (.int 83492791123456789012345678901234567891))) (eC (.int 170141183460469231731687303715884105727))))
noncomputable def d_law_same:Nat→FN
 | 0=>fun _=>.bad
 | n+1=>runFn 2 3 (
  dSeq (dIf (xVal (eIsI (eVar 1) "tuple"))
 (dSeq (dIf (xOr (xNot (xVal (eIsI (eVar 0) "tuple"))) (xVal (eOp2 opNe (eLen (eVar 0)) (eLen (eVar 1)))))
 (dRet (eC (.bl false)))
 (dNil))
 (dSeq (dFor (jRange (eLen (eVar 1))) (.v 2) [2]
 (dIf (xNot (xVal (eCall (d_law_same n) (eCons (eIdx (eVar 0) (eVar 2)) (eCons (eIdx (eVar 1) (eVar 2)) (eNil))))))
 (dRet (eC (.bl false)))
 (dNil)))
 (dRet (eC (.bl true)))))
 (dNil))
 (dSeq (dIf (xVal (eOp1 opIsN (eVar 1)))
 (dRet (eOp1 opIsN (eVar 0)))
 (dNil))
 (dSeq (dIf (xVal (eIsI (eVar 1) "str"))
 (dRet (eAnd (eIsI (eVar 0) "str") (eOp2 opEq (eVar 0) (eVar 1))))
 (dNil))
 (dSeq (dIf (xOr (xNot (xVal (eIsI (eVar 0) "int"))) (xVal (eOp2 opNe (eIsI (eVar 0) "bool") (eIsI (eVar 1) "bool"))))
 (dRet (eC (.bl false)))
 (dNil))
 (dRet (eOp2 opEq (eVar 0) (eVar 1)))))))
noncomputable def d_law_word_v1:FN:=runFn 2 8
 (dSeq (dSet 2 (eC (.str [97,98,99,100,101,102,103,104,105,106,107,108,109,110,111,112,113,114,115,116,117,118,119,120,121,122])))
 (dSeq (dSet 3 (eAdd (eC (.int 1)) (eOp2 opMod (eVar 0) (eC (.int 12)))))
 (dSeq (dSet 4 (eOp2 opFdiv (eVar 0) (eC (.int 12))))
 (dSeq (dSet 5 (eC (.str [])))
 (dSeq (dFor (jRange (eVar 3)) (.v 6) [6,7]
 (dSeq (dSet 7 (eC (.int 0)))
 (dSeq (dIf (xVal (eOp2 opEq (eVar 6) (eOp2 opMod (eOp2 opFdiv (eVar 1) (eC (.int 3))) (eVar 3))))
 (dSet 7 (eOp2 opMod (eVar 1) (eC (.int 3))))
 (dNil))
 (dSeq (dSet 5 (eAdd (eVar 5) (eIdx (eVar 2) (eOp2 opMod (eAdd (eVar 4) (eVar 7)) (eC (.int 26))))))
 (dSet 4 (eOp2 opFdiv (eVar 4) (eC (.int 26))))))))
 (dSeq (dIf (xAnd (xVal (eOp2 opEq (eVar 1) (eC (.int 9)))) (xVal (eOp2 opLt (eVar 3) (eC (.int 12)))))
 (dSet 5 (eAdd (eVar 5) (eC (.str [113]))))
 (dNil))
 (dRetV 5)))))))
noncomputable def d_law_prices:FN:=runFn 1 5
 (dSeq (dSet 1 (eCall d_law_stir (eCons (eVar 0) (eNil))))
 (dSeq (dSetO 2 (eLst (eNil)))
 (dSeq (dFor (jRange (eC (.int 7))) (.v 3) [3,4]
 (dSeq (dSet 4 (eOp2 opMod (eOp2 opFdiv (eVar 1) (eC (.int 4))) (eC (.int 4))))
 (dSeq (dIf (xVal (eOp2 opEq (eOp2 opMod (eVar 1) (eC (.int 4))) (eC (.int 1))))
 (dSet 4 (eOp2 opMod (eOp2 opFdiv (eVar 1) (eC (.int 4))) (eC (.int 12))))
 (dNil))
 (dSeq (dIf (xAnd (xVal (eOp2 opEq (eOp2 opMod (eVar 1) (eC (.int 4))) (eC (.int 2)))) (xVal (eOp2 opEq (eOp2 opMod (eVar 0) (eC (.int 3))) (eC (.int 1)))))
 (dSet 4 (eOp2 opMod (eOp2 opFdiv (eVar 0) (eAdd (eVar 3) (eC (.int 1)))) (eAdd (eOp2 opPow (eC (.int 10)) (eC (.int 30))) (eC (.int 1)))))
 (dNil))
 (dSeq (dApp 2 (eVar 4))
 (dSet 1 (eCall d_law_next (eCons (eVar 1) (eNil)))))))))
 (dRet (eTuple (eVar 2))))))
noncomputable def d_law_eye:FN:=runFn 4 6
 (dSeq (dSet 4 (eOp2 opMax2 (eC (.int 0)) (eOp2 opMin2 (eOp2 opMod (eOp2 opFdiv (eVar 1) (eC (.int 9000))) (eC (.int 12))) (eOp2 opSub (eVar 3) (eLen (eVar 0))))))
 (dRet (eAdd (eLC [5] (jRange (eVar 4)) (.v 5) (xYes) (eCall d_law_word_v1 (eCons (eVar 2) (eCons (eOp2 opMod (eAdd (eOp2 opFdiv (eVar 1) (eC (.int 900))) (eMul2 (eMul2 (eC (.int 7)) (eVar 5)) (eVar 5))) (eC (.int 10))) (eNil))))) (eLst (eCons (eIdx (eVar 0) (eOp1 opNeg (eC (.int 1)))) (eNil))))))
noncomputable def d_law_slip:FM:=runM [.ow 1,.ow 1,.ow 1,.fz,.fz] 8
 (dSeq (dSet 5 (eIdx (eVar 4) (eC (.int 0))))
 (dSeq (dSet 6 (eIdx (eVar 4) (eC (.int 1))))
 (dSeq (dSet 7 (eOp2 opMod (eVar 3) (eC (.int 9))))
 (dIf (xAnd (xVal (eOp2 opEq (eVar 7) (eC (.int 3)))) (xVal (eOp2 opNe (eVar 5) (eVar 6))))
 (dSeq (dApp 0 (eVar 5))
 (dSeq (dApp 1 (eVar 6))
 (dApp 2 (eTup (eCons (eC (.str [116,117,114,110])) (eCons (eVar 6) (eNil)))))))
 (dIf (xVal (eOp2 opEq (eVar 7) (eC (.int 4))))
 (dSeq (dApp 0 (eVar 5))
 (dApp 2 (eTup (eCons (eC (.str [108,111,115,101])) (eNil)))))
 (dIf (xVal (eOp2 opEq (eVar 7) (eC (.int 5))))
 (dSeq (dApp 1 (eVar 5))
 (dApp 2 (eTup (eCons (eC (.str [97,100,100])) (eCons (eVar 5) (eNil))))))
 (dIf (xAnd (xVal (eOp2 opEq (eVar 7) (eC (.int 6)))) (xVal (eOp2 opNe (eVar 1) (eLst (eNil)))))
 (dSeq (dApp 1 (eIdx (eVar 1) (eOp1 opNeg (eC (.int 1)))))
 (dApp 2 (eTup (eCons (eC (.str [116,119,105,99,101])) (eNil)))))
 (dIf (xAnd (xVal (eOp2 opEq (eVar 7) (eC (.int 7)))) (xVal (eOp2 opNe (eVar 5) (eVar 6))))
 (dSeq (dExt 0 (eLst (eCons (eVar 5) (eCons (eVar 6) (eNil)))))
 (dSeq (dExt 1 (eLst (eCons (eVar 6) (eCons (eVar 5) (eNil)))))
 (dApp 2 (eTup (eCons (eC (.str [115,119,97,112])) (eNil))))))
 (dSeq (dApp 0 (eVar 5))
 (dSeq (dApp 1 (eVar 5))
 (dApp 2 (eTup (eCons (eC (.str [107,101,101,112])) (eNil))))))))))))))
noncomputable def d_law_pair_v2:FN:=runFn 3 10
 (dSeq (dSetO 3 (eLst (eNil)))
 (dSeq (dSetO 4 (eLst (eNil)))
 (dSeq (dSetO 5 (eLst (eNil)))
 (dSeq (dFor (jSeq (eVar 0)) (.v 6) [6,7,8,9]
 (dSeq (dSet 7 (eCall d_law_stir (eCons (eVar 6) (eNil))))
 (dIf (xAnd (xVal (eOp2 opEq (eOp2 opMod (eVar 7) (eC (.int 9))) (eC (.int 8)))) (xVal (eOp2 opNe (eVar 3) (eLst (eNil)))))
 (dSeq (dSet 8 (eCall d_law_eye (eCons (eVar 3) (eCons (eVar 7) (eCons (eVar 1) (eCons (eVar 2) (eNil)))))))
 (dSeq (dExt 3 (eVar 8))
 (dApp 5 (eTup (eCons (eC (.str [115,107,105,112])) (eCons (eLen (eVar 8)) (eNil)))))))
 (dSeq (dSet 9 (eLst (eCons (eCall d_law_word_v1 (eCons (eVar 1) (eCons (eOp2 opMod (eOp2 opFdiv (eVar 7) (eC (.int 9))) (eC (.int 10))) (eNil)))) (eCons (eCall d_law_word_v1 (eCons (eVar 1) (eCons (eOp2 opMod (eOp2 opFdiv (eVar 7) (eC (.int 90))) (eC (.int 10))) (eNil)))) (eNil)))))
 (dCallM d_law_slip [(3,.ow 1),(4,.ow 1),(5,.ow 1),(7,.fz),(9,.fz)])))))
 (dRet (eTup (eCons (eTuple (eVar 3)) (eCons (eTuple (eVar 4)) (eCons (eTuple (eVar 5)) (eNil))))))))))
noncomputable def d_law_pairs:FN:=runFn 2 8
 (dSeq (dSet 2 (eCall d_law_stir (eCons (eCall d_law_cell_at (eCons (eVar 0) (eCons (eC (.int 0)) (eNil)))) (eNil))))
 (dSeq (dSet 3 (eSlice (eVar 0) (oSome (eC (.int 2))) (oNone)))
 (dSeq (dSetO 4 (eLst (eCons (eTup (eCons (eTup (eNil)) (eCons (eTup (eNil)) (eNil)))) (eNil))))
 (dSeq (dFor (jRange3 (eC (.int 0)) (eLen (eVar 3)) (eVar 1)) (.v 5) [5,6]
 (dSeq (dSet 6 (eCall d_law_pair_v2 (eCons (eSlice (eVar 3) (oSome (eVar 5)) (oSome (eAdd (eVar 5) (eVar 1)))) (eCons (eVar 2) (eCons (eC (.int 7)) (eNil))))))
 (dSeq (dApp 4 (eTup (eCons (eSlice (eIdx (eVar 6) (eC (.int 0))) (oNone) (oSome (eC (.int 7)))) (eCons (eSlice (eIdx (eVar 6) (eC (.int 1))) (oNone) (oSome (eC (.int 7)))) (eNil)))))
 (dIf (xVal (eOp2 opEq (eOp2 opMod (eIdx (eVar 3) (eVar 5)) (eC (.int 3))) (eC (.int 2))))
 (dSetIx 4 (eOp1 opNeg (eC (.int 1))) (eTup (eCons (eSlice (eIdx (eVar 6) (eC (.int 0))) (oNone) (oSome (eC (.int 7)))) (eCons (eSlice (eRevS (eIdx (eVar 6) (eC (.int 1)))) (oNone) (oSome (eC (.int 7)))) (eNil)))))
 (dNil)))))
 (dSeq (dIf (xVal (eOp2 opEq (eOp2 opMod (eCall d_law_cell_at (eCons (eVar 0) (eCons (eC (.int 0)) (eNil)))) (eC (.int 4))) (eC (.int 1))))
 (dSeq (dSet 6 (eCall d_law_pair_v2 (eCons (eSlice (eVar 3) (oNone) (oSome (eC (.int 24)))) (eCons (eVar 2) (eCons (eC (.int 36)) (eNil))))))
 (dSeq (dSet 7 (eIdx (eLst (eCons (eTup (eCons (eC (.int 40)) (eCons (eC (.int 3)) (eNil)))) (eCons (eTup (eCons (eC (.int 3)) (eCons (eC (.int 40)) (eNil)))) (eNil)))) (eOp2 opMod (eOp2 opFdiv (eCall d_law_cell_at (eCons (eVar 0) (eCons (eC (.int 0)) (eNil)))) (eC (.int 4))) (eC (.int 2)))))
 (dApp 4 (eTup (eCons (eSlice (eIdx (eVar 6) (eC (.int 0))) (oNone) (oSome (eIdx (eVar 7) (eC (.int 0))))) (eCons (eSlice (eIdx (eVar 6) (eC (.int 1))) (oNone) (oSome (eIdx (eVar 7) (eC (.int 1))))) (eNil)))))))
 (dNil))
 (dRetV 4))))))
noncomputable def d_law_steps_v1:FN:=runFn 4 9
 (dSeq (dSetO 4 (eLst (eNil)))
 (dSeq (dSet 5 (eSlice (eVar 0) (oSome (eVar 2)) (oSome (eAdd (eVar 2) (eC (.int 1))))))
 (dSeq (dSet 6 (eSlice (eVar 1) (oSome (eVar 3)) (oSome (eAdd (eVar 3) (eC (.int 1))))))
 (dSeq (dIf (xAnd (xVal (eOp2 opNe (eVar 5) (eTup (eNil)))) (xVal (eOp2 opEq (eVar 6) (eVar 5))))
 (dApp 4 (eTup (eCons (eC (.str [107,101,101,112])) (eNil))))
 (dIf (xAnd (xVal (eOp2 opNe (eVar 5) (eTup (eNil)))) (xVal (eOp2 opNe (eVar 6) (eTup (eNil)))))
 (dApp 4 (eTup (eCons (eC (.str [116,117,114,110])) (eCons (eIdx (eVar 6) (eC (.int 0))) (eNil)))))
 (dNil)))
 (dSeq (dIf (xVal (eOp2 opNe (eVar 5) (eTup (eNil))))
 (dApp 4 (eTup (eCons (eC (.str [108,111,115,101])) (eNil))))
 (dNil))
 (dSeq (dIf (xVal (eOp2 opNe (eVar 6) (eTup (eNil))))
 (dApp 4 (eTup (eCons (eC (.str [97,100,100])) (eCons (eIdx (eVar 6) (eC (.int 0))) (eNil)))))
 (dNil))
 (dSeq (dIf (xAnd (xVal (eOp2 opNe (eVar 6) (eTup (eNil)))) (xVal (eOp2 opEq (eSlice (eSlice (eVar 1) (oNone) (oSome (eVar 3))) (oSome (eOp1 opNeg (eC (.int 1)))) (oNone)) (eVar 6))))
 (dApp 4 (eTup (eCons (eC (.str [116,119,105,99,101])) (eNil))))
 (dNil))
 (dSeq (dSet 7 (eSlice (eVar 0) (oSome (eVar 2)) (oSome (eAdd (eVar 2) (eC (.int 2))))))
 (dSeq (dIf (xAnd (xVal (eOp2 opEq (eLen (eVar 7)) (eC (.int 2)))) (xAnd (xVal (eOp2 opNe (eIdx (eVar 7) (eC (.int 0))) (eIdx (eVar 7) (eC (.int 1))))) (xVal (eOp2 opEq (eSlice (eVar 1) (oSome (eVar 3)) (oSome (eAdd (eVar 3) (eC (.int 2))))) (eRevS (eVar 7))))))
 (dApp 4 (eTup (eCons (eC (.str [115,119,97,112])) (eNil))))
 (dNil))
 (dSeq (dFor (jRange2 (eC (.int 1)) (eAdd (eOp2 opSub (eLen (eVar 0)) (eVar 2)) (eC (.int 1)))) (.v 8) [8]
 (dIf (xAnd (xVal (eOp2 opGt (eVar 2) (eC (.int 0)))) (xVal (eOp2 opEq (eIdx (eVar 0) (eOp2 opSub (eVar 2) (eC (.int 1)))) (eIdx (eVar 0) (eOp2 opSub (eAdd (eVar 2) (eVar 8)) (eC (.int 1)))))))
 (dApp 4 (eTup (eCons (eC (.str [115,107,105,112])) (eCons (eVar 8) (eNil)))))
 (dNil)))
 (dRetV 4)))))))))))
noncomputable def d_law_alike_v4:FN:=runFn 2 3
 (dRet (eAnd (eOp2 opEq (eLen (eVar 0)) (eLen (eVar 1))) (eOp2 opEq (eLen (eLC [2] (jRange (eLen (eVar 0))) (.v 2) (xVal (eOp2 opNe (eIdx (eVar 0) (eVar 2)) (eIdx (eVar 1) (eVar 2)))) (eVar 2))) (eC (.int 1)))))
noncomputable def d_law_price_v1:FN:=runFn 4 4
 (dSeq (dIf (xVal (eOp2 opEq (eIdx (eVar 2) (eC (.int 0))) (eC (.str [107,101,101,112]))))
 (dRet (eC (.int 0)))
 (dNil))
 (dSeq (dIf (xVal (eOp2 opEq (eIdx (eVar 2) (eC (.int 0))) (eC (.str [116,117,114,110]))))
 (dRet (eIdx (eVar 3) (eOp2 opSub (eC (.int 1)) (eInt (eCall d_law_alike_v4 (eCons (eIdx (eVar 0) (eVar 1)) (eCons (eIdx (eVar 2) (eC (.int 1))) (eNil))))))))
 (dNil))
 (dRet (eIdx (eVar 3) (eAdd (eC (.int 2)) (eIndexQ (eLst (eCons (eC (.str [108,111,115,101])) (eCons (eC (.str [97,100,100])) (eCons (eC (.str [116,119,105,99,101])) (eCons (eC (.str [115,119,97,112])) (eCons (eC (.str [115,107,105,112])) (eNil))))))) (eIdx (eVar 2) (eC (.int 0)))))))))
noncomputable def d_law_end:FN:=runFn 3 4
 (dSeq (dSet 3 (eDicN [[107,101,101,112],[116,117,114,110],[108,111,115,101],[97,100,100],[116,119,105,99,101],[115,119,97,112]] (eCons (eTup (eCons (eC (.int 1)) (eCons (eC (.int 1)) (eNil)))) (eCons (eTup (eCons (eC (.int 1)) (eCons (eC (.int 1)) (eNil)))) (eCons (eTup (eCons (eC (.int 1)) (eCons (eC (.int 0)) (eNil)))) (eCons (eTup (eCons (eC (.int 0)) (eCons (eC (.int 1)) (eNil)))) (eCons (eTup (eCons (eC (.int 0)) (eCons (eC (.int 1)) (eNil)))) (eCons (eTup (eCons (eC (.int 2)) (eCons (eC (.int 2)) (eNil)))) (eNil)))))))))
 (dSeq (dIf (xVal (eOp2 opEq (eIdx (eVar 2) (eC (.int 0))) (eC (.str [115,107,105,112]))))
 (dRet (eTup (eCons (eAdd (eVar 0) (eIdx (eVar 2) (eC (.int 1)))) (eCons (eVar 1) (eNil)))))
 (dNil))
 (dRet (eTup (eCons (eAdd (eVar 0) (eIdx (eDIdx (eVar 3) (eIdx (eVar 2) (eC (.int 0)))) (eC (.int 0)))) (eCons (eAdd (eVar 1) (eIdx (eDIdx (eVar 3) (eIdx (eVar 2) (eC (.int 0)))) (eC (.int 1)))) (eNil)))))))
noncomputable def d_law_arms:FN:=runFn 5 7
 (dSeq (dSetO 5 (eLst (eNil)))
 (dSeq (dFor (jSeq (eCall d_law_steps_v1 (eCons (eVar 0) (eCons (eVar 1) (eCons (eVar 3) (eCons (eVar 4) (eNil))))))) (.v 6) [6]
 (dApp 5 (eTup (eCons (eVar 6) (eCons (eCall d_law_end (eCons (eVar 3) (eCons (eVar 4) (eCons (eVar 6) (eNil))))) (eCons (eCall d_law_price_v1 (eCons (eVar 0) (eCons (eVar 3) (eCons (eVar 6) (eCons (eVar 2) (eNil)))))) (eNil)))))))
 (dRetV 5)))
noncomputable def d_law_knots:FN:=runFn 2 5
 (dSeq (dSetO 2 (eLst (eNil)))
 (dSeq (dFor (jRange (eAdd (eLen (eVar 0)) (eC (.int 1)))) (.v 3) [3,4]
 (dFor (jRange (eAdd (eLen (eVar 1)) (eC (.int 1)))) (.v 4) [4]
 (dApp 2 (eTup (eCons (eVar 3) (eCons (eVar 4) (eNil)))))))
 (dRetV 2)))
noncomputable def d_law_all_rows:FN:=runFn 3 10
 (dSeq (dSetO 3 (eDic1L true (eTup (eCons (eLen (eVar 0)) (eCons (eLen (eVar 1)) (eNil)))) (eLst (eCons (eTup (eCons (eC (.int 0)) (eCons (eTup (eNil)) (eCons (eTup (eNil)) (eNil))))) (eNil)))))
 (dSeq (dFor (jRev (eCall d_law_knots (eCons (eVar 0) (eCons (eVar 1) (eNil))))) (.v 4) [4,5,6,7,8,9]
 (dSeq (dIf (xVal (eOp2 opDNotIn (eVar 4) (eVar 3)))
 (dDNew 3 (eVar 4))
 (dNil))
 (dFor (jSeq (eCall d_law_arms (eCons (eVar 0) (eCons (eVar 1) (eCons (eVar 2) (eCons (eIdx (eVar 4) (eC (.int 0))) (eCons (eIdx (eVar 4) (eC (.int 1))) (eNil)))))))) (.t [5,6,7]) [5,6,7,8,9]
 (dSeq (dSet 8 (eTup (eNil)))
 (dSeq (dIf (xVal (eOp2 opEq (eIdx (eVar 5) (eC (.int 0))) (eC (.str [107,101,101,112]))))
 (dSet 8 (eTup (eCons (eVar 4) (eNil))))
 (dNil))
 (dForApp 3 [9] (eVar 6) (.v 9) (eVar 4) (eTup (eCons (eAdd (eVar 7) (eIdx (eVar 9) (eC (.int 0)))) (eCons (eAdd (eTup (eCons (eVar 5) (eNil))) (eIdx (eVar 9) (eC (.int 1)))) (eCons (eAdd (eVar 8) (eIdx (eVar 9) (eC (.int 2)))) (eNil)))))))))))
 (dFrz 3 (dRet (eDIdx (eVar 3) (eTup (eCons (eC (.int 0)) (eCons (eC (.int 0)) (eNil)))))))))
noncomputable def d_law_in_all:FN:=runFn 1 3
 (dRet (eTuple (eLC [1] (jSeq (eIdx (eIdx (eVar 0) (eC (.int 0))) (eC (.int 2)))) (.v 1) (xVal (eOp2 opEq (eLen (eLC [2] (jSeq (eVar 0)) (.v 2) (xVal (eOp2 opInDT (eVar 1) (eIdx (eVar 2) (eC (.int 2))))) (eVar 2))) (eLen (eVar 0)))) (eVar 1))))
noncomputable def d_law_v64:FN:=runFn 1 9
 (dSeq (dSet 1 (eCall d_law_prices (eCons (eCall d_law_cell_at (eCons (eVar 0) (eCons (eC (.int 1)) (eNil)))) (eNil))))
 (dSeq (dFor (jSeq (eCall d_law_pairs (eCons (eVar 0) (eCons (eC (.int 3)) (eNil))))) (.t [2,3]) [2,3,4,5,6,7]
 (dSeq (dSet 2 (eSlice (eVar 2) (oNone) (oSome (eC (.int 3)))))
 (dSeq (dSet 3 (eSlice (eVar 3) (oNone) (oSome (eC (.int 3)))))
 (dSeq (dSet 4 (eCall d_law_all_rows (eCons (eVar 2) (eCons (eVar 3) (eCons (eVar 1) (eNil))))))
 (dSeq (dSet 5 (eMinD (eLC [8] (jSeq (eVar 4)) (.v 8) (xYes) (eIdx (eVar 8) (eC (.int 0))))))
 (dSeq (dSet 6 (eLC [8] (jSeq (eVar 4)) (.v 8) (xVal (eOp2 opEq (eIdx (eVar 8) (eC (.int 0))) (eVar 5))) (eVar 8)))
 (dSeq (dSet 7 (eCall d_least_slips (eCons (eVar 2) (eCons (eVar 3) (eCons (eVar 1) (eNil))))))
 (dSeq (dIf (xNot (xVal (eCall (d_law_same 8) (eCons (eSlice (eVar 7) (oNone) (oSome (eC (.int 2)))) (eCons (eTup (eCons (eVar 5) (eCons (eIdx (eIdx (eVar 6) (eC (.int 0))) (eC (.int 1))) (eNil)))) (eNil))))))
 (dRet (eC (.bl false)))
 (dNil))
 (dSeq (dIf (xNot (xVal (eCall (d_law_same 8) (eCons (eCall d_cheapest_many (eCons (eVar 2) (eCons (eVar 3) (eCons (eVar 1) (eNil))))) (eCons (eLen (eVar 6)) (eNil))))))
 (dRet (eC (.bl false)))
 (dNil))
 (dIf (xNot (xVal (eCall (d_law_same 8) (eCons (eCall d_sure_pairs (eCons (eVar 2) (eCons (eVar 3) (eCons (eVar 1) (eNil))))) (eCons (eTuple (eSortedT (eCall d_law_in_all (eCons (eVar 6) (eNil))))) (eNil))))))
 (dRet (eC (.bl false)))
 (dNil)))))))))))
 (dRet (eC (.bl true)))))
end Vm
end
section
set_option Elab.async false
set_option linter.all false
set_option maxRecDepth 100000
set_option maxHeartbeats 4000000
namespace VP
open PySem PySem.Spec PyProof.Rows L2 Vm Vl
def topS (i : Nat) : Stmt := PySem.Challenge.pw_vellum_k15_whole_small_rows_gone_through.main.body.getD i (.Pass ⟨0, 0, 0, 0⟩)
abbrev s_looks_alike:Stmt:=topS 1
theorem sc_looks_alike:FnScope ["one","two","a","b"] ["one","two"] (defScope s_looks_alike):=⟨rfl,rfl,rfl,by decide +kernel,rfl,by decide +kernel,by decide +kernel⟩
theorem ok_looks_alike {C:Cn} {ad:Addr} {fd:FuncData} (F:Fun C.K "looks_alike" "looks_alike" s_looks_alike ad fd) (hm:C.mg "looks_alike" = some (.ref ad)) (hb:Binds C.K fd ["one","two"] []) (z_len:C.mg "len" = none) (z_zip:C.mg "zip" = none):Cal C "looks_alike" 2 1 d_looks_alike :=
 fn_ok F sc_looks_alike rfl rfl hm hb
 (ds_cons (ds_if (dt_c (dc_ne (de_len (de_var 0) z_len) (de_len (de_var 1) z_len)))
 (ds_one (ds_ret (de_bl)))
 (ds_nil))
 (ds_one (ds_ret (de_c (dc_eq (de_len (de_lc (own:=[("a",2),("b",3)]) (di_zip (de_var 0) (de_var 1) z_zip) (by decide +kernel) (dg_t (dgs_cons (dg_v 2) (dgs_cons (dg_v 3) (dgs_nil)))) (df_one (dt_c (dc_ne (de_var 2) (de_var 3)))) (de_int)) z_len) (de_int))))))
abbrev s_step_price:Stmt:=topS 3
theorem sc_step_price:FnScope ["elder","done","step","prices","like","turn","lose","add","twice","swap","skip","kind","by_kind"] ["elder","done","step","prices"] (defScope s_step_price):=⟨rfl,rfl,rfl,by decide +kernel,rfl,by decide +kernel,by decide +kernel⟩
theorem ok_step_price {C:Cn} {ad:Addr} {fd:FuncData} (F:Fun C.K "step_price" "step_price" s_step_price ad fd) (hm:C.mg "step_price" = some (.ref ad)) (hb:Binds C.K fd ["elder","done","step","prices"] []) (c_looks_alike:Cal C "looks_alike" 2 1 d_looks_alike):Cal C "step_price" 4 2 d_step_price :=
 fn_ok F sc_step_price rfl rfl hm hb
 (ds_cons (ds_setT (de_var 3) (dg_t (dgs_cons (dg_v 4) (dgs_cons (dg_v 5) (dgs_cons (dg_v 6) (dgs_cons (dg_v 7) (dgs_cons (dg_v 8) (dgs_cons (dg_v 9) (dgs_cons (dg_v 10) (dgs_nil))))))))))
 (ds_cons (ds_set 11 (de_idx (de_var 2) (de_int)))
 (ds_cons (ds_if (dt_c (dc_eq (de_var 11) (de_str [116,117,114,110])))
 (ds_cons (ds_if (dt_val (de_call c_looks_alike (da_cons (de_idx (de_var 0) (de_var 1)) (da_cons (de_idx (de_var 2) (de_int)) (da_nil))) (hAs:=al_cons (al_cons al_nil))))
 (ds_one (ds_retV 4))
 (ds_nil))
 (ds_one (ds_retV 5)))
 (ds_nil))
 (ds_dispRet 12 [[107,101,101,112],[108,111,115,101],[97,100,100],[116,119,105,99,101],[115,119,97,112],[115,107,105,112]] (dp_cons' [107,101,101,112] (de_int) (dp_cons' [108,111,115,101] (de_var 6) (dp_cons' [97,100,100] (de_var 7) (dp_cons' [116,119,105,99,101] (de_var 8) (dp_cons' [115,119,97,112] (de_var 9) (dp_cons' [115,107,105,112] (de_var 10) (dp_nil'))))))) (de_var 11)))))
abbrev s_skips_at:Stmt:=topS 5
theorem sc_skips_at:FnScope ["elder","i","k"] ["elder","i"] (defScope s_skips_at):=⟨rfl,rfl,rfl,by decide +kernel,rfl,by decide +kernel,by decide +kernel⟩
theorem ok_skips_at {C:Cn} {ad:Addr} {fd:FuncData} (F:Fun C.K "skips_at" "skips_at" s_skips_at ad fd) (hm:C.mg "skips_at" = some (.ref ad)) (hb:Binds C.K fd ["elder","i"] []) (z_len:C.mg "len" = none) (z_range:C.mg "range" = none):Cal C "skips_at" 2 1 d_skips_at :=
 fn_ok F sc_skips_at rfl rfl hm hb
 (ds_cons (ds_if (dt_c (dc_eq (de_var 1) (de_int)))
 (ds_one (ds_ret (de_lst (da_nil))))
 (ds_nil))
 (ds_one (ds_ret (de_lc (own:=[("k",2)]) (di_range2 (de_int) (de_add (de_sub (de_len (de_var 0) z_len) (de_var 1)) (de_int)) z_range) (by decide +kernel) (dg_v 2) (df_one (dt_c (dc_eq (de_idx (de_var 0) (de_sub (de_add (de_var 1) (de_var 2)) (de_int))) (de_idx (de_var 0) (de_sub (de_var 1) (de_int)))))) (de_tup (da_cons (de_str [115,107,105,112]) (da_cons (de_var 2) (da_nil))))))))
abbrev s_swaps_at:Stmt:=topS 6
theorem sc_swaps_at:FnScope ["elder","copy","i","j"] ["elder","copy","i","j"] (defScope s_swaps_at):=⟨rfl,rfl,rfl,by decide +kernel,rfl,by decide +kernel,by decide +kernel⟩
theorem ok_swaps_at {C:Cn} {ad:Addr} {fd:FuncData} (F:Fun C.K "swaps_at" "swaps_at" s_swaps_at ad fd) (hm:C.mg "swaps_at" = some (.ref ad)) (hb:Binds C.K fd ["elder","copy","i","j"] []) (z_len:C.mg "len" = none):Cal C "swaps_at" 4 1 d_swaps_at :=
 fn_ok F sc_swaps_at rfl rfl hm hb
 (ds_cons (ds_if (dt_chain (dw_or (dt_c (dc_ge (de_add (de_var 2) (de_int)) (de_len (de_var 0) z_len))) (dw_or (dt_c (dc_ge (de_add (de_var 3) (de_int)) (de_len (de_var 1) z_len))) (dw_or1 (dt_c (dc_eq (de_idx (de_var 0) (de_var 2)) (de_idx (de_var 0) (de_add (de_var 2) (de_int)))))))))
 (ds_one (ds_ret (de_lst (da_nil))))
 (ds_nil))
 (ds_cons (ds_if (dt_chain (dw_and (dt_c (dc_eq (de_idx (de_var 1) (de_var 3)) (de_idx (de_var 0) (de_add (de_var 2) (de_int))))) (dw_and1 (dt_c (dc_eq (de_idx (de_var 1) (de_add (de_var 3) (de_int))) (de_idx (de_var 0) (de_var 2)))))))
 (ds_one (ds_ret (de_lst (da_cons (de_tup (da_cons (de_str [115,119,97,112]) (da_nil))) (da_nil)))))
 (ds_nil))
 (ds_one (ds_ret (de_lst (da_nil))))))
abbrev s_knot_steps:Stmt:=topS 7
theorem sc_knot_steps:FnScope ["elder","copy","i","j","steps"] ["elder","copy","i","j"] (defScope s_knot_steps):=⟨rfl,rfl,rfl,by decide +kernel,rfl,by decide +kernel,by decide +kernel⟩
theorem ok_knot_steps {C:Cn} {ad:Addr} {fd:FuncData} (F:Fun C.K "knot_steps" "knot_steps" s_knot_steps ad fd) (hm:C.mg "knot_steps" = some (.ref ad)) (hb:Binds C.K fd ["elder","copy","i","j"] []) (z_len:C.mg "len" = none) (z_tuple:C.mg "tuple" = none) (c_swaps_at:Cal C "swaps_at" 4 1 d_swaps_at) (c_skips_at:Cal C "skips_at" 2 1 d_skips_at):Cal C "knot_steps" 4 2 d_knot_steps :=
 fn_ok F sc_knot_steps rfl rfl hm hb
 (ds_cons (ds_setO 4 (de_lst (da_nil)))
 (ds_cons (ds_if (dt_chain (dw_and (dt_c (dc_lt (de_var 2) (de_len (de_var 0) z_len))) (dw_and1 (dt_c (dc_lt (de_var 3) (de_len (de_var 1) z_len))))))
 (ds_one (ds_if (dt_c (dc_eq (de_idx (de_var 0) (de_var 2)) (de_idx (de_var 1) (de_var 3))))
 (ds_one (ds_app 4 (de_tup (da_cons (de_str [107,101,101,112]) (da_nil)))))
 (ds_one (ds_app 4 (de_tup (da_cons (de_str [116,117,114,110]) (da_cons (de_idx (de_var 1) (de_var 3)) (da_nil))))))))
 (ds_nil))
 (ds_cons (ds_if (dt_c (dc_lt (de_var 2) (de_len (de_var 0) z_len)))
 (ds_one (ds_app 4 (de_tup (da_cons (de_str [108,111,115,101]) (da_nil)))))
 (ds_nil))
 (ds_cons (ds_if (dt_c (dc_lt (de_var 3) (de_len (de_var 1) z_len)))
 (ds_cons (ds_app 4 (de_tup (da_cons (de_str [97,100,100]) (da_cons (de_idx (de_var 1) (de_var 3)) (da_nil)))))
 (ds_one (ds_if (dt_chain (dw_and (dt_c (dc_gt (de_var 3) (de_int))) (dw_and1 (dt_c (dc_eq (de_idx (de_var 1) (de_sub (de_var 3) (de_int))) (de_idx (de_var 1) (de_var 3)))))))
 (ds_one (ds_app 4 (de_tup (da_cons (de_str [116,119,105,99,101]) (da_nil)))))
 (ds_nil))))
 (ds_nil))
 (ds_one (ds_ret (de_tuple (de_add (de_add (de_var 4) (de_call c_swaps_at (da_cons (de_var 0) (da_cons (de_var 1) (da_cons (de_var 2) (da_cons (de_var 3) (da_nil))))) (hAs:=al_cons (al_cons (al_cons (al_cons al_nil)))))) (de_call c_skips_at (da_cons (de_var 0) (da_cons (de_var 2) (da_nil))) (hAs:=al_cons (al_cons al_nil)))) z_tuple)))))))
abbrev s_step_end:Stmt:=topS 8
theorem sc_step_end:FnScope ["i","j","step"] ["i","j","step"] (defScope s_step_end):=⟨rfl,rfl,rfl,by decide +kernel,rfl,by decide +kernel,by decide +kernel⟩
theorem ok_step_end {C:Cn} {ad:Addr} {fd:FuncData} (F:Fun C.K "step_end" "step_end" s_step_end ad fd) (hm:C.mg "step_end" = some (.ref ad)) (hb:Binds C.K fd ["i","j","step"] []):Cal C "step_end" 3 1 d_step_end :=
 fn_ok F sc_step_end rfl rfl hm hb
 (ds_cons (ds_if (dt_chain (dw_or (dt_c (dc_eq (de_idx (de_var 2) (de_int)) (de_str [107,101,101,112]))) (dw_or1 (dt_c (dc_eq (de_idx (de_var 2) (de_int)) (de_str [116,117,114,110]))))))
 (ds_one (ds_ret (de_tup (da_cons (de_add (de_var 0) (de_int)) (da_cons (de_add (de_var 1) (de_int)) (da_nil))))))
 (ds_nil))
 (ds_cons (ds_if (dt_c (dc_eq (de_idx (de_var 2) (de_int)) (de_str [108,111,115,101])))
 (ds_one (ds_ret (de_tup (da_cons (de_add (de_var 0) (de_int)) (da_cons (de_var 1) (da_nil))))))
 (ds_nil))
 (ds_cons (ds_if (dt_chain (dw_or (dt_c (dc_eq (de_idx (de_var 2) (de_int)) (de_str [97,100,100]))) (dw_or1 (dt_c (dc_eq (de_idx (de_var 2) (de_int)) (de_str [116,119,105,99,101]))))))
 (ds_one (ds_ret (de_tup (da_cons (de_var 0) (da_cons (de_add (de_var 1) (de_int)) (da_nil))))))
 (ds_nil))
 (ds_cons (ds_if (dt_c (dc_eq (de_idx (de_var 2) (de_int)) (de_str [115,119,97,112])))
 (ds_one (ds_ret (de_tup (da_cons (de_add (de_var 0) (de_int)) (da_cons (de_add (de_var 1) (de_int)) (da_nil))))))
 (ds_nil))
 (ds_one (ds_ret (de_tup (da_cons (de_add (de_var 0) (de_idx (de_var 2) (de_int))) (da_cons (de_var 1) (da_nil))))))))))
abbrev s_priced_ends:Stmt:=topS 9
theorem sc_priced_ends:FnScope ["elder","copy","i","j","prices","found","step"] ["elder","copy","i","j","prices"] (defScope s_priced_ends):=⟨rfl,rfl,rfl,by decide +kernel,rfl,by decide +kernel,by decide +kernel⟩
theorem ok_priced_ends {C:Cn} {ad:Addr} {fd:FuncData} (F:Fun C.K "priced_ends" "priced_ends" s_priced_ends ad fd) (hm:C.mg "priced_ends" = some (.ref ad)) (hb:Binds C.K fd ["elder","copy","i","j","prices"] []) (c_knot_steps:Cal C "knot_steps" 4 2 d_knot_steps) (c_step_price:Cal C "step_price" 4 2 d_step_price) (c_step_end:Cal C "step_end" 3 1 d_step_end):Cal C "priced_ends" 5 3 d_priced_ends :=
 fn_ok F sc_priced_ends rfl rfl hm hb
 (ds_cons (ds_setO 5 (de_lst (da_nil)))
 (ds_cons (ds_for [6] (di_seq (de_call c_knot_steps (da_cons (de_var 0) (da_cons (de_var 1) (da_cons (de_var 2) (da_cons (de_var 3) (da_nil))))) (hAs:=al_cons (al_cons (al_cons (al_cons al_nil)))))) (dg_v 6)
 (ds_one (ds_app 5 (de_tup (da_cons (de_var 6) (da_cons (de_call c_step_end (da_cons (de_var 2) (da_cons (de_var 3) (da_cons (de_var 6) (da_nil)))) (hAs:=al_cons (al_cons (al_cons al_nil)))) (da_cons (de_call c_step_price (da_cons (de_var 0) (da_cons (de_var 2) (da_cons (de_var 6) (da_cons (de_var 4) (da_nil))))) (hAs:=al_cons (al_cons (al_cons (al_cons al_nil))))) (da_nil))))))))
 (ds_one (ds_retV 5))))
abbrev s_empty_table:Stmt:=topS 10
theorem sc_empty_table:FnScope ["elder","copy","i","j"] ["elder","copy"] (defScope s_empty_table):=⟨rfl,rfl,rfl,by decide +kernel,rfl,by decide +kernel,by decide +kernel⟩
theorem ok_empty_table {C:Cn} {ad:Addr} {fd:FuncData} (F:Fun C.K "empty_table" "empty_table" s_empty_table ad fd) (hm:C.mg "empty_table" = some (.ref ad)) (hb:Binds C.K fd ["elder","copy"] []) (z_len:C.mg "len" = none) (z_range:C.mg "range" = none):Cal C "empty_table" 2 1 d_empty_table :=
 fn_ok F sc_empty_table rfl rfl hm hb
 (ds_one (ds_ret (de_lcO (own:=[("i",2)]) (di_range (de_add (de_len (de_var 0) z_len) (de_int)) z_range) (by decide +kernel) (dg_v 2) (df_nil) (de_lc (own:=[("j",3)]) (di_range (de_add (de_len (de_var 1) z_len) (de_int)) z_range) (by decide +kernel) (dg_v 3) (df_nil) (de_non)))))
abbrev s_kept_table:Stmt:=topS 11
theorem sc_kept_table:FnScope ["table","row"] ["table"] (defScope s_kept_table):=⟨rfl,rfl,rfl,by decide +kernel,rfl,by decide +kernel,by decide +kernel⟩
theorem ok_kept_table {C:Cn} {ad:Addr} {fd:FuncData} (F:Fun C.K "kept_table" "kept_table" s_kept_table ad fd) (hm:C.mg "kept_table" = some (.ref ad)) (hb:Binds C.K fd ["table"] []) (z_tuple:C.mg "tuple" = none):Cal C "kept_table" 1 1 d_kept_table :=
 fn_ok F sc_kept_table rfl rfl hm hb
 (ds_one (ds_ret (de_tuple (de_lc (own:=[("row",1)]) (di_seq (de_var 0)) (by decide +kernel) (dg_v 1) (df_nil) (de_tuple (de_var 1) z_tuple)) z_tuple)))
abbrev s_price_table:Stmt:=topS 12
theorem sc_price_table:FnScope ["elder","copy","prices","table","i","j","step","end","price","known"] ["elder","copy","prices"] (defScope s_price_table):=⟨rfl,rfl,rfl,by decide +kernel,rfl,by decide +kernel,by decide +kernel⟩
theorem ok_price_table {C:Cn} {ad:Addr} {fd:FuncData} (F:Fun C.K "price_table" "price_table" s_price_table ad fd) (hm:C.mg "price_table" = some (.ref ad)) (hb:Binds C.K fd ["elder","copy","prices"] []) (z_len:C.mg "len" = none) (z_range:C.mg "range" = none) (c_empty_table:Cal C "empty_table" 2 1 d_empty_table) (c_priced_ends:Cal C "priced_ends" 5 3 d_priced_ends) (c_kept_table:Cal C "kept_table" 1 1 d_kept_table):Cal C "price_table" 3 4 d_price_table :=
 fn_ok F sc_price_table rfl rfl hm hb
 (ds_cons (ds_setO 3 (de_call c_empty_table (da_cons (de_var 0) (da_cons (de_var 1) (da_nil))) (hAs:=al_cons (al_cons al_nil))))
 (ds_cons (ds_setIx2 3 (de_int) (de_int) (de_int))
 (ds_cons (ds_for [4,5,6,7,8,9] (di_range (de_add (de_len (de_var 0) z_len) (de_int)) z_range) (dg_v 4)
 (ds_one (ds_for [5,6,7,8,9] (di_range (de_add (de_len (de_var 1) z_len) (de_int)) z_range) (dg_v 5)
 (ds_one (ds_for [6,7,8,9] (di_seq (de_call c_priced_ends (da_cons (de_var 0) (da_cons (de_var 1) (da_cons (de_var 4) (da_cons (de_var 5) (da_cons (de_var 2) (da_nil)))))) (hAs:=al_cons (al_cons (al_cons (al_cons (al_cons al_nil))))))) (dg_t (dgs_cons (dg_v 6) (dgs_cons (dg_v 7) (dgs_cons (dg_v 8) (dgs_nil)))))
 (ds_cons (ds_set 9 (de_idx (de_idx (de_var 3) (de_idx (de_var 7) (de_int))) (de_idx (de_var 7) (de_int))))
 (ds_one (ds_if (dt_chain (dw_or (dt_c (dc_isN (de_var 9))) (dw_or1 (dt_c (dc_lt (de_add (de_idx (de_idx (de_var 3) (de_var 4)) (de_var 5)) (de_var 8)) (de_var 9))))))
 (ds_one (ds_setIx2 3 (de_idx (de_var 7) (de_int)) (de_idx (de_var 7) (de_int)) (de_add (de_idx (de_idx (de_var 3) (de_var 4)) (de_var 5)) (de_var 8))))
 (ds_nil)))))))))
 (ds_one (ds_ret (de_call c_kept_table (da_cons (de_var 3) (da_nil)) (hAs:=al_cons al_nil)))))))
abbrev s_rest_table:Stmt:=topS 13
theorem sc_rest_table:FnScope ["elder","copy","prices","table","i","j","ends","step","end","price"] ["elder","copy","prices"] (defScope s_rest_table):=⟨rfl,rfl,rfl,by decide +kernel,rfl,by decide +kernel,by decide +kernel⟩
theorem ok_rest_table {C:Cn} {ad:Addr} {fd:FuncData} (F:Fun C.K "rest_table" "rest_table" s_rest_table ad fd) (hm:C.mg "rest_table" = some (.ref ad)) (hb:Binds C.K fd ["elder","copy","prices"] []) (z_len:C.mg "len" = none) (z_reversed:C.mg "reversed" = none) (z_range:C.mg "range" = none) (z_min:C.mg "min" = none) (c_empty_table:Cal C "empty_table" 2 1 d_empty_table) (c_priced_ends:Cal C "priced_ends" 5 3 d_priced_ends) (c_kept_table:Cal C "kept_table" 1 1 d_kept_table):Cal C "rest_table" 3 4 d_rest_table :=
 fn_ok F sc_rest_table rfl rfl hm hb
 (ds_cons (ds_setO 3 (de_call c_empty_table (da_cons (de_var 0) (da_cons (de_var 1) (da_nil))) (hAs:=al_cons (al_cons al_nil))))
 (ds_cons (ds_for [4,5,6] (di_revR (de_add (de_len (de_var 0) z_len) (de_int)) z_reversed z_range) (dg_v 4)
 (ds_one (ds_for [5,6] (di_revR (de_add (de_len (de_var 1) z_len) (de_int)) z_reversed z_range) (dg_v 5)
 (ds_cons (ds_set 6 (de_call c_priced_ends (da_cons (de_var 0) (da_cons (de_var 1) (da_cons (de_var 4) (da_cons (de_var 5) (da_cons (de_var 2) (da_nil)))))) (hAs:=al_cons (al_cons (al_cons (al_cons (al_cons al_nil)))))))
 (ds_one (ds_setIx2 3 (de_var 4) (de_var 5) (de_minDf (de_lc (own:=[("step",7),("end",8),("price",9)]) (di_seq (de_var 6)) (by decide +kernel) (dg_t (dgs_cons (dg_v 7) (dgs_cons (dg_v 8) (dgs_cons (dg_v 9) (dgs_nil))))) (df_nil) (de_add (de_var 9) (de_idx (de_idx (de_var 3) (de_idx (de_var 8) (de_int))) (de_idx (de_var 8) (de_int))))) (de_int) z_min)))))))
 (ds_one (ds_ret (de_call c_kept_table (da_cons (de_var 3) (da_nil)) (hAs:=al_cons al_nil))))))
abbrev s_cheapest_ends:Stmt:=topS 15
theorem sc_cheapest_ends:FnScope ["elder","copy","i","j","prices","rest","ends","step","end","price"] ["elder","copy","i","j","prices","rest"] (defScope s_cheapest_ends):=⟨rfl,rfl,rfl,by decide +kernel,rfl,by decide +kernel,by decide +kernel⟩
theorem ok_cheapest_ends {C:Cn} {ad:Addr} {fd:FuncData} (F:Fun C.K "cheapest_ends" "cheapest_ends" s_cheapest_ends ad fd) (hm:C.mg "cheapest_ends" = some (.ref ad)) (hb:Binds C.K fd ["elder","copy","i","j","prices","rest"] []) (c_priced_ends:Cal C "priced_ends" 5 3 d_priced_ends):Cal C "cheapest_ends" 6 4 d_cheapest_ends :=
 fn_ok F sc_cheapest_ends rfl rfl hm hb
 (ds_cons (ds_set 6 (de_call c_priced_ends (da_cons (de_var 0) (da_cons (de_var 1) (da_cons (de_var 2) (da_cons (de_var 3) (da_cons (de_var 4) (da_nil)))))) (hAs:=al_cons (al_cons (al_cons (al_cons (al_cons al_nil)))))))
 (ds_one (ds_ret (de_lc (own:=[("step",7),("end",8),("price",9)]) (di_seq (de_var 6)) (by decide +kernel) (dg_t (dgs_cons (dg_v 7) (dgs_cons (dg_v 8) (dgs_cons (dg_v 9) (dgs_nil))))) (df_one (dt_c (dc_eq (de_add (de_var 9) (de_idx (de_idx (de_var 5) (de_idx (de_var 8) (de_int))) (de_idx (de_var 8) (de_int)))) (de_idx (de_idx (de_var 5) (de_var 2)) (de_var 3))))) (de_tup (da_cons (de_var 7) (da_cons (de_var 8) (da_nil))))))))
abbrev s_least_slips:Stmt:=topS 16
theorem sc_least_slips:FnScope ["elder","copy","prices","rest","steps","at","first"] ["elder","copy","prices"] (defScope s_least_slips):=⟨rfl,rfl,rfl,by decide +kernel,rfl,by decide +kernel,by decide +kernel⟩
theorem ok_least_slips {C:Cn} {ad:Addr} {fd:FuncData} (F:Fun C.K "least_slips" "least_slips" s_least_slips ad fd) (hm:C.mg "least_slips" = some (.ref ad)) (hb:Binds C.K fd ["elder","copy","prices"] []) (z_len:C.mg "len" = none) (z_tuple:C.mg "tuple" = none) (c_rest_table:Cal C "rest_table" 3 4 d_rest_table) (c_cheapest_ends:Cal C "cheapest_ends" 6 4 d_cheapest_ends) (c_price_table:Cal C "price_table" 3 4 d_price_table):Cal C "least_slips" 3 5 d_least_slips :=
 fn_ok F sc_least_slips rfl rfl hm hb
 (ds_cons (ds_set 3 (de_call c_rest_table (da_cons (de_var 0) (da_cons (de_var 1) (da_cons (de_var 2) (da_nil)))) (hAs:=al_cons (al_cons (al_cons al_nil)))))
 (ds_cons (ds_setO 4 (de_lst (da_nil)))
 (ds_cons (ds_set 5 (de_tup (da_cons (de_int) (da_cons (de_int) (da_nil)))))
 (ds_cons (ds_while [6] (dt_c (dc_ne (de_var 5) (de_tup (da_cons (de_len (de_var 0) z_len) (da_cons (de_len (de_var 1) z_len) (da_nil))))))
 (ds_cons (ds_set 6 (de_idx (de_call c_cheapest_ends (da_cons (de_var 0) (da_cons (de_var 1) (da_cons (de_idx (de_var 5) (de_int)) (da_cons (de_idx (de_var 5) (de_int)) (da_cons (de_var 2) (da_cons (de_var 3) (da_nil))))))) (hAs:=al_cons (al_cons (al_cons (al_cons (al_cons (al_cons al_nil))))))) (de_int)))
 (ds_cons (ds_app 4 (de_idx (de_var 6) (de_int)))
 (ds_one (ds_set 5 (de_idx (de_var 6) (de_int)))))))
 (ds_one (ds_ret (de_tup (da_cons (de_idx (de_idx (de_var 3) (de_int)) (de_int)) (da_cons (de_tuple (de_var 4) z_tuple) (da_cons (de_call c_price_table (da_cons (de_var 0) (da_cons (de_var 1) (da_cons (de_var 2) (da_nil)))) (hAs:=al_cons (al_cons (al_cons al_nil)))) (da_nil)))))))))))
abbrev s_many_from:Stmt:=topS 17
theorem sc_many_from:FnScope ["elder","copy","prices","rest","many","i","j","ends","step","end"] ["elder","copy","prices","rest"] (defScope s_many_from):=⟨rfl,rfl,rfl,by decide +kernel,rfl,by decide +kernel,by decide +kernel⟩
theorem ok_many_from {C:Cn} {ad:Addr} {fd:FuncData} (F:Fun C.K "many_from" "many_from" s_many_from ad fd) (hm:C.mg "many_from" = some (.ref ad)) (hb:Binds C.K fd ["elder","copy","prices","rest"] []) (z_len:C.mg "len" = none) (z_reversed:C.mg "reversed" = none) (z_range:C.mg "range" = none) (z_sum:C.mg "sum" = none) (c_empty_table:Cal C "empty_table" 2 1 d_empty_table) (c_cheapest_ends:Cal C "cheapest_ends" 6 4 d_cheapest_ends):Cal C "many_from" 4 5 d_many_from :=
 fn_ok F sc_many_from rfl rfl hm hb
 (ds_cons (ds_setO 4 (de_call c_empty_table (da_cons (de_var 0) (da_cons (de_var 1) (da_nil))) (hAs:=al_cons (al_cons al_nil))))
 (ds_cons (ds_for [5,6,7] (di_revR (de_add (de_len (de_var 0) z_len) (de_int)) z_reversed z_range) (dg_v 5)
 (ds_one (ds_for [6,7] (di_revR (de_add (de_len (de_var 1) z_len) (de_int)) z_reversed z_range) (dg_v 6)
 (ds_cons (ds_set 7 (de_call c_cheapest_ends (da_cons (de_var 0) (da_cons (de_var 1) (da_cons (de_var 5) (da_cons (de_var 6) (da_cons (de_var 2) (da_cons (de_var 3) (da_nil))))))) (hAs:=al_cons (al_cons (al_cons (al_cons (al_cons (al_cons al_nil))))))))
 (ds_cons (ds_setIx2 4 (de_var 5) (de_var 6) (de_sum (de_lc (own:=[("step",8),("end",9)]) (di_seq (de_var 7)) (by decide +kernel) (dg_t (dgs_cons (dg_v 8) (dgs_cons (dg_v 9) (dgs_nil)))) (df_nil) (de_idx (de_idx (de_var 4) (de_idx (de_var 9) (de_int))) (de_idx (de_var 9) (de_int)))) z_sum))
 (ds_one (ds_if (dt_chain (dw_and (dt_c (dc_eq (de_var 5) (de_len (de_var 0) z_len))) (dw_and1 (dt_c (dc_eq (de_var 6) (de_len (de_var 1) z_len))))))
 (ds_one (ds_setIx2 4 (de_var 5) (de_var 6) (de_int)))
 (ds_nil))))))))
 (ds_one (ds_retV 4))))
abbrev s_cheapest_many:Stmt:=topS 18
theorem sc_cheapest_many:FnScope ["elder","copy","prices"] ["elder","copy","prices"] (defScope s_cheapest_many):=⟨rfl,rfl,rfl,by decide +kernel,rfl,by decide +kernel,by decide +kernel⟩
theorem ok_cheapest_many {C:Cn} {ad:Addr} {fd:FuncData} (F:Fun C.K "cheapest_many" "cheapest_many" s_cheapest_many ad fd) (hm:C.mg "cheapest_many" = some (.ref ad)) (hb:Binds C.K fd ["elder","copy","prices"] []) (c_rest_table:Cal C "rest_table" 3 4 d_rest_table) (c_many_from:Cal C "many_from" 4 5 d_many_from):Cal C "cheapest_many" 3 6 d_cheapest_many :=
 fn_ok F sc_cheapest_many rfl rfl hm hb
 (ds_one (ds_ret (de_idx (de_idx (de_call c_many_from (da_cons (de_var 0) (da_cons (de_var 1) (da_cons (de_var 2) (da_cons (de_call c_rest_table (da_cons (de_var 0) (da_cons (de_var 1) (da_cons (de_var 2) (da_nil)))) (hAs:=al_cons (al_cons (al_cons al_nil)))) (da_nil))))) (hAs:=al_cons (al_cons (al_cons (al_cons al_nil))))) (de_int)) (de_int))))
abbrev s_many_to:Stmt:=topS 19
theorem sc_many_to:FnScope ["elder","copy","prices","rest","many","i","j","step","end"] ["elder","copy","prices","rest"] (defScope s_many_to):=⟨rfl,rfl,rfl,by decide +kernel,rfl,by decide +kernel,by decide +kernel⟩
theorem ok_many_to {C:Cn} {ad:Addr} {fd:FuncData} (F:Fun C.K "many_to" "many_to" s_many_to ad fd) (hm:C.mg "many_to" = some (.ref ad)) (hb:Binds C.K fd ["elder","copy","prices","rest"] []) (z_len:C.mg "len" = none) (z_range:C.mg "range" = none) (c_empty_table:Cal C "empty_table" 2 1 d_empty_table) (c_cheapest_ends:Cal C "cheapest_ends" 6 4 d_cheapest_ends):Cal C "many_to" 4 5 d_many_to :=
 fn_ok F sc_many_to rfl rfl hm hb
 (ds_cons (ds_setO 4 (de_call c_empty_table (da_cons (de_var 0) (da_cons (de_var 1) (da_nil))) (hAs:=al_cons (al_cons al_nil))))
 (ds_cons (ds_setIx2 4 (de_int) (de_int) (de_int))
 (ds_cons (ds_for [5,6,7,8] (di_range (de_add (de_len (de_var 0) z_len) (de_int)) z_range) (dg_v 5)
 (ds_one (ds_for [6,7,8] (di_range (de_add (de_len (de_var 1) z_len) (de_int)) z_range) (dg_v 6)
 (ds_one (ds_if (dt_c (dc_notN (de_idx (de_idx (de_var 4) (de_var 5)) (de_var 6))))
 (ds_one (ds_for [7,8] (di_seq (de_call c_cheapest_ends (da_cons (de_var 0) (da_cons (de_var 1) (da_cons (de_var 5) (da_cons (de_var 6) (da_cons (de_var 2) (da_cons (de_var 3) (da_nil))))))) (hAs:=al_cons (al_cons (al_cons (al_cons (al_cons (al_cons al_nil)))))))) (dg_t (dgs_cons (dg_v 7) (dgs_cons (dg_v 8) (dgs_nil))))
 (ds_one (ds_setIx2 4 (de_idx (de_var 8) (de_int)) (de_idx (de_var 8) (de_int)) (de_add (de_orN (de_idx (de_idx (de_var 4) (de_idx (de_var 8) (de_int))) (de_idx (de_var 8) (de_int))) (de_one (de_int))) (de_idx (de_idx (de_var 4) (de_var 5)) (de_var 6)))))))
 (ds_nil))))))
 (ds_one (ds_retV 4)))))
abbrev s_sure_pairs:Stmt:=topS 20
theorem sc_sure_pairs:FnScope ["elder","copy","prices","rest","to","onward","found","i","j","keeps"] ["elder","copy","prices"] (defScope s_sure_pairs):=⟨rfl,rfl,rfl,by decide +kernel,rfl,by decide +kernel,by decide +kernel⟩
theorem ok_sure_pairs {C:Cn} {ad:Addr} {fd:FuncData} (F:Fun C.K "sure_pairs" "sure_pairs" s_sure_pairs ad fd) (hm:C.mg "sure_pairs" = some (.ref ad)) (hb:Binds C.K fd ["elder","copy","prices"] []) (z_len:C.mg "len" = none) (z_range:C.mg "range" = none) (z_tuple:C.mg "tuple" = none) (c_rest_table:Cal C "rest_table" 3 4 d_rest_table) (c_many_to:Cal C "many_to" 4 5 d_many_to) (c_many_from:Cal C "many_from" 4 5 d_many_from):Cal C "sure_pairs" 3 6 d_sure_pairs :=
 fn_ok F sc_sure_pairs rfl rfl hm hb
 (ds_cons (ds_set 3 (de_call c_rest_table (da_cons (de_var 0) (da_cons (de_var 1) (da_cons (de_var 2) (da_nil)))) (hAs:=al_cons (al_cons (al_cons al_nil)))))
 (ds_cons (ds_set 4 (de_call c_many_to (da_cons (de_var 0) (da_cons (de_var 1) (da_cons (de_var 2) (da_cons (de_var 3) (da_nil))))) (hAs:=al_cons (al_cons (al_cons (al_cons al_nil))))))
 (ds_cons (ds_set 5 (de_call c_many_from (da_cons (de_var 0) (da_cons (de_var 1) (da_cons (de_var 2) (da_cons (de_var 3) (da_nil))))) (hAs:=al_cons (al_cons (al_cons (al_cons al_nil))))))
 (ds_cons (ds_setO 6 (de_lst (da_nil)))
 (ds_cons (ds_for [7,8,9] (di_range (de_len (de_var 0) z_len) z_range) (dg_v 7)
 (ds_one (ds_for [8,9] (di_range (de_len (de_var 1) z_len) z_range) (dg_v 8)
 (ds_cons (ds_set 9 (de_and (de_c (dc_eq (de_idx (de_var 0) (de_var 7)) (de_idx (de_var 1) (de_var 8)))) (de_one (de_c (dc_eq (de_idx (de_idx (de_var 3) (de_add (de_var 7) (de_int))) (de_add (de_var 8) (de_int))) (de_idx (de_idx (de_var 3) (de_var 7)) (de_var 8)))))))
 (ds_one (ds_if (dt_chain (dw_and (dt_val (de_var 9)) (dw_and (dt_c (dc_notN (de_idx (de_idx (de_var 4) (de_var 7)) (de_var 8)))) (dw_and1 (dt_c (dc_eq (de_mul2 (de_idx (de_idx (de_var 4) (de_var 7)) (de_var 8)) (de_idx (de_idx (de_var 5) (de_add (de_var 7) (de_int))) (de_add (de_var 8) (de_int)))) (de_idx (de_idx (de_var 5) (de_int)) (de_int))))))))
 (ds_one (ds_app 6 (de_tup (da_cons (de_var 7) (da_cons (de_var 8) (da_nil))))))
 (ds_nil)))))))
 (ds_one (ds_ret (de_tuple (de_var 6) z_tuple))))))))
abbrev s__law_cell_at:Stmt:=topS 22
theorem sc__law_cell_at:FnScope ["script","k"] ["script","k"] (defScope s__law_cell_at):=⟨rfl,rfl,rfl,by decide +kernel,rfl,by decide +kernel,by decide +kernel⟩
theorem ok__law_cell_at {C:Cn} {ad:Addr} {fd:FuncData} (F:Fun C.K "_law_cell_at" "_law_cell_at" s__law_cell_at ad fd) (hm:C.mg "_law_cell_at" = some (.ref ad)) (hb:Binds C.K fd ["script","k"] []) (z_len:C.mg "len" = none):Cal C "_law_cell_at" 2 1 d_law_cell_at :=
 fn_ok F sc__law_cell_at rfl rfl hm hb
 (ds_cons (ds_if (dt_c (dc_lt (de_var 1) (de_len (de_var 0) z_len)))
 (ds_one (ds_ret (de_idx (de_var 0) (de_var 1))))
 (ds_nil))
 (ds_one (ds_ret (de_int))))
abbrev s__law_stir:Stmt:=topS 23
theorem sc__law_stir:FnScope ["cell"] ["cell"] (defScope s__law_stir):=⟨rfl,rfl,rfl,by decide +kernel,rfl,by decide +kernel,by decide +kernel⟩
theorem ok__law_stir {C:Cn} {ad:Addr} {fd:FuncData} (F:Fun C.K "_law_stir" "_law_stir" s__law_stir ad fd) (hm:C.mg "_law_stir" = some (.ref ad)) (hb:Binds C.K fd ["cell"] []):Cal C "_law_stir" 1 1 d_law_stir :=
 fn_ok F sc__law_stir rfl rfl hm hb
 (ds_one (ds_ret (de_mod (de_mul2 (de_var 0) (de_int)) (de_int))))
abbrev s__law_next:Stmt:=topS 24
theorem sc__law_next:FnScope ["left"] ["left"] (defScope s__law_next):=⟨rfl,rfl,rfl,by decide +kernel,rfl,by decide +kernel,by decide +kernel⟩
theorem ok__law_next {C:Cn} {ad:Addr} {fd:FuncData} (F:Fun C.K "_law_next" "_law_next" s__law_next ad fd) (hm:C.mg "_law_next" = some (.ref ad)) (hb:Binds C.K fd ["left"] []):Cal C "_law_next" 1 1 d_law_next :=
 fn_ok F sc__law_next rfl rfl hm hb
 (ds_one (ds_ret (de_mod (de_mul2 (de_var 0) (de_int)) (de_int))))
abbrev s__law_same:Stmt:=topS 25
theorem sc__law_same:FnScope ["found","due","k"] ["found","due"] (defScope s__law_same):=⟨rfl,rfl,rfl,by decide +kernel,rfl,by decide +kernel,by decide +kernel⟩
theorem ok__law_same {C:Cn} {ad:Addr} {fd:FuncData} (F:Fun C.K "_law_same" "_law_same" s__law_same ad fd) (hm:C.mg "_law_same" = some (.ref ad)) (hb:Binds C.K fd ["found","due"] []) (z_isinstance:C.mg "isinstance" = none) (z_tuple:C.mg "tuple" = none) (z_len:C.mg "len" = none) (z_range:C.mg "range" = none) (z_str:C.mg "str" = none) (z_int:C.mg "int" = none) (z_bool:C.mg "bool" = none):∀ n,Cal C "_law_same" 2 (n+1) (d_law_same n)
 | 0=>cal_bad F sc__law_same rfl hm hb
 | n+1=>by
  have c_rec:=ok__law_same F hm hb z_isinstance z_tuple z_len z_range z_str z_int z_bool n
  exact fn_ok F sc__law_same rfl rfl hm hb (
   ds_cons (ds_if (dt_val (de_isI (de_var 1) "tuple" z_isinstance z_tuple))
 (ds_cons (ds_if (dt_chain (dw_or (dt_not (dt_val (de_isI (de_var 0) "tuple" z_isinstance z_tuple))) (dw_or1 (dt_c (dc_ne (de_len (de_var 0) z_len) (de_len (de_var 1) z_len))))))
 (ds_one (ds_ret (de_bl)))
 (ds_nil))
 (ds_cons (ds_for [2] (di_range (de_len (de_var 1) z_len) z_range) (dg_v 2)
 (ds_one (ds_if (dt_not (dt_val (de_call c_rec (da_cons (de_idx (de_var 0) (de_var 2)) (da_cons (de_idx (de_var 1) (de_var 2)) (da_nil))) (hAs:=al_cons (al_cons al_nil)) (hj:=by omega))))
 (ds_one (ds_ret (de_bl)))
 (ds_nil))))
 (ds_one (ds_ret (de_bl)))))
 (ds_nil))
 (ds_cons (ds_if (dt_c (dc_isN (de_var 1)))
 (ds_one (ds_ret (de_c (dc_isN (de_var 0)))))
 (ds_nil))
 (ds_cons (ds_if (dt_val (de_isI (de_var 1) "str" z_isinstance z_str))
 (ds_one (ds_ret (de_and (de_isI (de_var 0) "str" z_isinstance z_str) (de_one (de_c (dc_eq (de_var 0) (de_var 1)))))))
 (ds_nil))
 (ds_cons (ds_if (dt_chain (dw_or (dt_not (dt_val (de_isI (de_var 0) "int" z_isinstance z_int))) (dw_or1 (dt_c (dc_ne (de_isI (de_var 0) "bool" z_isinstance z_bool) (de_isI (de_var 1) "bool" z_isinstance z_bool))))))
 (ds_one (ds_ret (de_bl)))
 (ds_nil))
 (ds_one (ds_ret (de_c (dc_eq (de_var 0) (de_var 1)))))))))
abbrev s__law_word:Stmt:=topS 26
theorem sc__law_word:FnScope ["seed","code","letters","size","rest","word","k","step"] ["seed","code"] (defScope s__law_word):=⟨rfl,rfl,rfl,by decide +kernel,rfl,by decide +kernel,by decide +kernel⟩
theorem ok__law_word {C:Cn} {ad:Addr} {fd:FuncData} (F:Fun C.K "_law_word" "_law_word" s__law_word ad fd) (hm:C.mg "_law_word" = some (.ref ad)) (hb:Binds C.K fd ["seed","code"] []) (z_range:C.mg "range" = none):Cal C "_law_word" 2 1 d_law_word_v1 :=
 fn_ok F sc__law_word rfl rfl hm hb
 (ds_cons (ds_set 2 (de_str [97,98,99,100,101,102,103,104,105,106,107,108,109,110,111,112,113,114,115,116,117,118,119,120,121,122]))
 (ds_cons (ds_set 3 (de_add (de_int) (de_mod (de_var 0) (de_int))))
 (ds_cons (ds_set 4 (de_fdiv (de_var 0) (de_int)))
 (ds_cons (ds_set 5 (de_str []))
 (ds_cons (ds_for [6,7] (di_range (de_var 3) z_range) (dg_v 6)
 (ds_cons (ds_set 7 (de_int))
 (ds_cons (ds_if (dt_c (dc_eq (de_var 6) (de_mod (de_fdiv (de_var 1) (de_int)) (de_var 3))))
 (ds_one (ds_set 7 (de_mod (de_var 1) (de_int))))
 (ds_nil))
 (ds_cons (ds_set 5 (de_add (de_var 5) (de_idx (de_var 2) (de_mod (de_add (de_var 4) (de_var 7)) (de_int)))))
 (ds_one (ds_set 4 (de_fdiv (de_var 4) (de_int))))))))
 (ds_cons (ds_if (dt_chain (dw_and (dt_c (dc_eq (de_var 1) (de_int))) (dw_and1 (dt_c (dc_lt (de_var 3) (de_int))))))
 (ds_one (ds_set 5 (de_add (de_var 5) (de_str [113]))))
 (ds_nil))
 (ds_one (ds_retV 5))))))))
abbrev s__law_prices:Stmt:=topS 27
theorem sc__law_prices:FnScope ["cell","left","prices","k","price"] ["cell"] (defScope s__law_prices):=⟨rfl,rfl,rfl,by decide +kernel,rfl,by decide +kernel,by decide +kernel⟩
theorem ok__law_prices {C:Cn} {ad:Addr} {fd:FuncData} (F:Fun C.K "_law_prices" "_law_prices" s__law_prices ad fd) (hm:C.mg "_law_prices" = some (.ref ad)) (hb:Binds C.K fd ["cell"] []) (z_range:C.mg "range" = none) (z_tuple:C.mg "tuple" = none) (c__law_stir:Cal C "_law_stir" 1 1 d_law_stir) (c__law_next:Cal C "_law_next" 1 1 d_law_next):Cal C "_law_prices" 1 2 d_law_prices :=
 fn_ok F sc__law_prices rfl rfl hm hb
 (ds_cons (ds_set 1 (de_call c__law_stir (da_cons (de_var 0) (da_nil)) (hAs:=al_cons al_nil)))
 (ds_cons (ds_setO 2 (de_lst (da_nil)))
 (ds_cons (ds_for [3,4] (di_range (de_int) z_range) (dg_v 3)
 (ds_cons (ds_set 4 (de_mod (de_fdiv (de_var 1) (de_int)) (de_int)))
 (ds_cons (ds_if (dt_c (dc_eq (de_mod (de_var 1) (de_int)) (de_int)))
 (ds_one (ds_set 4 (de_mod (de_fdiv (de_var 1) (de_int)) (de_int))))
 (ds_nil))
 (ds_cons (ds_if (dt_chain (dw_and (dt_c (dc_eq (de_mod (de_var 1) (de_int)) (de_int))) (dw_and1 (dt_c (dc_eq (de_mod (de_var 0) (de_int)) (de_int))))))
 (ds_one (ds_set 4 (de_mod (de_fdiv (de_var 0) (de_add (de_var 3) (de_int))) (de_add (de_pow (de_int) (de_int)) (de_int)))))
 (ds_nil))
 (ds_cons (ds_app 2 (de_var 4))
 (ds_one (ds_set 1 (de_call c__law_next (da_cons (de_var 1) (da_nil)) (hAs:=al_cons al_nil)))))))))
 (ds_one (ds_ret (de_tuple (de_var 2) z_tuple))))))
abbrev s__law_eye:Stmt:=topS 28
theorem sc__law_eye:FnScope ["elder","left","seed","most","many","k"] ["elder","left","seed","most"] (defScope s__law_eye):=⟨rfl,rfl,rfl,by decide +kernel,rfl,by decide +kernel,by decide +kernel⟩
theorem ok__law_eye {C:Cn} {ad:Addr} {fd:FuncData} (F:Fun C.K "_law_eye" "_law_eye" s__law_eye ad fd) (hm:C.mg "_law_eye" = some (.ref ad)) (hb:Binds C.K fd ["elder","left","seed","most"] []) (z_max:C.mg "max" = none) (z_min:C.mg "min" = none) (z_len:C.mg "len" = none) (z_range:C.mg "range" = none) (c__law_word:Cal C "_law_word" 2 1 d_law_word_v1):Cal C "_law_eye" 4 2 d_law_eye :=
 fn_ok F sc__law_eye rfl rfl hm hb
 (ds_cons (ds_set 4 (de_max2 (de_int) (de_min2 (de_mod (de_fdiv (de_var 1) (de_int)) (de_int)) (de_sub (de_var 3) (de_len (de_var 0) z_len)) z_min) z_max))
 (ds_one (ds_ret (de_add (de_lc (own:=[("k",5)]) (di_range (de_var 4) z_range) (by decide +kernel) (dg_v 5) (df_nil) (de_call c__law_word (da_cons (de_var 2) (da_cons (de_mod (de_add (de_fdiv (de_var 1) (de_int)) (de_mul2 (de_mul2 (de_int) (de_var 5)) (de_var 5))) (de_int)) (da_nil))) (hAs:=al_cons (al_cons al_nil)))) (de_lst (da_cons (de_idx (de_var 0) (de_neg (de_int))) (da_nil)))))))
abbrev s__law_slip:Stmt:=topS 29
theorem sc__law_slip:FnScope ["elder","copy","steps","left","words","word","other","way"] ["elder","copy","steps","left","words"] (defScope s__law_slip):=⟨rfl,rfl,rfl,by decide +kernel,rfl,by decide +kernel,by decide +kernel⟩
theorem ok__law_slip {C:Cn} {ad:Addr} {fd:FuncData} (F:Fun C.K "_law_slip" "_law_slip" s__law_slip ad fd) (hm:C.mg "_law_slip" = some (.ref ad)) (hb:Binds C.K fd ["elder","copy","steps","left","words"] []):CalM C "_law_slip" 1 [.ow 1,.ow 1,.ow 1,.fz,.fz] d_law_slip :=
 fnM_ok (ts:=[.ow 1,.ow 1,.ow 1,.fz,.fz]) (keep:=[0,1,2]) F sc__law_slip rfl rfl hm hb
 (dst_of (dsk_cons (dsk_set 5 (by decide) (de_idx (de_var 4) (de_int))) (dsk_cons (dsk_set 6 (by decide) (de_idx (de_var 4) (de_int))) (dsk_cons (dsk_set 7 (by decide) (de_mod (de_var 3) (de_int))) (dsk_one (dsk_if (dt_chain (dw_and (dt_c (dc_eq (de_var 7) (de_int))) (dw_and1 (dt_c (dc_ne (de_var 5) (de_var 6)))))) (dsk_cons (dsk_app 0 (de_var 5)) (dsk_cons (dsk_app 1 (de_var 6)) (dsk_one (dsk_app 2 (de_tup (da_cons (de_str [116,117,114,110]) (da_cons (de_var 6) (da_nil)))))))) (dsk_one (dsk_if (dt_c (dc_eq (de_var 7) (de_int))) (dsk_cons (dsk_app 0 (de_var 5)) (dsk_one (dsk_app 2 (de_tup (da_cons (de_str [108,111,115,101]) (da_nil)))))) (dsk_one (dsk_if (dt_c (dc_eq (de_var 7) (de_int))) (dsk_cons (dsk_app 1 (de_var 5)) (dsk_one (dsk_app 2 (de_tup (da_cons (de_str [97,100,100]) (da_cons (de_var 5) (da_nil))))))) (dsk_one (dsk_if (dt_chain (dw_and (dt_c (dc_eq (de_var 7) (de_int))) (dw_and1 (dt_c (dc_ne (de_var 1) (de_lst (da_nil))))))) (dsk_cons (dsk_app 1 (de_idx (de_var 1) (de_neg (de_int)))) (dsk_one (dsk_app 2 (de_tup (da_cons (de_str [116,119,105,99,101]) (da_nil)))))) (dsk_one (dsk_if (dt_chain (dw_and (dt_c (dc_eq (de_var 7) (de_int))) (dw_and1 (dt_c (dc_ne (de_var 5) (de_var 6)))))) (dsk_cons (dsk_ext 0 (de_lst (da_cons (de_var 5) (da_cons (de_var 6) (da_nil))))) (dsk_cons (dsk_ext 1 (de_lst (da_cons (de_var 6) (da_cons (de_var 5) (da_nil))))) (dsk_one (dsk_app 2 (de_tup (da_cons (de_str [115,119,97,112]) (da_nil))))))) (dsk_cons (dsk_app 0 (de_var 5)) (dsk_cons (dsk_app 1 (de_var 5)) (dsk_one (dsk_app 2 (de_tup (da_cons (de_str [107,101,101,112]) (da_nil))))))))))))))))))))) (by intro i h; rcases i with _ | _ | _ | _ | _ | i <;> simp at h ⊢)
abbrev s__law_pair:Stmt:=topS 30
theorem sc__law_pair:FnScope ["cells","seed","most","elder","copy","steps","cell","left","lost","words"] ["cells","seed","most"] (defScope s__law_pair):=⟨rfl,rfl,rfl,by decide +kernel,rfl,by decide +kernel,by decide +kernel⟩
theorem ok__law_pair {C:Cn} {ad:Addr} {fd:FuncData} (F:Fun C.K "_law_pair" "_law_pair" s__law_pair ad fd) (hm:C.mg "_law_pair" = some (.ref ad)) (hb:Binds C.K fd ["cells","seed","most"] []) (z_len:C.mg "len" = none) (z_tuple:C.mg "tuple" = none) (c__law_stir:Cal C "_law_stir" 1 1 d_law_stir) (c__law_eye:Cal C "_law_eye" 4 2 d_law_eye) (c__law_word:Cal C "_law_word" 2 1 d_law_word_v1) (c__law_slip:CalM C "_law_slip" 1 [.ow 1,.ow 1,.ow 1,.fz,.fz] d_law_slip):Cal C "_law_pair" 3 3 d_law_pair_v2 :=
 fn_ok F sc__law_pair rfl rfl hm hb
 (ds_cons (ds_setO 3 (de_lst (da_nil)))
 (ds_cons (ds_setO 4 (de_lst (da_nil)))
 (ds_cons (ds_setO 5 (de_lst (da_nil)))
 (ds_cons (ds_for [6,7,8,9] (di_seq (de_var 0)) (dg_v 6)
 (ds_cons (ds_set 7 (de_call c__law_stir (da_cons (de_var 6) (da_nil)) (hAs:=al_cons al_nil)))
 (ds_one (ds_if (dt_chain (dw_and (dt_c (dc_eq (de_mod (de_var 7) (de_int)) (de_int))) (dw_and1 (dt_c (dc_ne (de_var 3) (de_lst (da_nil)))))))
 (ds_cons (ds_set 8 (de_call c__law_eye (da_cons (de_var 3) (da_cons (de_var 7) (da_cons (de_var 1) (da_cons (de_var 2) (da_nil))))) (hAs:=al_cons (al_cons (al_cons (al_cons al_nil))))))
 (ds_cons (ds_ext 3 (de_var 8))
 (ds_one (ds_app 5 (de_tup (da_cons (de_str [115,107,105,112]) (da_cons (de_len (de_var 8) z_len) (da_nil))))))))
 (ds_cons (ds_set 9 (de_lst (da_cons (de_call c__law_word (da_cons (de_var 1) (da_cons (de_mod (de_fdiv (de_var 7) (de_int)) (de_int)) (da_nil))) (hAs:=al_cons (al_cons al_nil))) (da_cons (de_call c__law_word (da_cons (de_var 1) (da_cons (de_mod (de_fdiv (de_var 7) (de_int)) (de_int)) (da_nil))) (hAs:=al_cons (al_cons al_nil))) (da_nil)))))
 (ds_one (ds_callM (js:=[(3,.ow 1),(4,.ow 1),(5,.ow 1),(7,.fz),(9,.fz)]) c__law_slip (an_cons (an_cons (an_cons (an_cons (an_cons (an_nil)))))))))))))
 (ds_one (ds_ret (de_tup (da_cons (de_tuple (de_var 3) z_tuple) (da_cons (de_tuple (de_var 4) z_tuple) (da_cons (de_tuple (de_var 5) z_tuple) (da_nil)))))))))))
abbrev s__law_pairs:Stmt:=topS 31
theorem sc__law_pairs:FnScope ["script","many","seed","cells","rows","k","pair","cut"] ["script","many"] (defScope s__law_pairs):=⟨rfl,rfl,rfl,by decide +kernel,rfl,by decide +kernel,by decide +kernel⟩
theorem ok__law_pairs {C:Cn} {ad:Addr} {fd:FuncData} (F:Fun C.K "_law_pairs" "_law_pairs" s__law_pairs ad fd) (hm:C.mg "_law_pairs" = some (.ref ad)) (hb:Binds C.K fd ["script","many"] []) (z_len:C.mg "len" = none) (z_range:C.mg "range" = none) (c__law_cell_at:Cal C "_law_cell_at" 2 1 d_law_cell_at) (c__law_stir:Cal C "_law_stir" 1 1 d_law_stir) (c__law_pair:Cal C "_law_pair" 3 3 d_law_pair_v2):Cal C "_law_pairs" 2 4 d_law_pairs :=
 fn_ok F sc__law_pairs rfl rfl hm hb
 (ds_cons (ds_set 2 (de_call c__law_stir (da_cons (de_call c__law_cell_at (da_cons (de_var 0) (da_cons (de_int) (da_nil))) (hAs:=al_cons (al_cons al_nil))) (da_nil)) (hAs:=al_cons al_nil)))
 (ds_cons (ds_set 3 (de_slice (de_var 0) (do_some (de_int)) (do_none)))
 (ds_cons (ds_setO 4 (de_lst (da_cons (de_tup (da_cons (de_tup (da_nil)) (da_cons (de_tup (da_nil)) (da_nil)))) (da_nil))))
 (ds_cons (ds_for [5,6] (di_range3 (de_int) (de_len (de_var 3) z_len) (de_var 1) z_range) (dg_v 5)
 (ds_cons (ds_set 6 (de_call c__law_pair (da_cons (de_slice (de_var 3) (do_some (de_var 5)) (do_some (de_add (de_var 5) (de_var 1)))) (da_cons (de_var 2) (da_cons (de_int) (da_nil)))) (hAs:=al_cons (al_cons (al_cons al_nil)))))
 (ds_cons (ds_app 4 (de_tup (da_cons (de_slice (de_idx (de_var 6) (de_int)) (do_none) (do_some (de_int))) (da_cons (de_slice (de_idx (de_var 6) (de_int)) (do_none) (do_some (de_int))) (da_nil)))))
 (ds_one (ds_if (dt_c (dc_eq (de_mod (de_idx (de_var 3) (de_var 5)) (de_int)) (de_int)))
 (ds_one (ds_setIx 4 (de_neg (de_int)) (de_tup (da_cons (de_slice (de_idx (de_var 6) (de_int)) (do_none) (do_some (de_int))) (da_cons (de_slice (de_revS (de_idx (de_var 6) (de_int))) (do_none) (do_some (de_int))) (da_nil))))))
 (ds_nil))))))
 (ds_cons (ds_if (dt_c (dc_eq (de_mod (de_call c__law_cell_at (da_cons (de_var 0) (da_cons (de_int) (da_nil))) (hAs:=al_cons (al_cons al_nil))) (de_int)) (de_int)))
 (ds_cons (ds_set 6 (de_call c__law_pair (da_cons (de_slice (de_var 3) (do_none) (do_some (de_int))) (da_cons (de_var 2) (da_cons (de_int) (da_nil)))) (hAs:=al_cons (al_cons (al_cons al_nil)))))
 (ds_cons (ds_set 7 (de_idx (de_lst (da_cons (de_tup (da_cons (de_int) (da_cons (de_int) (da_nil)))) (da_cons (de_tup (da_cons (de_int) (da_cons (de_int) (da_nil)))) (da_nil)))) (de_mod (de_fdiv (de_call c__law_cell_at (da_cons (de_var 0) (da_cons (de_int) (da_nil))) (hAs:=al_cons (al_cons al_nil))) (de_int)) (de_int))))
 (ds_one (ds_app 4 (de_tup (da_cons (de_slice (de_idx (de_var 6) (de_int)) (do_none) (do_some (de_idx (de_var 7) (de_int)))) (da_cons (de_slice (de_idx (de_var 6) (de_int)) (do_none) (do_some (de_idx (de_var 7) (de_int)))) (da_nil))))))))
 (ds_nil))
 (ds_one (ds_retV 4)))))))
abbrev s__law_steps:Stmt:=topS 32
theorem sc__law_steps:FnScope ["elder","copy","i","j","due","word","wanted","two","k"] ["elder","copy","i","j"] (defScope s__law_steps):=⟨rfl,rfl,rfl,by decide +kernel,rfl,by decide +kernel,by decide +kernel⟩
theorem ok__law_steps {C:Cn} {ad:Addr} {fd:FuncData} (F:Fun C.K "_law_steps" "_law_steps" s__law_steps ad fd) (hm:C.mg "_law_steps" = some (.ref ad)) (hb:Binds C.K fd ["elder","copy","i","j"] []) (z_len:C.mg "len" = none) (z_range:C.mg "range" = none):Cal C "_law_steps" 4 1 d_law_steps_v1 :=
 fn_ok F sc__law_steps rfl rfl hm hb
 (ds_cons (ds_setO 4 (de_lst (da_nil)))
 (ds_cons (ds_set 5 (de_slice (de_var 0) (do_some (de_var 2)) (do_some (de_add (de_var 2) (de_int)))))
 (ds_cons (ds_set 6 (de_slice (de_var 1) (do_some (de_var 3)) (do_some (de_add (de_var 3) (de_int)))))
 (ds_cons (ds_if (dt_chain (dw_and (dt_c (dc_ne (de_var 5) (de_tup (da_nil)))) (dw_and1 (dt_c (dc_eq (de_var 6) (de_var 5))))))
 (ds_one (ds_app 4 (de_tup (da_cons (de_str [107,101,101,112]) (da_nil)))))
 (ds_one (ds_if (dt_chain (dw_and (dt_c (dc_ne (de_var 5) (de_tup (da_nil)))) (dw_and1 (dt_c (dc_ne (de_var 6) (de_tup (da_nil)))))))
 (ds_one (ds_app 4 (de_tup (da_cons (de_str [116,117,114,110]) (da_cons (de_idx (de_var 6) (de_int)) (da_nil))))))
 (ds_nil))))
 (ds_cons (ds_if (dt_c (dc_ne (de_var 5) (de_tup (da_nil))))
 (ds_one (ds_app 4 (de_tup (da_cons (de_str [108,111,115,101]) (da_nil)))))
 (ds_nil))
 (ds_cons (ds_if (dt_c (dc_ne (de_var 6) (de_tup (da_nil))))
 (ds_one (ds_app 4 (de_tup (da_cons (de_str [97,100,100]) (da_cons (de_idx (de_var 6) (de_int)) (da_nil))))))
 (ds_nil))
 (ds_cons (ds_if (dt_chain (dw_and (dt_c (dc_ne (de_var 6) (de_tup (da_nil)))) (dw_and1 (dt_c (dc_eq (de_slice (de_slice (de_var 1) (do_none) (do_some (de_var 3))) (do_some (de_neg (de_int))) (do_none)) (de_var 6))))))
 (ds_one (ds_app 4 (de_tup (da_cons (de_str [116,119,105,99,101]) (da_nil)))))
 (ds_nil))
 (ds_cons (ds_set 7 (de_slice (de_var 0) (do_some (de_var 2)) (do_some (de_add (de_var 2) (de_int)))))
 (ds_cons (ds_if (dt_chain (dw_and (dt_c (dc_eq (de_len (de_var 7) z_len) (de_int))) (dw_and (dt_c (dc_ne (de_idx (de_var 7) (de_int)) (de_idx (de_var 7) (de_int)))) (dw_and1 (dt_c (dc_eq (de_slice (de_var 1) (do_some (de_var 3)) (do_some (de_add (de_var 3) (de_int)))) (de_revS (de_var 7))))))))
 (ds_one (ds_app 4 (de_tup (da_cons (de_str [115,119,97,112]) (da_nil)))))
 (ds_nil))
 (ds_cons (ds_for [8] (di_range2 (de_int) (de_add (de_sub (de_len (de_var 0) z_len) (de_var 2)) (de_int)) z_range) (dg_v 8)
 (ds_one (ds_if (dt_chain (dw_and (dt_c (dc_gt (de_var 2) (de_int))) (dw_and1 (dt_c (dc_eq (de_idx (de_var 0) (de_sub (de_var 2) (de_int))) (de_idx (de_var 0) (de_sub (de_add (de_var 2) (de_var 8)) (de_int))))))))
 (ds_one (ds_app 4 (de_tup (da_cons (de_str [115,107,105,112]) (da_cons (de_var 8) (da_nil))))))
 (ds_nil))))
 (ds_one (ds_retV 4))))))))))))
abbrev s__law_alike:Stmt:=topS 33
theorem sc__law_alike:FnScope ["one","two","k"] ["one","two"] (defScope s__law_alike):=⟨rfl,rfl,rfl,by decide +kernel,rfl,by decide +kernel,by decide +kernel⟩
theorem ok__law_alike {C:Cn} {ad:Addr} {fd:FuncData} (F:Fun C.K "_law_alike" "_law_alike" s__law_alike ad fd) (hm:C.mg "_law_alike" = some (.ref ad)) (hb:Binds C.K fd ["one","two"] []) (z_len:C.mg "len" = none) (z_range:C.mg "range" = none):Cal C "_law_alike" 2 1 d_law_alike_v4 :=
 fn_ok F sc__law_alike rfl rfl hm hb
 (ds_one (ds_ret (de_and (de_c (dc_eq (de_len (de_var 0) z_len) (de_len (de_var 1) z_len))) (de_one (de_c (dc_eq (de_len (de_lc (own:=[("k",2)]) (di_range (de_len (de_var 0) z_len) z_range) (by decide +kernel) (dg_v 2) (df_one (dt_c (dc_ne (de_idx (de_var 0) (de_var 2)) (de_idx (de_var 1) (de_var 2))))) (de_var 2)) z_len) (de_int)))))))
abbrev s__law_price:Stmt:=topS 34
theorem sc__law_price:FnScope ["elder","i","step","prices"] ["elder","i","step","prices"] (defScope s__law_price):=⟨rfl,rfl,rfl,by decide +kernel,rfl,by decide +kernel,by decide +kernel⟩
theorem ok__law_price {C:Cn} {ad:Addr} {fd:FuncData} (F:Fun C.K "_law_price" "_law_price" s__law_price ad fd) (hm:C.mg "_law_price" = some (.ref ad)) (hb:Binds C.K fd ["elder","i","step","prices"] []) (z_int:C.mg "int" = none) (c__law_alike:Cal C "_law_alike" 2 1 d_law_alike_v4):Cal C "_law_price" 4 2 d_law_price_v1 :=
 fn_ok F sc__law_price rfl rfl hm hb
 (ds_cons (ds_if (dt_c (dc_eq (de_idx (de_var 2) (de_int)) (de_str [107,101,101,112])))
 (ds_one (ds_ret (de_int)))
 (ds_nil))
 (ds_cons (ds_if (dt_c (dc_eq (de_idx (de_var 2) (de_int)) (de_str [116,117,114,110])))
 (ds_one (ds_ret (de_idx (de_var 3) (de_sub (de_int) (de_int1 (de_call c__law_alike (da_cons (de_idx (de_var 0) (de_var 1)) (da_cons (de_idx (de_var 2) (de_int)) (da_nil))) (hAs:=al_cons (al_cons al_nil))) z_int)))))
 (ds_nil))
 (ds_one (ds_ret (de_idx (de_var 3) (de_add (de_int) (de_indexQ (de_lst (da_cons (de_str [108,111,115,101]) (da_cons (de_str [97,100,100]) (da_cons (de_str [116,119,105,99,101]) (da_cons (de_str [115,119,97,112]) (da_cons (de_str [115,107,105,112]) (da_nil))))))) (de_idx (de_var 2) (de_int)))))))))
abbrev s__law_end:Stmt:=topS 35
theorem sc__law_end:FnScope ["i","j","step","moves"] ["i","j","step"] (defScope s__law_end):=⟨rfl,rfl,rfl,by decide +kernel,rfl,by decide +kernel,by decide +kernel⟩
theorem ok__law_end {C:Cn} {ad:Addr} {fd:FuncData} (F:Fun C.K "_law_end" "_law_end" s__law_end ad fd) (hm:C.mg "_law_end" = some (.ref ad)) (hb:Binds C.K fd ["i","j","step"] []):Cal C "_law_end" 3 1 d_law_end :=
 fn_ok F sc__law_end rfl rfl hm hb
 (ds_cons (ds_set 3 (de_dicN [[107,101,101,112],[116,117,114,110],[108,111,115,101],[97,100,100],[116,119,105,99,101],[115,119,97,112]] (dp_cons' [107,101,101,112] (de_tup (da_cons (de_int) (da_cons (de_int) (da_nil)))) (dp_cons' [116,117,114,110] (de_tup (da_cons (de_int) (da_cons (de_int) (da_nil)))) (dp_cons' [108,111,115,101] (de_tup (da_cons (de_int) (da_cons (de_int) (da_nil)))) (dp_cons' [97,100,100] (de_tup (da_cons (de_int) (da_cons (de_int) (da_nil)))) (dp_cons' [116,119,105,99,101] (de_tup (da_cons (de_int) (da_cons (de_int) (da_nil)))) (dp_cons' [115,119,97,112] (de_tup (da_cons (de_int) (da_cons (de_int) (da_nil)))) (dp_nil')))))))))
 (ds_cons (ds_if (dt_c (dc_eq (de_idx (de_var 2) (de_int)) (de_str [115,107,105,112])))
 (ds_one (ds_ret (de_tup (da_cons (de_add (de_var 0) (de_idx (de_var 2) (de_int))) (da_cons (de_var 1) (da_nil))))))
 (ds_nil))
 (ds_one (ds_ret (de_tup (da_cons (de_add (de_var 0) (de_idx (de_didx (de_var 3) (de_idx (de_var 2) (de_int))) (de_int))) (da_cons (de_add (de_var 1) (de_idx (de_didx (de_var 3) (de_idx (de_var 2) (de_int))) (de_int))) (da_nil))))))))
abbrev s__law_arms:Stmt:=topS 36
theorem sc__law_arms:FnScope ["elder","copy","prices","i","j","arms","step"] ["elder","copy","prices","i","j"] (defScope s__law_arms):=⟨rfl,rfl,rfl,by decide +kernel,rfl,by decide +kernel,by decide +kernel⟩
theorem ok__law_arms {C:Cn} {ad:Addr} {fd:FuncData} (F:Fun C.K "_law_arms" "_law_arms" s__law_arms ad fd) (hm:C.mg "_law_arms" = some (.ref ad)) (hb:Binds C.K fd ["elder","copy","prices","i","j"] []) (c__law_steps:Cal C "_law_steps" 4 1 d_law_steps_v1) (c__law_price:Cal C "_law_price" 4 2 d_law_price_v1) (c__law_end:Cal C "_law_end" 3 1 d_law_end):Cal C "_law_arms" 5 3 d_law_arms :=
 fn_ok F sc__law_arms rfl rfl hm hb
 (ds_cons (ds_setO 5 (de_lst (da_nil)))
 (ds_cons (ds_for [6] (di_seq (de_call c__law_steps (da_cons (de_var 0) (da_cons (de_var 1) (da_cons (de_var 3) (da_cons (de_var 4) (da_nil))))) (hAs:=al_cons (al_cons (al_cons (al_cons al_nil)))))) (dg_v 6)
 (ds_one (ds_app 5 (de_tup (da_cons (de_var 6) (da_cons (de_call c__law_end (da_cons (de_var 3) (da_cons (de_var 4) (da_cons (de_var 6) (da_nil)))) (hAs:=al_cons (al_cons (al_cons al_nil)))) (da_cons (de_call c__law_price (da_cons (de_var 0) (da_cons (de_var 3) (da_cons (de_var 6) (da_cons (de_var 2) (da_nil))))) (hAs:=al_cons (al_cons (al_cons (al_cons al_nil))))) (da_nil))))))))
 (ds_one (ds_retV 5))))
abbrev s__law_knots:Stmt:=topS 37
theorem sc__law_knots:FnScope ["elder","copy","found","i","j"] ["elder","copy"] (defScope s__law_knots):=⟨rfl,rfl,rfl,by decide +kernel,rfl,by decide +kernel,by decide +kernel⟩
theorem ok__law_knots {C:Cn} {ad:Addr} {fd:FuncData} (F:Fun C.K "_law_knots" "_law_knots" s__law_knots ad fd) (hm:C.mg "_law_knots" = some (.ref ad)) (hb:Binds C.K fd ["elder","copy"] []) (z_len:C.mg "len" = none) (z_range:C.mg "range" = none):Cal C "_law_knots" 2 1 d_law_knots :=
 fn_ok F sc__law_knots rfl rfl hm hb
 (ds_cons (ds_setO 2 (de_lst (da_nil)))
 (ds_cons (ds_for [3,4] (di_range (de_add (de_len (de_var 0) z_len) (de_int)) z_range) (dg_v 3)
 (ds_one (ds_for [4] (di_range (de_add (de_len (de_var 1) z_len) (de_int)) z_range) (dg_v 4)
 (ds_one (ds_app 2 (de_tup (da_cons (de_var 3) (da_cons (de_var 4) (da_nil)))))))))
 (ds_one (ds_retV 2))))
abbrev s__law_all_rows:Stmt:=topS 38
theorem sc__law_all_rows:FnScope ["elder","copy","prices","rows","knot","step","end","price","kept","row"] ["elder","copy","prices"] (defScope s__law_all_rows):=⟨rfl,rfl,rfl,by decide +kernel,rfl,by decide +kernel,by decide +kernel⟩
theorem ok__law_all_rows {C:Cn} {ad:Addr} {fd:FuncData} (F:Fun C.K "_law_all_rows" "_law_all_rows" s__law_all_rows ad fd) (hm:C.mg "_law_all_rows" = some (.ref ad)) (hb:Binds C.K fd ["elder","copy","prices"] []) (z_len:C.mg "len" = none) (z_reversed:C.mg "reversed" = none) (c__law_knots:Cal C "_law_knots" 2 1 d_law_knots) (c__law_arms:Cal C "_law_arms" 5 3 d_law_arms):Cal C "_law_all_rows" 3 4 d_law_all_rows :=
 fn_ok F sc__law_all_rows rfl rfl hm hb
 (ds_cons (ds_setO 3 (de_dic1L true (de_tup (da_cons (de_len (de_var 0) z_len) (da_cons (de_len (de_var 1) z_len) (da_nil)))) (de_lst (da_cons (de_tup (da_cons (de_int) (da_cons (de_tup (da_nil)) (da_cons (de_tup (da_nil)) (da_nil))))) (da_nil)))))
 (ds_cons (ds_for [4,5,6,7,8,9] (di_rev (de_call c__law_knots (da_cons (de_var 0) (da_cons (de_var 1) (da_nil))) (hAs:=al_cons (al_cons al_nil))) z_reversed) (dg_v 4)
 (ds_cons (ds_if (dt_c (dc_dnotIn (de_var 4) (de_var 3)))
 (ds_one (ds_dnew 3 (de_var 4)))
 (ds_nil))
 (ds_one (ds_for [5,6,7,8,9] (di_seq (de_call c__law_arms (da_cons (de_var 0) (da_cons (de_var 1) (da_cons (de_var 2) (da_cons (de_idx (de_var 4) (de_int)) (da_cons (de_idx (de_var 4) (de_int)) (da_nil)))))) (hAs:=al_cons (al_cons (al_cons (al_cons (al_cons al_nil))))))) (dg_t (dgs_cons (dg_v 5) (dgs_cons (dg_v 6) (dgs_cons (dg_v 7) (dgs_nil)))))
 (ds_cons (ds_set 8 (de_tup (da_nil)))
 (ds_cons (ds_if (dt_c (dc_eq (de_idx (de_var 5) (de_int)) (de_str [107,101,101,112])))
 (ds_one (ds_set 8 (de_tup (da_cons (de_var 4) (da_nil)))))
 (ds_nil))
 (ds_one (ds_forApp 3 [9] (de_var 6) (dg_v 9) (de_var 4) (de_tup (da_cons (de_add (de_var 7) (de_idx (de_var 9) (de_int))) (da_cons (de_add (de_tup (da_cons (de_var 5) (da_nil))) (de_idx (de_var 9) (de_int))) (da_cons (de_add (de_var 8) (de_idx (de_var 9) (de_int))) (da_nil)))))))))))))
 (ds_frz 3 (ds_one (ds_ret (de_didx (de_var 3) (de_tup (da_cons (de_int) (da_cons (de_int) (da_nil))))))))))
abbrev s__law_in_all:Stmt:=topS 39
theorem sc__law_in_all:FnScope ["rows","pair","row"] ["rows"] (defScope s__law_in_all):=⟨rfl,rfl,rfl,by decide +kernel,rfl,by decide +kernel,by decide +kernel⟩
theorem ok__law_in_all {C:Cn} {ad:Addr} {fd:FuncData} (F:Fun C.K "_law_in_all" "_law_in_all" s__law_in_all ad fd) (hm:C.mg "_law_in_all" = some (.ref ad)) (hb:Binds C.K fd ["rows"] []) (z_tuple:C.mg "tuple" = none) (z_len:C.mg "len" = none):Cal C "_law_in_all" 1 1 d_law_in_all :=
 fn_ok F sc__law_in_all rfl rfl hm hb
 (ds_one (ds_ret (de_tuple (de_lc (own:=[("pair",1)]) (di_seq (de_idx (de_idx (de_var 0) (de_int)) (de_int))) (by decide +kernel) (dg_v 1) (df_one (dt_c (dc_eq (de_len (de_lc (own:=[("row",2)]) (di_seq (de_var 0)) (by decide +kernel) (dg_v 2) (df_one (dt_c (dc_inTD (de_var 1) (de_idx (de_var 2) (de_int))))) (de_var 2)) z_len) (de_len (de_var 0) z_len)))) (de_var 1)) z_tuple)))
abbrev s_law:Stmt:=topS 40
theorem sc_law:FnScope ["script","prices","elder","copy","rows","least","good","found","row"] ["script"] (defScope s_law):=⟨rfl,rfl,rfl,by decide +kernel,rfl,by decide +kernel,by decide +kernel⟩
theorem ok_law {C:Cn} {ad:Addr} {fd:FuncData} (F:Fun C.K "law" "law" s_law ad fd) (hm:C.mg "law" = some (.ref ad)) (hb:Binds C.K fd ["script"] []) (z_min:C.mg "min" = none) (z_len:C.mg "len" = none) (z_tuple:C.mg "tuple" = none) (z_sorted:C.mg "sorted" = none) (c__law_cell_at:Cal C "_law_cell_at" 2 1 d_law_cell_at) (c__law_prices:Cal C "_law_prices" 1 2 d_law_prices) (c__law_pairs:Cal C "_law_pairs" 2 4 d_law_pairs) (c__law_all_rows:Cal C "_law_all_rows" 3 4 d_law_all_rows) (c_least_slips:Cal C "least_slips" 3 5 d_least_slips) (c__law_same:Cal C "_law_same" 2 9 (d_law_same 8)) (c_cheapest_many:Cal C "cheapest_many" 3 6 d_cheapest_many) (c__law_in_all:Cal C "_law_in_all" 1 1 d_law_in_all) (c_sure_pairs:Cal C "sure_pairs" 3 6 d_sure_pairs):FnOk C.P C.w C.K C.mg C.base (L2.CX C.P C.w) 10 ad fd ["script"] (spOf C 1 d_law_v64) :=
 fn_okF F sc_law rfl rfl hm hb
 (ds_cons (ds_set 1 (de_call c__law_prices (da_cons (de_call c__law_cell_at (da_cons (de_var 0) (da_cons (de_int) (da_nil))) (hAs:=al_cons (al_cons al_nil))) (da_nil)) (hAs:=al_cons al_nil)))
 (ds_cons (ds_for [2,3,4,5,6,7] (di_seq (de_call c__law_pairs (da_cons (de_var 0) (da_cons (de_int) (da_nil))) (hAs:=al_cons (al_cons al_nil)))) (dg_t (dgs_cons (dg_v 2) (dgs_cons (dg_v 3) (dgs_nil))))
 (ds_cons (ds_set 2 (de_slice (de_var 2) (do_none) (do_some (de_int))))
 (ds_cons (ds_set 3 (de_slice (de_var 3) (do_none) (do_some (de_int))))
 (ds_cons (ds_set 4 (de_call c__law_all_rows (da_cons (de_var 2) (da_cons (de_var 3) (da_cons (de_var 1) (da_nil)))) (hAs:=al_cons (al_cons (al_cons al_nil)))))
 (ds_cons (ds_set 5 (de_minD (de_lc (own:=[("row",8)]) (di_seq (de_var 4)) (by decide +kernel) (dg_v 8) (df_nil) (de_idx (de_var 8) (de_int))) z_min))
 (ds_cons (ds_setLC 6 false (own:=[("row",8)]) (di_seq (de_var 4)) (by decide +kernel) (dg_v 8) (df_one (dt_c (dc_eq (de_idx (de_var 8) (de_int)) (de_var 5)))) (de_var 8))
 (ds_cons (ds_set 7 (de_call c_least_slips (da_cons (de_var 2) (da_cons (de_var 3) (da_cons (de_var 1) (da_nil)))) (hAs:=al_cons (al_cons (al_cons al_nil)))))
 (ds_cons (ds_if (dt_not (dt_val (de_call c__law_same (da_cons (de_slice (de_var 7) (do_none) (do_some (de_int))) (da_cons (de_tup (da_cons (de_var 5) (da_cons (de_idx (de_idx (de_var 6) (de_int)) (de_int)) (da_nil)))) (da_nil))) (hAs:=al_cons (al_cons al_nil)))))
 (ds_one (ds_ret (de_bl)))
 (ds_nil))
 (ds_cons (ds_if (dt_not (dt_val (de_call c__law_same (da_cons (de_call c_cheapest_many (da_cons (de_var 2) (da_cons (de_var 3) (da_cons (de_var 1) (da_nil)))) (hAs:=al_cons (al_cons (al_cons al_nil)))) (da_cons (de_len (de_var 6) z_len) (da_nil))) (hAs:=al_cons (al_cons al_nil)))))
 (ds_one (ds_ret (de_bl)))
 (ds_nil))
 (ds_one (ds_if (dt_not (dt_val (de_call c__law_same (da_cons (de_call c_sure_pairs (da_cons (de_var 2) (da_cons (de_var 3) (da_cons (de_var 1) (da_nil)))) (hAs:=al_cons (al_cons (al_cons al_nil)))) (da_cons (de_tuple (de_sortedT (de_call c__law_in_all (da_cons (de_var 6) (da_nil)) (hAs:=al_cons al_nil)) z_sorted) z_tuple) (da_nil))) (hAs:=al_cons (al_cons al_nil)))))
 (ds_one (ds_ret (de_bl)))
 (ds_nil))))))))))))
 (ds_one (ds_ret (de_bl)))))
end VP
end
section
set_option linter.all false
set_option maxHeartbeats 1000000
set_option maxRecDepth 10000
namespace Vm
end Vm
end
section
set_option linter.all false
set_option maxHeartbeats 1000000
set_option maxRecDepth 10000
namespace Vm
def dicL{α:Type}(ks:List (List Nat))(vs:List α)(s:List Nat):Option α:=((ks.zip vs).find? fun kv=>decide (kv.1=s)).map (·.2)
def dicR{α:Type}(ks:List (List Nat))(vs:List α)(y:TV):Res α:=match y.2 with
 | .str s=>(match dicL ks vs s with
  | some x=>.ok x
  | none=>.bad)
 | _=>.bad
theorem dicL_map{α:Type}(ka:α→PV)(s:List Nat):∀ (ks:List (List Nat)) (vs:List α),dicAt ks (vs.map ka) s=(dicL ks vs s).map ka
 | [],vs=>by simp [dicAt,dicL]
 | k :: ks,[]=>by simp [dicAt,dicL]
 | k :: ks,v :: vs=>by
  have ih:=dicL_map ka s ks vs
  unfold dicAt dicL at ih ⊢
  rw [List.map_cons,List.zip_cons_cons,List.zip_cons_cons]
  by_cases h:k=s
  ·rw [List.find?_cons_of_pos (by simpa using h),List.find?_cons_of_pos (by simpa using h)]; rfl
  ·rw [List.find?_cons_of_neg (by simpa using h),List.find?_cons_of_neg (by simpa using h)]; exact ih
theorem gDispRet{α β:Type}{EP:En→Prop}{Post:Out→β→Prop}{Γ:En}{i:Nat}{ks:List (List Nat)}{as:EXs}{b:EX}{ka:α→PV}{E:Res (List α)}{B:Res TV}{K:α→Res β}(hE:RefG (List.map ka) ((as Γ).bind putVs) E)(hB:RefG id (b Γ) B)(q:∀ x,RG EP Post (.rt .fz (ka x) Γ) (K x))(hP:EP Γ)(hg:(Nat.ble (i+1) Γ.length && (Γ.get i).isNone)=true:=by rfl):RG EP Post (dDispRet i ks as b Γ) (E.bind fun l=>B.bind fun y=>(dicR ks l y).bind K):=by
 unfold dDispRet
 rw [if_pos hg]
 have flat:∀ f:List PV→Out,aft (as Γ) Γ (fun xs=>aft (putVs xs) Γ f)=aft ((as Γ).bind putVs) Γ f:=fun f=>by
  cases as Γ <;> rfl
 rw [flat]
 cases E with
 | bad=>exact trivial
 | exc c =>
  have h:(as Γ).bind putVs = .exc c:=hE
  rw [h]; exact ⟨Γ,rfl,hP⟩
 | ok l =>
  have h:(as Γ).bind putVs = .ok (l.map ka):=hE
  rw [h,after_ok,bind_ok]
  cases B with
  | bad=>exact trivial
  | exc c =>
   have h2:b Γ = .exc c:=hB
   rw [h2]; exact ⟨Γ,rfl,hP⟩
  | ok y =>
   have h2:b Γ = .ok y:=hB
   rw [h2,after_ok,bind_ok]
   obtain ⟨t,p⟩:=y
   cases p with
   | str s =>
    unfold dicR
    simp only
    rw [dicL_map]
    cases dicL ks l s with
    | none=>exact trivial
    | some x=>exact q x
   | _=>exact trivial
@[irreducible] def rng3P (i j c:Int):Res (List Int):=rng3R i j c
theorem iRng3P{a b c:EX}{Γ:En}{t u v:Tg}{x y z:Int}(ha:RefG (tv t kI) (a Γ) (.ok x))(hb:RefG (tv u kI) (b Γ) (.ok y))(hc:RefG (tv v kI) (c Γ) (.ok z)):RefG (itv true (tv .fz kI)) (jRange3 a b c Γ) (rng3P x y z):=by
 have h:=iRng3 ha hb hc
 rw [bind_ok,bind_ok,bind_ok] at h
 unfold rng3P
 exact h
theorem rng3P_ok{i j c:Int}(hc:0 < c)(hc2:c≤1000000000)(hi:0≤i)(hi2:i≤1000000000)(hj:0≤j)(hj2:j≤1000000000):rng3P i j c = .ok (stepI i j c):=by
 unfold rng3P
 exact if_pos ⟨hc,by omega,hi,by omega,hj,by omega⟩
end Vm
end
section
set_option linter.all false
set_option maxHeartbeats 1000000
set_option maxRecDepth 10000
namespace Vm
def placeR{α:Type}(l:List (List α))(n:Int):Res (Nat×List α):=match vIxN l.length n with
 | some k=>match l[k]? with
  | some m=>.ok (k,m)
  | none=>.bad
 | none=>.bad
section
variable {α β γ δ ι κ σ τ ρ:Type} {ka:α→PV} {kb:β→PV} {EP:En→Prop} {Γ:En} {e j k:EX} {t u w:Tg}
theorem partL_map(l:List (List α))(n:Int):partL (l.map (kL ka)) (.int n)=(match placeR l n with | .ok q=>some (q.1,q.2.map ka) | _=>none):=by
 unfold partL placeR
 simp only [List.length_map]
 cases vIxN l.length n with
 | none=>rfl
 | some k =>
  simp only [List.getElem?_map]
  cases l[k]? with
  | none=>rfl
  | some m=>rfl
theorem placeR_exc{l:List (List α)}{n:Int}{c:Nat}:placeR l n ≠ .exc c:=by
 unfold placeR
 cases vIxN l.length n with
 | none=>intro h; cases h
 | some k=>simp only; cases l[k]? <;> (intro h; cases h)
theorem rLMO{it:IX}{X:Res (List ι)}{ki:ι→TV}{fl:Bool}{own:List Nat}{pat:Pat}{E:ι→Res α}(hi:RefG (itv fl ki) (it Γ) X)
  (hb:∀ x,∃ Γ',bindP (wipeE Γ own) (ki x) pat = .ok Γ'∧RefG (tv (.ow 1) ka) (e Γ') (E x)) :
  RefG (tv (.ow 2) (kL ka)) (eLCO own it pat e Γ) (X.bind fun xs=>(noExc (mapR E xs)).bind szR):=by
 have go:∀ xs:List ι,RefG (fun l:List α=>l.map ka) (lcGoO (wipeE Γ own) pat e (xs.map ki)) (mapR E xs):=by
  intro xs
  induction xs with
  | nil=>exact rfl
  | cons x xs ih =>
   obtain ⟨Γ',h1,h2⟩:=hb x
   rw [List.map_cons,lcGoO,h1,bind_ok,mapR]
   refine h2.bind fun y=>?_
   exact ih.bind fun r=>rfl
 refine hi.bind fun xs=>?_
 refine (noExc_R (go xs)).bind fun l=>?_
 unfold szR
 by_cases h:l.length≤16777216
 ·rw [if_pos h,if_pos (by simpa using h)]; rfl
 ·rw [if_neg h]; exact trivial
theorem map_set{l:List (List α)}(n:Nat)(m:List α):(l.map (kL ka)).set n (.lst (m.map ka))=(l.set n m).map (kL ka):=by
 rw [List.map_set]; rfl
theorem pSetIx2(i:Nat){J:Res Int}{K:Res Int}{E:Res α}{l:List (List α)}(h:RefG (tv t ka) (e Γ) E)(hj:RefG (tv u kI) (j Γ) J)(hk:RefG (tv w kI) (k Γ) K)(hE:EP Γ)(hg:Γ.get i=some (.ow 2,kL (kL ka) l))(hp:∀ p,putV (t,p) = .ok p:=by intro _; rfl) :
  Prim EP (dSetIx2 i j k e) Γ (E.bind fun x=>J.bind fun n=>(placeR l n).bind fun q=>K.bind fun z=>(setR q.2 z x).bind fun m=>.ok (l.set q.1 m)) (fun l=>Γ.set i (some (.ow 2,kL (kL ka) l))):=by
 refine prim_of (EP:=EP) (d:=dSetIx2 i j k e) (F:=fun x=>aft (j Γ) Γ fun y=>match partL (l.map (kL ka)) y.2 with
  | some (n,m)=>aft (k Γ) Γ fun z=>aft (putV x) Γ fun p=>match z.2 with
   | .int a=>match vIxN m.length a with
    | some b=>.nx (Γ.set i (some (.ow 2,.lst ((l.map (kL ka)).set n (.lst (m.set b p))))))
    | none=>.bad
   | _=>.bad
  | none=>.bad) h hE ?_ fun x=>?_
 ·show (match Γ.get i with
   | some (.ow 2,.lst l)=>aft (e Γ) Γ fun x=>aft (j Γ) Γ fun y=>match partL l y.2 with
    | some (n,m)=>aft (k Γ) Γ fun z=>aft (putV x) Γ fun p=>match z.2 with
     | .int a=>match vIxN m.length a with
      | some b=>.nx (Γ.set i (some (.ow 2,.lst (l.set n (.lst (m.set b p))))))
      | none=>.bad
     | _=>.bad
    | none=>.bad
   | _=>.bad)=_
  rw [hg]; rfl
 ·cases J with
  | bad=>exact trivial
  | exc c =>
   have hj:j Γ = .exc c:=hj
   show RG EP _ (aft (j Γ) Γ _) _
   rw [hj]; exact ⟨Γ,rfl,hE⟩
  | ok n =>
   have hj:j Γ = .ok (u,.int n):=hj
   show RG EP _ (aft (j Γ) Γ _) _
   rw [hj,after_ok]
   show RG EP _ (match partL (l.map (kL ka)) (.int n) with
    | some (n,m)=>aft (k Γ) Γ fun z=>aft (putV (t,ka x)) Γ fun p=>match z.2 with
     | .int a=>match vIxN m.length a with
      | some b=>.nx (Γ.set i (some (.ow 2,.lst ((l.map (kL ka)).set n (.lst (m.set b p))))))
      | none=>.bad
     | _=>.bad
    | none=>.bad) _
   rw [partL_map,bind_ok]
   cases hq:placeR l n with
   | exc c=>exact (placeR_exc hq).elim
   | bad=>exact trivial
   | ok q =>
    simp only [bind_ok]
    cases K with
    | bad=>exact trivial
    | exc c =>
     have hk:k Γ = .exc c:=hk
     rw [hk]; exact ⟨Γ,rfl,hE⟩
    | ok z =>
     have hk:k Γ = .ok (w,.int z):=hk
     rw [hk,after_ok,hp,after_ok,bind_ok]
     show RG EP _ (match vIxN (q.2.map ka).length z with
      | some b=>.nx (Γ.set i (some (.ow 2,.lst ((l.map (kL ka)).set q.1 (.lst ((q.2.map ka).set b (ka x)))))))
      | none=>.bad) _
     rw [List.length_map]
     unfold setR
     cases vIxN q.2.length z with
     | none=>exact trivial
     | some b =>
      refine ⟨_,rfl,?_⟩
      show Γ.set i (some (.ow 2,.lst ((l.map (kL ka)).set q.1 (.lst ((q.2.map ka).set b (ka x))))))=Γ.set i (some (.ow 2,.lst ((l.set q.1 (q.2.set b x)).map (kL ka))))
      rw [← map_set,List.map_set]
end
end Vm
end
section
set_option linter.all false
set_option maxHeartbeats 1000000
set_option maxRecDepth 10000
namespace Vm
inductive Stp where
 | keep | turn (w:List Nat) | lose | add (w:List Nat) | twice | swap | skip (k:Int)
 deriving DecidableEq
def stpN:Stp→List Nat
 | .keep=>[107,101,101,112]
 | .turn _=>[116,117,114,110]
 | .lose=>[108,111,115,101]
 | .add _=>[97,100,100]
 | .twice=>[116,119,105,99,101]
 | .swap=>[115,119,97,112]
 | .skip _=>[115,107,105,112]
def kStp:Stp→PV
 | .keep=>.tup [.str [107,101,101,112]]
 | .turn w=>.tup [.str [116,117,114,110],.str w]
 | .lose=>.tup [.str [108,111,115,101]]
 | .add w=>.tup [.str [97,100,100],.str w]
 | .twice=>.tup [.str [116,119,105,99,101]]
 | .swap=>.tup [.str [115,119,97,112]]
 | .skip k=>.tup [.str [115,107,105,112],.int k]
def stp1:Stp→Res TV
 | .turn w=>.ok (.fz,.str w)
 | .add w=>.ok (.fz,.str w)
 | .skip k=>.ok (.fz,.int k)
 | _=>.bad
instance:Enc kStp where
 d:=1
 eq:=fun a b=>by
  rw [Bool.eq_iff_iff]
  cases a <;> cases b <;> simp [kStp,eqv,eqvL]
 sh:=fun n h a=>by
  cases n with
  | zero=>omega
  | succ n=>cases a <;> cases n <;> simp [kStp,shp,shpL]
instance:NN kStp:=⟨fun a h=>by cases a <;> cases h⟩
instance:St kStp:=⟨fun a=>by cases a <;> simp [kStp,stab,stabL]⟩
section
variable {α β γ δ:Type} {Γ:En} {a b:EX} {as:EXs} {t u:Tg} {A:Res Stp}
theorem rStp0(ha:RefG (tv t kStp) (a Γ) A):RefG (tv .fz kS) (eIdx a (eC (.int 0)) Γ) (A.bind fun s=>.ok (stpN s)):=ha.bind fun s=>by
 cases s <;> rfl
theorem rStp1(ha:RefG (tv t kStp) (a Γ) A):RefG id (eIdx a (eC (.int 1)) Γ) (A.bind fun s=>stp1 s):=ha.bind fun s=>by
 cases s <;> first | rfl | trivial
theorem argsK{g:γ→δ}{F:List TV→Res δ}{K:Res γ}(x:TV)(h:RefG g ((as Γ).bind fun xs=>F (x :: xs)) K)(ha:a Γ = .ok x:=by rfl):RefG g ((eCons a as Γ).bind F) K:=by
 show RefG g (((a Γ).bind fun x=>(as Γ).bind fun xs=>.ok (x :: xs)).bind F) _
 rw [ha,bind_ok,bind_assoc]
 exact h
end
end Vm
end
section
set_option linter.all false
set_option maxHeartbeats 1000000
set_option maxRecDepth 10000
namespace Vm
theorem noExc_ne{α:Type}{r:Res α}{c:Nat}(h:noExc r = .exc c):False:=by cases r <;> cases h
section
variable {α β:Type} {EP:En→Prop} {Γ:En}
theorem pCallM{js:List (Nat×Tg)}{f:FM}{ps:List PV}{g:α→List PV}{E:Res α}{u:α→En}(hf:RefG g (f ps) E)(ht:takeA Γ js=some ps)(hu:∀ x,putA Γ js (g x)=u x)(hx:∀ c,E ≠ .exc c):Prim EP (dCallM f js) Γ E u:=by
 show RG EP _ (match takeA Γ js with
  | some ps=>(match f ps with
   | .ok news=>.nx (putA Γ js news)
   | _=>.bad)
  | none=>.bad) E
 rw [ht]
 cases E with
 | bad=>exact trivial
 | exc c=>exact (hx c rfl).elim
 | ok x =>
  have h:f ps = .ok (g x):=hf
  simp only [h]
  exact ⟨_,rfl,hu x⟩
theorem tFnM{ts:List Tg}{ns:Nat}{body:ST}{args:List PV}{g:α→List PV}{R:Res α}(h:RG (fun _=>True) (fun o x=>∃ Γ',o = .nx Γ'∧readA Γ' 0 ts args = .ok (g x)) (body (startM ts args++List.replicate (ns - ts.length) none)) R)(hl:args.length=ts.length:=by rfl):RefG g (runM ts ns body args) (noExc R):=by
 unfold runM
 rw [if_pos hl]
 cases R with
 | bad=>exact trivial
 | exc c=>exact trivial
 | ok x =>
  obtain ⟨Γ',h1,h2⟩:=h
  rw [h1]
  exact h2
end
end Vm
end
section
set_option linter.all false
set_option maxHeartbeats 1000000
set_option maxRecDepth 10000
namespace Vm
def kD{α β:Type}(ka:α→PV)(kb:β→PV)(l:List (α×β)):PV:=.dic (l.map fun z=>ka z.1) (l.map fun z=>kb z.2)
class KeyN {α:Type} (ka:α→PV):Prop where
 n:∀ m a,keyN m (ka a)=true
class KeyE {α:Type} (ka:α→PV):Prop where
 s:(∀ a,keyL (ka a)=true) ∨ (∀ a,keyT (ka a)=true)
instance:KeyN kI:=⟨fun m a=>by cases m <;> rfl⟩
instance:KeyN kS:=⟨fun m a=>by cases m <;> rfl⟩
instance {α:Type} {ka:α→PV} [KeyN ka]:KeyN (kO ka):=⟨fun m a=>by
 cases a with
 | none=>cases m <;> rfl
 | some a=>exact KeyN.n m a⟩
instance:KeyE kI:=⟨.inl fun a=>rfl⟩
instance:KeyE kS:=⟨.inl fun a=>rfl⟩
instance:KeyE (kO kI):=⟨.inl fun a=>by cases a <;> rfl⟩
instance:KeyE (kO kS):=⟨.inl fun a=>by cases a <;> rfl⟩
instance {α β:Type} {ka:α→PV} {kb:β→PV} [KeyN ka] [KeyN kb]:KeyE (kP2 ka kb):=⟨.inr fun a=>by
 show (keyN 7 (ka a.1) && (keyN 7 (kb a.2) && true))=true
 rw [KeyN.n,KeyN.n]; rfl⟩
theorem keyNL_map{α:Type}{ka:α→PV}[KeyN ka](n:Nat)(l:List α):keyNL n (l.map ka)=true:=by
 induction l with
 | nil=>cases n <;> rfl
 | cons a l ih=>show (keyN n (ka a) && keyNL n (l.map ka))=true; rw [KeyN.n,ih]; rfl
instance {α:Type} {ka:α→PV} [KeyN ka]:KeyE (kT ka):=⟨.inr fun a=>keyNL_map 7 a⟩
theorem sameK_e{α β:Type}{ka:α→PV}[KeyE ka](k:α)(l:List (α×β)):sameK (ka k) (l.map fun z=>ka z.1)=true:=by
 unfold sameK
 rcases KeyE.s (ka:=ka) with h | h
 ·rw [h k,show (l.map fun z=>ka z.1).all keyL=true by rw [List.all_map]; exact List.all_eq_true.mpr fun z _=>h z.1]; rfl
 ·rw [h k,show (l.map fun z=>ka z.1).all keyT=true by rw [List.all_map]; exact List.all_eq_true.mpr fun z _=>h z.1]; simp
section
variable {α β:Type} [DecidableEq α]
def dfind(d:List (α×β))(k:α):Option β:=(d.find? fun z=>decide (z.1=k)).map (·.2)
def dixR(d:List (α×β))(k:α):Res β:=match dfind d k with
 | some x=>.ok x
 | none=>.bad
def dput:List (α×β)→α→β→List (α×β)
 | [],k,v=>[(k,v)]
 | z :: l,k,v=>if z.1=k then (z.1,v) :: l else z :: dput l k v
variable {ka:α→PV} {kb:β→PV} [Enc ka]
theorem dIx_e(k:α):∀ d:List (α×β),((dIx (d.map fun z=>ka z.1) (ka k)).bind fun j=>(d.map fun z=>kb z.2)[j]?)=(dfind d k).map kb∧(dIx (d.map fun z=>ka z.1) (ka k)).isSome=(dfind d k).isSome
 | []=>⟨rfl,rfl⟩
 | z :: d=>by
  obtain ⟨h1,h2⟩:=dIx_e k d
  unfold dfind at h1 h2 ⊢
  simp only [List.map_cons,dIx,Enc.eq]
  by_cases h:z.1=k
  ·rw [List.find?_cons_of_pos (by simpa using h)]
   simp [h]
  ·rw [List.find?_cons_of_neg (by simpa using h)]
   simp only [h,decide_false,Bool.false_eq_true,if_false]
   refine ⟨?_,by rw [← h2]; cases dIx (d.map fun z=>ka z.1) (ka k) <;> rfl⟩
   rw [← h1]
   cases dIx (d.map fun z=>ka z.1) (ka k) <;> simp
theorem dGet_e(k:α)(d:List (α×β)):dGet (d.map fun z=>ka z.1) (d.map fun z=>kb z.2) (ka k)=(dfind d k).map kb:=(dIx_e k d).1
theorem dPut_e(k:α)(v:β):∀ d:List (α×β),dPutK (d.map fun z=>ka z.1) (ka k)=(dput d k v).map (fun z=>ka z.1)∧dPutV (d.map fun z=>ka z.1) (d.map fun z=>kb z.2) (ka k) (kb v)=(dput d k v).map fun z=>kb z.2
 | []=>⟨rfl,rfl⟩
 | z :: d=>by
  obtain ⟨h1,h2⟩:=dPut_e k v d
  unfold dput
  simp only [List.map_cons,dPutK,dPutV,Enc.eq]
  by_cases h:z.1=k
  ·simp [h]
  ·simp [h,h1,h2]
end
section
variable {α β γ:Type} [DecidableEq α] {ka:α→PV} {kb:β→PV} [Enc ka] [KeyE ka] {Γ:En} {a b c:EX} {as:EXs} {t u w:Tg}
theorem rDicN(ks:List (List Nat)){E:Res (List β)}(h:RefG (List.map kb) ((as Γ).bind putVs) E):RefG (tv (.ow 1) (kD kS kb)) (eDicN ks as Γ) (E.bind fun l=>if l.length=ks.length then .ok (ks.zip l) else .bad):=by
 unfold eDicN
 rw [show ((as Γ).bind fun xs=>(putVs xs).bind fun ps=>if ps.length=ks.length then Res.ok (Tg.ow 1,PV.dic (ks.map .str) ps) else .bad)=((as Γ).bind putVs).bind fun ps=>if ps.length=ks.length then Res.ok (Tg.ow 1,PV.dic (ks.map .str) ps) else .bad by rw [bind_assoc]]
 refine h.bind fun l=>?_
 rw [List.length_map]
 by_cases hl:l.length=ks.length
 ·rw [if_pos hl,if_pos hl]
  show Res.ok _=Res.ok _
  congr 1
  show (Tg.ow 1,_)=(Tg.ow 1,kD kS kb (ks.zip l))
  unfold kD
  have e1:(ks.zip l).map (fun z=>kS z.1)=ks.map PV.str:=by
   have:(ks.zip l).map (fun z=>kS z.1)=((ks.zip l).map (·.1)).map PV.str:=by rw [List.map_map]; rfl
   rw [this,List.map_fst_zip (by omega)]
  have e2:(ks.zip l).map (fun z=>kb z.2)=l.map kb:=by
   have:(ks.zip l).map (fun z=>kb z.2)=((ks.zip l).map (·.2)).map kb:=by rw [List.map_map]; rfl
   rw [this,List.map_snd_zip (by omega)]
  rw [e1,e2]
 ·rw [if_neg hl,if_neg hl]; exact trivial
theorem rDIdx{A:Res (List (α×β))}{B:Res α}(ha:RefG (tv t (kD ka kb)) (a Γ) A)(hb:RefG (tv u ka) (b Γ) B):RefG (tv (dn t) kb) (eDIdx a b Γ) (A.bind fun d=>B.bind fun k=>dixR d k):=ha.bind fun d=>hb.bind fun k=>by
 show RefG _ (if sameK (ka k) (d.map fun z=>ka z.1) then _ else _) _
 rw [if_pos (sameK_e k d),dGet_e k d]
 unfold dixR
 cases dfind d k <;> first | exact trivial | rfl
theorem rDIn{A:Res α}{B:Res (List (α×β))}(ha:RefG (tv t ka) (a Γ) A)(hb:RefG (tv u (kD ka kb)) (b Γ) B):RefG (tv .fz kB) (eOp2 opDIn a b Γ) (A.bind fun k=>B.bind fun d=>.ok (dfind d k).isSome):=ha.bind fun k=>hb.bind fun d=>by
 show RefG _ (((if sameK (ka k) (d.map fun z=>ka z.1) then Res.ok (dIx (d.map fun z=>ka z.1) (ka k)).isSome else .bad).bind fun b=>.ok (.bl b)).bind fzv) _
 rw [if_pos (sameK_e k d),(dIx_e (kb:=kb) k d).2]; rfl
theorem rDNotIn{A:Res α}{B:Res (List (α×β))}(ha:RefG (tv t ka) (a Γ) A)(hb:RefG (tv u (kD ka kb)) (b Γ) B):RefG (tv .fz kB) (eOp2 opDNotIn a b Γ) (A.bind fun k=>B.bind fun d=>.ok (!(dfind d k).isSome)):=ha.bind fun k=>hb.bind fun d=>by
 show RefG _ (((if sameK (ka k) (d.map fun z=>ka z.1) then Res.ok (dIx (d.map fun z=>ka z.1) (ka k)).isSome else .bad).bind fun b=>.ok (.bl (!b))).bind fzv) _
 rw [if_pos (sameK_e k d),(dIx_e (kb:=kb) k d).2]; rfl
end
end Vm
end
section
set_option linter.all false
set_option maxHeartbeats 1000000
set_option maxRecDepth 10000
namespace Vm
end Vm
end
section
set_option linter.all false
set_option maxHeartbeats 1000000
set_option maxRecDepth 10000
namespace Vm
theorem rOrN{Γ:En}{a b:EX}{t:Tg}{A:Res (Option Int)}{B:Res Int}(ha:RefG (tv t (kO kI)) (a Γ) A)(hb:RefG (tv .fz kI) (b Γ) B):RefG (tv .fz kI) (eOrN a b Γ) (A.bind fun x=>if decide (x.getD 0=0) then B else Res.ok (x.getD 0)):=ha.bind fun x=>by
 cases x with
 | none =>
  show RefG _ (b Γ) (if decide ((0:Int)=0) then B else _)
  rw [if_pos (by decide)]; exact hb
 | some i =>
  show RefG _ (if i=0 then b Γ else _) (if decide (i=0) then B else _)
  by_cases h:i=0
  ·rw [if_pos h,if_pos (by simpa using h)]; exact hb
  ·rw [if_neg h,if_neg (by simpa using h)]; rfl
end Vm
end
section
set_option linter.all false
set_option maxHeartbeats 1000000
set_option maxRecDepth 10000
namespace Vm
end Vm
end
section
set_option linter.all false
set_option maxHeartbeats 1000000
set_option maxRecDepth 10000
namespace Vm
section
variable {α β γ σ τ ι:Type} {ka:α→PV} {kb:β→PV} {Γ:En} {a b c j e:EX} {t u w:Tg} {EP:En→Prop} {Post:Out→σ→Prop}
instance kPT_e {ka:α→PV} {kb:β→PV} [KeyN ka] [KeyN kb]:KeyE (kP2 ka (kT kb)):=⟨.inr fun a=>by
 show (keyN 7 (ka a.1) && (keyN 7 (kT kb a.2) && true))=true
 rw [KeyN.n,show keyN 7 (kT kb a.2)=true from keyNL_map 6 a.2]; rfl⟩
instance {α β:Type} {ka:α→PV} {kb:β→PV}:NN (kD ka kb):=⟨fun _ h=>by cases h⟩
theorem dput_at[DecidableEq α][Enc ka]{kv:γ→PV}(k:α)(v:γ):∀ (d:List (α×γ)) {m:γ},dfind d k=some m→∃ j,dIx (d.map fun z=>ka z.1) (ka k)=some j∧(d.map fun z=>kv z.2)[j]? = some (kv m)∧(dput d k v).map (fun z=>ka z.1)=d.map (fun z=>ka z.1)∧(dput d k v).map (fun z=>kv z.2)=(d.map fun z=>kv z.2).set j (kv v)
 | [],m,h=>by cases h
 | z :: d,m,h=>by
  unfold dput
  simp only [List.map_cons,dIx,Enc.eq]
  by_cases hz:z.1=k
  ·have hm:z.2=m:=by simpa [dfind,hz] using h
   refine ⟨0,by simp [hz],by simp [hm],by simp [hz],by simp [hz]⟩
  ·have h':dfind d k=some m:=by simpa [dfind,hz] using h
   obtain ⟨j,h1,h2,h3,h4⟩:=dput_at k v d h'
   refine ⟨j+1,by simp [hz,h1],by simpa using h2,by simp [hz,h3],by simp [hz,h4]⟩
end
end Vm
end
section
set_option linter.all false
set_option maxHeartbeats 1000000
set_option maxRecDepth 10000
namespace Vm
section
variable {Γ:En} {a b c d:EX} {t u v w:Tg}
end
end Vm
end
section
set_option linter.all false
set_option maxHeartbeats 1000000
set_option maxRecDepth 10000
namespace Vm
section
variable {α:Type} {ka:α→PV} {Γ:En} {a:EX} {t:Tg}
end
end Vm
end
section
set_option linter.all false
set_option maxHeartbeats 1000000
set_option maxRecDepth 10000
namespace Vm
section
variable {Γ:En} {a:EX} {t:Tg}
end
end Vm
end
section
set_option linter.all false
set_option maxHeartbeats 1000000
set_option maxRecDepth 10000
namespace Vm
section
variable {Γ:En} {a b:EX} {t u:Tg} {α:Type} {ka:α→PV}
theorem indexQ_go[DecidableEq α][Enc ka](hd:Enc.d ka≤50)(x:List α)(y:α):RefG (tv .fz kI) (match shp 50 (ka y) && shpL 50 (x.map ka) with
   | true=>match firstIx (fun z=>eqv z (ka y)) (x.map ka) with
    | some k=>(.ok (.fz,.int k):Res TV)
    | none=>.bad
   | false=>.bad) (indexR x y):=by
 unfold indexR
 rw [Enc.sh (k:=ka) 50 hd,shpL_enc 50 hd,firstIx_enc]
 show RefG _ (match firstIx (fun z=>decide (z=y)) x with | some k=>(.ok (.fz,.int k):Res TV) | none=>.bad) _
 cases firstIx (fun z=>decide (z=y)) x with
 | none=>exact trivial
 | some k=>exact rfl
theorem rIndexQL[DecidableEq α][Enc ka]{A:Res (List α)}{B:Res α}(ha:RefG (tv t (kL ka)) (a Γ) A)(hb:RefG (tv u ka) (b Γ) B)(hd:Enc.d ka≤50:=by decide):RefG (tv .fz kI) (eIndexQ a b Γ) (A.bind fun x=>B.bind fun y=>indexR x y) :=
 ha.bind fun x=>by
  show RefG _ ((b Γ).bind _) _
  exact hb.bind fun y=>indexQ_go hd x y
theorem rSl32{β γ:Type}{kb:β→PV}{kc:γ→PV}{A:Res (α×β×γ)}(ha:RefG (tv t (kP3 ka kb kc)) (a Γ) A):RefG (tv .fz (kP2 ka kb)) (eSlice a oNone (oSome (eC (.int 2))) Γ) (A.bind fun x=>.ok ((x.1,x.2.1):α×β)):=ha.bind fun _=>rfl
end
end Vm
end
section
set_option linter.all false
set_option maxHeartbeats 1000000
namespace Vm
section
variable {α β:Type} {EP:En→Prop} {Post:Out→β→Prop} {x y:ST} {T:TX}
end
end Vm
end
section
set_option linter.all false
set_option maxHeartbeats 1000000
set_option maxRecDepth 10000
namespace Vm
abbrev Hs:=List (List Nat×List (List Nat))×List (List Nat×Option Int)×List Int×Int
def hs0:Hs:=([],[],[1,2,2,2,1,1,3],100)
section
variable {Γ:En} {α β:Type} {a b:EX} {as:EXs} {t u:Tg}
variable {EP:En→Prop} {σ β:Type} {Post:Out→β→Prop} {f:FX} {js:List (Nat×Tg)} {ps:List PV} {k:PV→En→Out}
end
end Vm
end
section
set_option linter.all false
set_option maxHeartbeats 1000000
set_option maxRecDepth 10000
namespace Vm
section
variable {EP:En→Prop} {β:Type} {Post:Out→β→Prop}
end
section
variable {α β:Type} {EP:En→Prop} {Post:Out→β→Prop} {Γ:En} {e:EX} {t:Tg} {ka:α→PV} {rest:ST} {r:Res β}
end
section
variable {α β σ τ:Type} {EP:En→Prop} {Post:Out→β→Prop} {Γ:En} {a e:EX} {as:EXs} {t:Tg} {f:FX} {js:List (Nat×Tg)} {ps:List PV} {u:σ→En}
variable {T:TM} {D:Res (Bool×σ)} {x y rest:ST} {R1 R2:σ→Res β}
end
end Vm
end
section
set_option linter.all false
set_option maxHeartbeats 1000000
set_option maxRecDepth 10000
namespace Vm
def decStp:PV→Option Stp
 | .tup [.str [107,101,101,112]]=>some .keep
 | .tup [.str [108,111,115,101]]=>some .lose
 | .tup [.str [116,119,105,99,101]]=>some .twice
 | .tup [.str [115,119,97,112]]=>some .swap
 | .tup [.str [116,117,114,110],.str w]=>some (.turn w)
 | .tup [.str [97,100,100],.str w]=>some (.add w)
 | .tup [.str [115,107,105,112],.int k]=>some (.skip k)
 | _=>none
@[simp] theorem decStp_k (s:Stp):decStp (kStp s)=some s:=by cases s <;> rfl
end Vm
end
section
set_option linter.all false
set_option maxHeartbeats 1000000
set_option maxRecDepth 10000
namespace Vm
section
variable {α ι:Type} {ka:α→PV} {t:Tg} {Γ:En}
end
end Vm
end
section
set_option linter.all false
set_option maxHeartbeats 1000000
set_option maxRecDepth 10000
namespace Vm
section
variable {α β σ τ:Type} {EP:En→Prop} {Post:Out→β→Prop} {Γ:En} {a e:EX} {as:EXs} {t:Tg} {f:FX} {js:List (Nat×Tg)} {ps:List PV} {u:σ→En}
end
end Vm
end
section
set_option linter.all false
set_option maxHeartbeats 1000000
set_option maxRecDepth 10000
namespace Vm
section
variable {α β:Type} [DecidableEq α] {ka:α→PV} {kb:β→PV} [Enc ka] [KeyE ka] {Γ:En} {a b j e j1 j2:EX} {t u w:Tg} {EP:En→Prop}
theorem rDic1L(tp:Bool){A:Res α}{B:Res (List β)}(ha:RefG (tv .fz ka) (a Γ) A)(hb:RefG (tv (.ow 1) (kL kb)) (b Γ) B)(hk:∀ x,(if tp then keyT (ka x) else keyL (ka x))=true:=by intro x; first | rfl | (cases x <;> rfl)):RefG (tv (.ow 2) (kD ka (kL kb))) (eDic1L tp a b Γ) (A.bind fun x=>B.bind fun y=>.ok [(x,y)]):=ha.bind fun x=>hb.bind fun y=>by
 show RefG _ (if (if tp then keyT (ka x) else keyL (ka x)) then Res.ok (Tg.ow 2,PV.dic [ka x] [.lst (y.map kb)]) else .bad) _
 rw [if_pos (hk x)]; rfl
def dnewR(d:List (α×List β))(k:α):Res (List (α×List β)):=if d.length < 16777216∧(dfind d k).isNone=true then .ok (dput d k []) else .bad
theorem pDNew(i:Nat){J:Res α}{d:List (α×List β)}(hj:RefG (tv .fz ka) (j Γ) J)(hE:EP Γ)(hg:Γ.get i=some (.ow 2,kD ka (kL kb) d)):Prim EP (dDNew i j) Γ (J.bind fun k=>dnewR d k) (fun d=>Γ.set i (some (.ow 2,kD ka (kL kb) d))):=by
 show RG EP _ (dDNew i j Γ) _
 unfold dDNew
 rw [hg]
 cases J with
 | bad=>exact trivial
 | exc c =>
  have h:j Γ = .exc c:=hj
  show RG EP _ (aft (j Γ) Γ _) _
  rw [h]; exact ⟨Γ,rfl,hE⟩
 | ok k =>
  have h1:j Γ = .ok (.fz,ka k):=hj
  show RG EP _ (aft (j Γ) Γ _) _
  rw [h1]
  show RG EP _ (if sameK (ka k) (d.map fun z=>ka z.1) && decide ((d.map fun z=>ka z.1).length < 16777216) && (dIx (d.map fun z=>ka z.1) (ka k)).isNone then _ else _) (dnewR d k)
  have hn:(dIx (d.map fun z=>ka z.1) (ka k)).isNone=(dfind d k).isNone:=by
   have:=(dIx_e (ka:=ka) (kb:=kL kb) k d).2
   cases q1:dIx (d.map fun z=>ka z.1) (ka k) <;> cases q2:dfind d k <;> simp [q1,q2] at this ⊢
  rw [hn,sameK_e k d,List.length_map]
  unfold dnewR
  by_cases hz:d.length < 16777216∧(dfind d k).isNone=true
  ·rw [if_pos hz,if_pos (by simp [hz.1,hz.2])]
   obtain ⟨q1,q2⟩:=dPut_e (ka:=ka) (kb:=kL kb) k ([]:List β) d
   refine ⟨_,rfl,?_⟩
   show Γ.set i (some (.ow 2,.dic (dPutK _ _) (dPutV _ _ _ (kL kb []))))=_
   rw [q1,q2]; rfl
  ·rw [if_neg hz,if_neg (fun g=>hz (by simpa using g))]; exact trivial
def forAppR(d:List (α×List β))(k1 k2:α)(E:β→Res β):Res (List (α×List β)):=if k1=k2 then .bad else (dixR d k1).bind fun m1=>(dixR d k2).bind fun m2=>(noExc (mapR E m1)).bind fun ps=>if m2.length+ps.length≤16777216 then .ok (dput d k2 (m2++ps)) else .bad
theorem dIx_key{k:α}:∀ {d:List (α×β)} {j:Nat},dIx (d.map fun z=>ka z.1) (ka k)=some j→(d[j]?).map (·.1)=some k
 | [],j,h=>by cases h
 | z :: d,j,h=>by
  simp only [List.map_cons,dIx,Enc.eq] at h
  by_cases hz:z.1=k
  ·simp [hz] at h; subst h; simp [hz]
  ·simp only [hz,decide_false,Bool.false_eq_true,if_false] at h
   cases q:dIx (d.map fun z=>ka z.1) (ka k) with
   | none=>rw [q] at h; cases h
   | some n=>rw [q] at h; cases h; simpa using dIx_key q
theorem rg_bad{σ:Type}{EP:En→Prop}{P:Out→σ→Prop}{o:Out}:RG EP P o (.bad:Res σ):=trivial
theorem appL_e{pat:Pat}{ks:List PV}{k2:α}{n:Nat}{E:β→Res β}{Γ0:En}(u:β→En)(hu:∀ x,bindP Γ0 (.fz,kb x) pat = .ok (u x))(h2:∀ x,(j2 (u x)).bind fzK = .ok (ka k2))(hk:sameK (ka k2) ks=true)(hn:dIx ks (ka k2)=some n)(he:∀ x,RefG (tv t kb) (e (u x)) (E x))(hp:∀ p,putV (t,p) = .ok p) :
  ∀ (m r:List β),mapR E m = .ok r→appL pat j2 e ks n Γ0 (m.map kb) = .ok (r.map kb)
 | [],r,h=>by cases h; rfl
 | x :: m,r,h=>by
  unfold mapR at h
  have q5:=he x
  cases qE:E x with
  | bad=>rw [qE] at h; cases h
  | exc c=>rw [qE] at h; cases h
  | ok z =>
   rw [qE,bind_ok] at h
   rw [qE] at q5
   have q5:e (u x) = .ok (t,kb z):=q5
   cases qm:mapR E m with
   | bad=>rw [qm] at h; cases h
   | exc c=>rw [qm] at h; cases h
   | ok r' =>
    rw [qm,bind_ok] at h
    cases h
    have ih:=appL_e u hu h2 hk hn he hp m r' qm
    have q2:=h2 x
    have q3:∃ y,j2 (u x) = .ok y∧fzK y = .ok (ka k2):=by
     cases q:j2 (u x) with
     | ok y=>rw [q] at q2; exact ⟨y,rfl,q2⟩
     | exc c=>rw [q] at q2; cases q2
     | bad=>rw [q] at q2; cases q2
    obtain ⟨y,q3,q4⟩:=q3
    rw [List.map_cons]
    unfold appL
    rw [hu,bind_ok,q3,bind_ok,q4,bind_ok,hk,hn,if_pos (by simp),q5,bind_ok,hp,bind_ok,ih]
    rfl
theorem pForApp(i:Nat)(ws:List Nat){pat:Pat}{J1:Res α}{d:List (α×List β)}{k2:α}{E:β→Res β}(u:β→En)(h1:RefG (tv .fz ka) (j1 Γ) J1)(h0:RefG (tv .fz ka) (j2 Γ) (.ok k2))(h2:∀ x,RefG (tv .fz ka) (j2 (u x)) (.ok k2))(he:∀ x,RefG (tv t kb) (e (u x)) (E x))(hE:EP Γ)(hg:Γ.get i=some (.ow 2,kD ka (kL kb) d))(hu:∀ x,bindP ((wipeE Γ ws).set i none) (.fz,kb x) pat = .ok (u x))
  (hw:(!ws.elem i && pat.slots.all fun w=>ws.elem w)=true:=by rfl)(hp:∀ p,putV (t,p) = .ok p:=by intro _; rfl) :
  Prim EP (dForApp i ws j1 pat j2 e) Γ (J1.bind fun k1=>forAppR d k1 k2 E) (fun d=>(wipeE Γ ws).set i (some (.ow 2,kD ka (kL kb) d))):=by
 show RG EP _ (dForApp i ws j1 pat j2 e Γ) _
 unfold dForApp
 rw [hg]
 cases J1 with
 | bad=>exact trivial
 | exc c =>
  have h:j1 Γ = .exc c:=h1
  show RG EP _ (aft (j1 Γ) Γ _) _
  rw [h]; exact ⟨Γ,rfl,hE⟩
 | ok k1 =>
  have h1:j1 Γ = .ok (.fz,ka k1):=h1
  have h0:j2 Γ = .ok (.fz,ka k2):=h0
  show RG EP _ (aft (j1 Γ) Γ _) _
  rw [h1,h0]
  show RG EP _ (if sameK (ka k1) (d.map fun z=>ka z.1) && sameK (ka k2) (d.map fun z=>ka z.1) && !ws.elem i && pat.slots.all fun w=>ws.elem w then _ else _) (forAppR d k1 k2 E)
  rw [sameK_e k1 d,sameK_e k2 d,Bool.true_and,Bool.true_and,if_pos hw]
  show RG EP _ (match lstAtD (d.map (fun z=>ka z.1),d.map (fun z=>kL kb z.2)) (ka k1),lstAtD (d.map (fun z=>ka z.1),d.map (fun z=>kL kb z.2)) (ka k2) with
    | some (j1,m1),some (j2',m2)=>if j1=j2' then .bad else (match appL pat j2 e (d.map fun z=>ka z.1) j2' ((wipeE Γ ws).set i none) m1 with
     | .ok ps=>if m2.length+ps.length≤16777216 then .nx ((wipeE Γ ws).set i (some (.ow 2,.dic (d.map fun z=>ka z.1) ((d.map fun z=>kL kb z.2).set j2' (.lst (m2++ps)))))) else .bad
     | _=>.bad)
    | _,_=>.bad) _
  unfold forAppR
  have lst:∀ k:α,(∃ m n,dfind d k=some m∧dIx (d.map fun z=>ka z.1) (ka k)=some n∧lstAtD (d.map (fun z=>ka z.1),d.map (fun z=>kL kb z.2)) (ka k)=some (n,m.map kb)) ∨ (dfind d k=none∧lstAtD (d.map (fun z=>ka z.1),d.map (fun z=>kL kb z.2)) (ka k)=none):=by
   intro k
   cases hf:dfind d k with
   | some m =>
    obtain ⟨n,g1,g2,_⟩:=dput_at (ka:=ka) (kv:=kL kb) k m d hf
    refine .inl ⟨m,n,rfl,g1,?_⟩
    unfold lstAtD
    simp only [g1,g2]
    rfl
   | none =>
    refine .inr ⟨rfl,?_⟩
    have:=(dIx_e (ka:=ka) (kb:=kL kb) k d).2
    rw [hf] at this
    unfold lstAtD
    cases q:dIx (d.map fun z=>ka z.1) (ka k) with
    | none=>simp only [q]
    | some n=>rw [q] at this; cases this
  by_cases hk:k1=k2
  ·rw [if_pos hk]
   subst hk
   rcases lst k1 with ⟨m,n,_,_,g⟩ | ⟨_,g⟩
   ·rw [g]; simp only [if_true]; exact trivial
   ·rw [g]; exact trivial
  rw [if_neg hk]
  rcases lst k1 with ⟨m1,n1,f1,i1,g1⟩ | ⟨f1,g1⟩
  ·rw [g1]
   have d1:dixR d k1 = .ok m1:=by unfold dixR; rw [f1]
   rw [d1,bind_ok]
   rcases lst k2 with ⟨m2,n2,f2,i2,g2⟩ | ⟨f2,g2⟩
   ·rw [g2]
    have d2:dixR d k2 = .ok m2:=by unfold dixR; rw [f2]
    rw [d2,bind_ok]
    have hne:n1 ≠ n2:=fun q=>by
     subst q
     have a1:=dIx_key i1
     have a2:=dIx_key i2
     rw [a1] at a2; exact hk (by simpa using a2)
    simp only [if_neg hne]
    cases qm:mapR E m1 with
    | ok ps =>
     have ha:=appL_e (t:=t) (e:=e) (j2:=j2) (E:=E) (Γ0:=(wipeE Γ ws).set i none) (pat:=pat) u hu (fun x=>by
      have q:j2 (u x) = .ok (.fz,ka k2):=h2 x
      rw [q]; rfl) (sameK_e k2 d) i2 he hp m1 ps qm
     rw [ha]
     show RG EP _ (if (m2.map kb).length+(ps.map kb).length≤16777216 then _ else _) (if m2.length+ps.length≤16777216 then _ else _)
     rw [List.length_map,List.length_map]
     by_cases hz:m2.length+ps.length≤16777216
     ·rw [if_pos hz,if_pos hz]
      obtain ⟨n,b1,b2,b3,b4⟩:=dput_at (ka:=ka) (kv:=kL kb) k2 (m2++ps) d f2
      rw [i2] at b1; cases b1
      refine ⟨_,rfl,?_⟩
      show (wipeE Γ ws).set i _=(wipeE Γ ws).set i (some (.ow 2,.dic ((dput d k2 (m2++ps)).map fun z=>ka z.1) ((dput d k2 (m2++ps)).map fun z=>kL kb z.2)))
      rw [b3,b4]
      simp [kL]
     ·rw [if_neg hz,if_neg hz]; exact trivial
    | exc c=>exact rg_bad
    | bad=>exact rg_bad
   ·rw [g2]
    have d2:dixR d k2 = .bad:=by unfold dixR; rw [f2]
    rw [d2]; exact trivial
  ·rw [g1]
   have d1:dixR d k1 = .bad:=by unfold dixR; rw [f1]
   rw [d1]; exact trivial
end
theorem rSortTP{α:Type}{ka:α→PV}{Γ:En}{a:EX}[DecidableEq α][Ordk ka][Srk ka]{A:Res (List α)}(ha:RefG (tv .fz (kT ka)) (a Γ) A)(hkn:∀ x,keyN 8 (ka x)=true)(hd:Ordk.d ka≤50:=by decide):RefG (tv (.ow 1) (kL ka)) (eSortedT a Γ) (A.bind fun x=>sortR (Ordk.lt ka) x):=ha.bind fun x=>by
 unfold sortR
 by_cases h:x.length≤16777216
 ·rw [if_pos h]
  show RefG _ (if srtOk (x.map ka) && (x.map ka).all (keyN 8) && decide ((x.map ka).length≤16777216) then _ else _) _
  have hk:(x.map ka).all (keyN 8)=true:=by rw [List.all_map]; exact List.all_eq_true.mpr fun z _=>hkn z
  rw [srtOk_map hd,hk,if_pos (by simpa using h),sortP_map]; exact rfl
 ·rw [if_neg h]; exact trivial
theorem rInTD{α:Type}{ka:α→PV}{Γ:En}{a b:EX}{t u:Tg}[DecidableEq α][Enc ka]{A:Res α}{B:Res (List α)}(ha:RefG (tv t ka) (a Γ) A)(hb:RefG (tv u (kT ka)) (b Γ) B)(hd:Enc.d ka≤50:=by decide):RefG (tv .fz kB) (eOp2 opInDT a b Γ) (A.bind fun x=>B.bind fun y=>.ok (memB x y)) :=
 ha.bind fun x=>hb.bind fun y=>by
  have h:opInDT (ka x) (kT ka y)=(inB (ka x) (kL ka y)).bind fun b=>.ok (.bl b):=by
   show (if shp 50 (ka x) && shpL 50 (y.map ka) then Res.ok (PV.bl _) else .bad)=(if shp 50 (ka x) && shpL 50 (y.map ka) then Res.ok _ else .bad).bind fun b=>.ok (.bl b)
   split <;> rfl
  show (opInDT (ka x) (kT ka y)).bind fzv=_
  rw [h,inB_L hd]; rfl
end Vm
end
section
set_option Elab.async false
set_option linter.all false
set_option maxRecDepth 100000
set_option maxHeartbeats 4000000
namespace Vm
def f_looks_alike(v_one:List Nat)(v_two:List Nat):Res (Bool) :=
 if !decide ((v_one.length:Int)=(v_two.length:Int)) then (Res.ok (false)) else (((((noExc (lcR (fun (z9:((List Nat)×List Nat))=>Res.ok (!decide (z9.1=z9.2))) (fun (z9:((List Nat)×List Nat))=>Res.ok ((1:Int))) ((signs v_one).zip (signs v_two)))).bind szR).bind fun x10=>Res.ok ((x10.length:Int))).bind fun x11=>Res.ok (decide (x11=(1:Int)))).bind fun x13=>Res.ok (x13))
def f_step_price(v_elder:List (List Nat))(v_done:Int)(v_step:Stp)(v_prices:List (Int)):Res (Int) :=
 (un7 v_prices).bind fun (s1:((Int)×(Int)×(Int)×(Int)×(Int)×(Int)×Int))=>let s2:List Nat:=stpN v_step; if decide (s2=([116,117,114,110]:List Nat)) then (((ixR v_elder v_done).bind fun x5=>((stp1 v_step).bind decS).bind fun x6=>f_looks_alike x5 x6).bind fun b7=>if b7 then (Res.ok s1.1) else (Res.ok s1.2.1)) else ((Res.ok (([(0:Int),s1.2.2.1,s1.2.2.2.1,s1.2.2.2.2.1,s1.2.2.2.2.2.1,s1.2.2.2.2.2.2]:List (Int)))).bind fun l15=>(Res.ok ((tv .fz kS) s2)).bind fun y16=>(dicR [[107,101,101,112],[108,111,115,101],[97,100,100],[116,119,105,99,101],[115,119,97,112],[115,107,105,112]] l15 y16).bind fun r14=>Res.ok r14)
def f_skips_at(v_elder:List (List Nat))(v_i:Int):Res (List (Stp)) :=
 if decide (v_i=(0:Int)) then (Res.ok ((([]:List (Stp))))) else (((rng2R ((1:Int)) ((((v_elder.length:Int)) - v_i)+((1:Int)))).bind fun x11=>(noExc (lcR (fun (z7:Int)=>(ixR v_elder ((v_i+z7) - ((1:Int)))).bind fun x9=>(ixR v_elder (v_i - ((1:Int)))).bind fun x10=>Res.ok (decide (x9=x10))) (fun (z7:Int)=>Res.ok (Stp.skip z7)) x11)).bind szR).bind fun x13=>Res.ok (x13))
def f_swaps_at(v_elder:List (List Nat))(v_copy:List (List Nat))(v_i:Int)(v_j:Int):Res (List (Stp)) :=
 (if decide ((v_elder.length:Int)≤v_i+((1:Int))) then Res.ok true else if decide ((v_copy.length:Int)≤v_j+((1:Int))) then Res.ok true else (ixR v_elder v_i).bind fun x1=>(ixR v_elder (v_i+((1:Int)))).bind fun x2=>Res.ok (decide (x1=x2))).bind fun b14=>if b14 then (Res.ok ((([]:List (Stp))))) else ((((ixR v_copy v_j).bind fun x4=>(ixR v_elder (v_i+((1:Int)))).bind fun x5=>Res.ok (decide (x4=x5))).bind fun x8=>if x8 then (ixR v_copy (v_j+((1:Int)))).bind fun x6=>(ixR v_elder v_i).bind fun x7=>Res.ok (decide (x6=x7)) else Res.ok false).bind fun b13=>if b13 then (Res.ok ((([Stp.swap]:List (Stp))))) else (Res.ok ((([]:List (Stp))))))
def f_knot_steps(v_elder:List (List Nat))(v_copy:List (List Nat))(v_i:Int)(v_j:Int):Res (List (Stp)) :=
 let s1:List (Stp):=([]:List (Stp)); ((if decide (v_i < (v_elder.length:Int)) then Res.ok (decide (v_j < (v_copy.length:Int))) else Res.ok false).bind fun b100=>if b100 then (((ixR v_elder v_i).bind fun x14=>(ixR v_copy v_j).bind fun x15=>Res.ok (decide (x14=x15))).bind fun b23=>if b23 then ((appR s1 Stp.keep).bind fun (s16:List (Stp))=>Res.ok s16) else ((((ixR v_copy v_j).bind fun x20=>Res.ok (Stp.turn x20)).bind fun x21=>appR s1 x21).bind fun (s22:List (Stp))=>Res.ok s22)) else (Res.ok s1)).bind fun s12=>(if decide (v_i < (v_elder.length:Int)) then ((appR s12 Stp.lose).bind fun (s27:List (Stp))=>Res.ok s27) else (Res.ok s12)).bind fun s25=>(if decide (v_j < (v_copy.length:Int)) then ((((ixR v_copy v_j).bind fun x43=>Res.ok (Stp.add x43)).bind fun x44=>appR s25 x44).bind fun (s45:List (Stp))=>(if decide ((0:Int) < v_j) then (ixR v_copy (v_j - ((1:Int)))).bind fun x46=>(ixR v_copy v_j).bind fun x47=>Res.ok (decide (x46=x47)) else Res.ok false).bind fun b49=>if b49 then ((appR s45 Stp.twice).bind fun (s48:List (Stp))=>Res.ok s48) else (Res.ok s45)) else (Res.ok s25)).bind fun s38=>(((f_swaps_at v_elder v_copy v_i v_j).bind fun x93=>catR s38 x93).bind fun x96=>(f_skips_at v_elder v_i).bind fun x97=>catR x96 x97).bind fun x99=>Res.ok (x99)
def f_step_end(v_i:Int)(v_j:Int)(v_step:Stp):Res (((Int)×Int)) :=
 (if decide (stpN v_step=([107,101,101,112]:List Nat)) then Res.ok true else Res.ok (decide (stpN v_step=([116,117,114,110]:List Nat)))).bind fun b32=>if b32 then (Res.ok ((((v_i+((1:Int)),v_j+((1:Int))):((Int)×Int))))) else (if decide (stpN v_step=([108,111,115,101]:List Nat)) then (Res.ok ((((v_i+((1:Int)),v_j):((Int)×Int))))) else ((if decide (stpN v_step=([97,100,100]:List Nat)) then Res.ok true else Res.ok (decide (stpN v_step=([116,119,105,99,101]:List Nat)))).bind fun b31=>if b31 then (Res.ok ((((v_i,v_j+((1:Int))):((Int)×Int))))) else (if decide (stpN v_step=([115,119,97,112]:List Nat)) then (Res.ok ((((v_i+((2:Int)),v_j+((2:Int))):((Int)×Int))))) else (((((stp1 v_step).bind decI).bind fun x25=>Res.ok (v_i+x25)).bind fun x28=>Res.ok (((x28,v_j):((Int)×Int)))).bind fun x30=>Res.ok (x30)))))
def f_priced_ends(v_elder:List (List Nat))(v_copy:List (List Nat))(v_i:Int)(v_j:Int)(v_prices:List (Int)):Res (List (((Stp)×(((Int)×Int))×Int))) :=
 let s1:List (((Stp)×(((Int)×Int))×Int)):=([]:List (((Stp)×(((Int)×Int))×Int))); ((f_knot_steps v_elder v_copy v_i v_j).bind fun x34=>forS (fun (s2:((List (((Stp)×(((Int)×Int))×Int))))) (x7:Stp)=>(((f_step_end v_i v_j x7).bind fun x30=>(f_step_price v_elder v_i x7 v_prices).bind fun x31=>Res.ok (((x7,x30,x31):((Stp)×(((Int)×Int))×Int)))).bind fun x32=>appR s2 x32).bind fun (s33:List (((Stp)×(((Int)×Int))×Int)))=>Res.ok s33) x34 s1).bind fun (s35:((List (((Stp)×(((Int)×Int))×Int)))))=>Res.ok s35
def f_empty_table(v_elder:List (List Nat))(v_copy:List (List Nat)):Res (List (List (Unit))) :=
 ((rngR (((v_elder.length:Int))+((1:Int)))).bind fun x8=>(noExc (mapR (fun (z5:Int)=>(rngR (((v_copy.length:Int))+((1:Int)))).bind fun x7=>(noExc (mapR (fun (z6:Int)=>Res.ok (())) x7)).bind szR) x8)).bind szR).bind fun x10=>Res.ok (x10)
def f_kept_table(v_table:List (List (Option (Int)))):Res (List (List (Option (Int)))) :=
 ((noExc (mapR (fun (z2:List (Option (Int)))=>Res.ok (z2)) v_table)).bind szR).bind fun x4=>Res.ok (x4)
def f_price_table(v_elder:List (List Nat))(v_copy:List (List Nat))(v_prices:List (Int)):Res (List (List (Option (Int)))) :=
 ((f_empty_table v_elder v_copy).bind fun x5=>Res.ok ((List.map (List.map (fun _=>none))) x5)).bind fun (s6:List (List (Option (Int))))=>((placeR s6 ((0:Int))).bind fun q7=>(setR q7.2 ((0:Int)) (some ((0:Int)))).bind fun m8=>Res.ok (s6.set q7.1 m8)).bind fun (s9:List (List (Option (Int))))=>((rngR (((v_elder.length:Int))+((1:Int)))).bind fun x44=>forS (fun (s10:((List (List (Option (Int)))))) (x11:Int)=>((rngR (((v_copy.length:Int))+((1:Int)))).bind fun x42=>forS (fun (s12:((List (List (Option (Int)))))) (x13:Int)=>((f_priced_ends v_elder v_copy x11 x13 v_prices).bind fun x40=>forS (fun (s14:((List (List (Option (Int)))))) (x20:((Stp)×(((Int)×Int))×Int))=>((ixR s14 x20.2.1.1).bind fun x21=>ixR x21 x20.2.1.2).bind fun (s22:Option (Int))=>(if s22.isNone then Res.ok true else ((((ixR s14 x11).bind fun x23=>ixR x23 x13).bind fun x24=>getO x24).bind fun x25=>Res.ok (x25+x20.2.2)).bind fun x26=>(getO s22).bind fun x27=>Res.ok (decide (x26 < x27))).bind fun b39=>if b39 then (((((((ixR s14 x11).bind fun x31=>ixR x31 x13).bind fun x32=>getO x32).bind fun x33=>Res.ok (x33+x20.2.2)).bind fun x34=>Res.ok (some x34)).bind fun x37=>(placeR s14 x20.2.1.1).bind fun q35=>(setR q35.2 x20.2.1.2 x37).bind fun m36=>Res.ok (s14.set q35.1 m36)).bind fun (s38:List (List (Option (Int))))=>Res.ok s38) else (Res.ok s14)) x40 s12).bind fun (s41:((List (List (Option (Int))))))=>Res.ok s41) x42 s10).bind fun (s43:((List (List (Option (Int))))))=>Res.ok s43) x44 s9).bind fun (s45:((List (List (Option (Int))))))=>(f_kept_table s45).bind fun x49=>Res.ok (x49)
def f_rest_table(v_elder:List (List Nat))(v_copy:List (List Nat))(v_prices:List (Int)):Res (List (List (Option (Int)))) :=
 ((f_empty_table v_elder v_copy).bind fun x5=>Res.ok ((List.map (List.map (fun _=>none))) x5)).bind fun (s6:List (List (Option (Int))))=>((rrngR (((v_elder.length:Int))+((1:Int)))).bind fun x42=>forS (fun (s7:((List (List (Option (Int)))))) (x8:Int)=>((rrngR (((v_copy.length:Int))+((1:Int)))).bind fun x40=>forS (fun (s9:((List (List (Option (Int)))))) (x10:Int)=>(f_priced_ends v_elder v_copy x8 x10 v_prices).bind fun (s16:List (((Stp)×(((Int)×Int))×Int)))=>(((((noExc (mapR (fun (z30:((Stp)×(((Int)×Int))×Int))=>(((ixR s9 z30.2.1.1).bind fun x31=>ixR x31 z30.2.1.2).bind fun x32=>getO x32).bind fun x33=>Res.ok (z30.2.2+x33)) s16)).bind szR).bind fun x34=>Res.ok (minDR x34 ((0:Int)))).bind fun x35=>Res.ok (some x35)).bind fun x38=>(placeR s9 x8).bind fun q36=>(setR q36.2 x10 x38).bind fun m37=>Res.ok (s9.set q36.1 m37)).bind fun (s39:List (List (Option (Int))))=>Res.ok s39) x40 s7).bind fun (s41:((List (List (Option (Int))))))=>Res.ok s41) x42 s6).bind fun (s43:((List (List (Option (Int))))))=>(f_kept_table s43).bind fun x47=>Res.ok (x47)
def f_cheapest_ends(v_elder:List (List Nat))(v_copy:List (List Nat))(v_i:Int)(v_j:Int)(v_prices:List (Int))(v_rest:List (List (Option (Int)))):Res (List (((Stp)×((Int)×Int)))) :=
 (f_priced_ends v_elder v_copy v_i v_j v_prices).bind fun (s6:List (((Stp)×(((Int)×Int))×Int)))=>((noExc (lcR (fun (z21:((Stp)×(((Int)×Int))×Int))=>(((((ixR v_rest z21.2.1.1).bind fun x28=>ixR x28 z21.2.1.2).bind fun x29=>getO x29).bind fun x30=>Res.ok (z21.2.2+x30)).bind fun x31=>Res.ok (some x31)).bind fun x33=>((ixR v_rest v_i).bind fun x32=>ixR x32 v_j).bind fun x34=>Res.ok (decide (x33=x34))) (fun (z21:((Stp)×(((Int)×Int))×Int))=>Res.ok (((z21.1,z21.2.1):((Stp)×((Int)×Int))))) s6)).bind szR).bind fun x36=>Res.ok (x36)
noncomputable def f_least_slips(v_elder:List (List Nat))(v_copy:List (List Nat))(v_prices:List (Int)):Res (((Option (Int))×(List (Stp))×List (List (Option (Int))))) :=
 (f_rest_table v_elder v_copy v_prices).bind fun (s4:List (List (Option (Int))))=>let s5:List (Stp):=([]:List (Stp)); let s8:((Int)×Int):=(((0:Int),(0:Int)):((Int)×Int)); (whR (ρ:=Empty) (fun (s9:((List (Stp))×(((Int)×Int))))=>Res.ok (!decide (s9.2=(((v_elder.length:Int),(v_copy.length:Int)):((Int)×Int))))) (fun (s9:((List (Stp))×(((Int)×Int))))=>((f_cheapest_ends v_elder v_copy s9.2.1 s9.2.2 v_prices s4).bind fun x20=>ixR x20 ((0:Int))).bind fun (s21:((Stp)×((Int)×Int)))=>(appR s9.1 s21.1).bind fun (s22:List (Stp))=>let s23:((Int)×Int):=s21.2; Res.ok (Ctl.nx ((s22,s23)))) ((s5,s8))).bind fun c45=>c45.then (fun z=>nomatch z) fun (s24:((List (Stp))×(((Int)×Int))))=>(((ixR s4 ((0:Int))).bind fun x34=>ixR x34 ((0:Int))).bind fun x41=>(f_price_table v_elder v_copy v_prices).bind fun x42=>Res.ok (((x41,s24.1,x42):((Option (Int))×(List (Stp))×List (List (Option (Int))))))).bind fun x44=>Res.ok (x44)
def f_many_from(v_elder:List (List Nat))(v_copy:List (List Nat))(v_prices:List (Int))(v_rest:List (List (Option (Int)))):Res (List (List (Option (Int)))) :=
 ((f_empty_table v_elder v_copy).bind fun x5=>Res.ok ((List.map (List.map (fun _=>none))) x5)).bind fun (s6:List (List (Option (Int))))=>((rrngR (((v_elder.length:Int))+((1:Int)))).bind fun x37=>forS (fun (s7:((List (List (Option (Int)))))) (x8:Int)=>((rrngR (((v_copy.length:Int))+((1:Int)))).bind fun x35=>forS (fun (s9:((List (List (Option (Int)))))) (x10:Int)=>(f_cheapest_ends v_elder v_copy x8 x10 v_prices v_rest).bind fun (s17:List (((Stp)×((Int)×Int))))=>(((((noExc (mapR (fun (z22:((Stp)×((Int)×Int)))=>((ixR s9 z22.2.1).bind fun x23=>ixR x23 z22.2.2).bind fun x24=>getO x24) s17)).bind szR).bind fun x25=>Res.ok (x25.sum)).bind fun x26=>Res.ok (some x26)).bind fun x29=>(placeR s9 x8).bind fun q27=>(setR q27.2 x10 x29).bind fun m28=>Res.ok (s9.set q27.1 m28)).bind fun (s30:List (List (Option (Int))))=>(if decide (x8=(v_elder.length:Int)) then Res.ok (decide (x10=(v_copy.length:Int))) else Res.ok false).bind fun b34=>if b34 then (((placeR s30 x8).bind fun q31=>(setR q31.2 x10 (some ((1:Int)))).bind fun m32=>Res.ok (s30.set q31.1 m32)).bind fun (s33:List (List (Option (Int))))=>Res.ok s33) else (Res.ok s30)) x35 s7).bind fun (s36:((List (List (Option (Int))))))=>Res.ok s36) x37 s6).bind fun (s38:((List (List (Option (Int))))))=>Res.ok s38
def f_cheapest_many(v_elder:List (List Nat))(v_copy:List (List Nat))(v_prices:List (Int)):Res (Option (Int)) :=
 ((((f_rest_table v_elder v_copy v_prices).bind fun x24=>f_many_from v_elder v_copy v_prices x24).bind fun x25=>ixR x25 ((0:Int))).bind fun x26=>ixR x26 ((0:Int))).bind fun x28=>Res.ok (x28)
def f_many_to(v_elder:List (List Nat))(v_copy:List (List Nat))(v_prices:List (Int))(v_rest:List (List (Option (Int)))):Res (List (List (Option (Int)))) :=
 ((f_empty_table v_elder v_copy).bind fun x5=>Res.ok ((List.map (List.map (fun _=>none))) x5)).bind fun (s6:List (List (Option (Int))))=>((placeR s6 ((0:Int))).bind fun q7=>(setR q7.2 ((0:Int)) (some ((1:Int)))).bind fun m8=>Res.ok (s6.set q7.1 m8)).bind fun (s9:List (List (Option (Int))))=>((rngR (((v_elder.length:Int))+((1:Int)))).bind fun x46=>forS (fun (s10:((List (List (Option (Int)))))) (x11:Int)=>((rngR (((v_copy.length:Int))+((1:Int)))).bind fun x44=>forS (fun (s12:((List (List (Option (Int)))))) (x13:Int)=>(((ixR s12 x11).bind fun x14=>ixR x14 x13).bind fun x15=>Res.ok (x15.isSome)).bind fun b43=>if b43 then (((f_cheapest_ends v_elder v_copy x11 x13 v_prices v_rest).bind fun x41=>forS (fun (s16:((List (List (Option (Int)))))) (x23:((Stp)×((Int)×Int)))=>((((((ixR s16 x23.2.1).bind fun x30=>ixR x30 x23.2.2).bind fun x31=>if decide (x31.getD 0=0) then Res.ok ((0:Int)) else Res.ok (x31.getD 0)).bind fun x34=>(((ixR s16 x11).bind fun x32=>ixR x32 x13).bind fun x33=>getO x33).bind fun x35=>Res.ok (x34+x35)).bind fun x36=>Res.ok (some x36)).bind fun x39=>(placeR s16 x23.2.1).bind fun q37=>(setR q37.2 x23.2.2 x39).bind fun m38=>Res.ok (s16.set q37.1 m38)).bind fun (s40:List (List (Option (Int))))=>Res.ok s40) x41 s12).bind fun (s42:((List (List (Option (Int))))))=>Res.ok s42) else (Res.ok s12)) x44 s10).bind fun (s45:((List (List (Option (Int))))))=>Res.ok s45) x46 s9).bind fun (s47:((List (List (Option (Int))))))=>Res.ok s47
def f_sure_pairs(v_elder:List (List Nat))(v_copy:List (List Nat))(v_prices:List (Int)):Res (List (((Int)×Int))) :=
 (f_rest_table v_elder v_copy v_prices).bind fun (s4:List (List (Option (Int))))=>(f_many_to v_elder v_copy v_prices s4).bind fun (s9:List (List (Option (Int))))=>(f_many_from v_elder v_copy v_prices s4).bind fun (s14:List (List (Option (Int))))=>let s15:List (((Int)×Int)):=([]:List (((Int)×Int))); ((rngR ((v_elder.length:Int))).bind fun x58=>forS (fun (s16:((List (((Int)×Int))))) (x17:Int)=>((rngR ((v_copy.length:Int))).bind fun x56=>forS (fun (s18:((List (((Int)×Int))))) (x19:Int)=>(((ixR v_elder x17).bind fun x20=>(ixR v_copy x19).bind fun x21=>Res.ok (decide (x20=x21))).bind fun x28=>if x28 then ((ixR s4 (x17+((1:Int)))).bind fun x24=>ixR x24 (x19+((1:Int)))).bind fun x26=>((ixR s4 x17).bind fun x25=>ixR x25 x19).bind fun x27=>Res.ok (decide (x26=x27)) else Res.ok false).bind fun (s29:Bool)=>(if s29 then (((ixR s9 x17).bind fun x30=>ixR x30 x19).bind fun x31=>Res.ok (x31.isSome)).bind fun x49=>if x49 then (((((ixR s9 x17).bind fun x39=>ixR x39 x19).bind fun x40=>getO x40).bind fun x43=>(((ixR s14 (x17+((1:Int)))).bind fun x41=>ixR x41 (x19+((1:Int)))).bind fun x42=>getO x42).bind fun x44=>mulR x43 x44).bind fun x45=>Res.ok (some x45)).bind fun x47=>((ixR s14 ((0:Int))).bind fun x46=>ixR x46 ((0:Int))).bind fun x48=>Res.ok (decide (x47=x48)) else Res.ok false else Res.ok false).bind fun b55=>if b55 then ((appR s18 (((x17,x19):((Int)×Int)))).bind fun (s54:List (((Int)×Int)))=>Res.ok s54) else (Res.ok s18)) x56 s16).bind fun (s57:((List (((Int)×Int)))))=>Res.ok s57) x58 s15).bind fun (s59:((List (((Int)×Int)))))=>Res.ok (s59)
def f_law_cell_at(v_script:List (Int))(v_k:Int):Res (Int) :=
 if decide (v_k < (v_script.length:Int)) then ((ixR v_script v_k).bind fun x2=>Res.ok (x2)) else (Res.ok (((0:Int))))
def f_law_stir(v_cell:Int):Res (Int) :=
 ((mulR v_cell ((105172331949523456789012345678901234567:Int))).bind fun x2=>Res.ok (x2 % (170141183460469231731687303715884105727:Int))).bind fun x4=>Res.ok (x4)
def f_law_next(v_left:Int):Res (Int) :=
 ((mulR v_left ((83492791123456789012345678901234567891:Int))).bind fun x2=>Res.ok (x2 % (170141183460469231731687303715884105727:Int))).bind fun x4=>Res.ok (x4)
noncomputable def f_law_same(n:Nat)(v_found:PV)(v_due:PV):Res (Bool):=asB (d_law_same n [kV v_found,kV v_due])
def f_law_word_v1(v_seed:Int)(v_code:Int):Res (List Nat) :=
 let s1:List Nat:=([97,98,99,100,101,102,103,104,105,106,107,108,109,110,111,112,113,114,115,116,117,118,119,120,121,122]:List Nat); let s2:Int:=((1:Int))+(v_seed % (12:Int)); let s3:Int:=v_seed / (12:Int); let s4:List Nat:=([]:List Nat); ((rngR s2).bind fun x17=>forS (fun (s5:((Int)×(List Nat))) (x6:Int)=>let s7:Int:=(0:Int); (((modR (v_code / (3:Int)) s2).bind fun x8=>Res.ok (decide (x6=x8))).bind fun b16=>if b16 then (let s12:Int:=v_code % (3:Int); Res.ok s12) else (Res.ok s7)).bind fun s10=>(((ixR s1 ((s5.1+s10) % (26:Int))).bind fun z=>Res.ok [z]).bind fun x13=>catR s5.2 x13).bind fun (s14:List Nat)=>let s15:Int:=s5.1 / (26:Int); Res.ok ((s15,s14))) x17 ((s3,s4))).bind fun (s18:((Int)×(List Nat)))=>((if decide (v_code=(9:Int)) then Res.ok (decide (s2 < (12:Int))) else Res.ok false).bind fun b23=>if b23 then ((catR s18.2 (([113]:List Nat))).bind fun (s22:List Nat)=>Res.ok s22) else (Res.ok s18.2)).bind fun s20=>Res.ok s20
def f_law_prices(v_cell:Int):Res (List (Int)) :=
 (f_law_stir v_cell).bind fun (s2:Int)=>let s3:List (Int):=([]:List (Int)); ((rngR ((7:Int))).bind fun x21=>forS (fun (s4:((Int)×(List (Int)))) (x5:Int)=>let s6:Int:=(s4.1 / (4:Int)) % (4:Int); (if decide (s4.1 % (4:Int)=(1:Int)) then (let s10:Int:=(s4.1 / (4:Int)) % (12:Int); Res.ok s10) else (Res.ok s6)).bind fun s8=>((if decide (s4.1 % (4:Int)=(2:Int)) then Res.ok (decide (v_cell % (3:Int)=(1:Int))) else Res.ok false).bind fun b20=>if b20 then (((fdivR v_cell (x5+((1:Int)))).bind fun x15=>modR x15 (((10 ^ 30:Int))+((1:Int)))).bind fun (s16:Int)=>Res.ok s16) else (Res.ok s8)).bind fun s13=>(appR s4.2 s13).bind fun (s17:List (Int))=>(f_law_next s4.1).bind fun (s19:Int)=>Res.ok ((s19,s17))) x21 ((s2,s3))).bind fun (s22:((Int)×(List (Int))))=>Res.ok (s22.2)
def f_law_eye(v_elder:List (List Nat))(v_left:Int)(v_seed:Int)(v_most:Int):Res (List (List Nat)) :=
 let s1:Int:=if (if (v_most - ((v_elder.length:Int))) < ((v_left / (9000:Int)) % (12:Int)) then (v_most - ((v_elder.length:Int))) else ((v_left / (9000:Int)) % (12:Int))) > ((0:Int)) then (if (v_most - ((v_elder.length:Int))) < ((v_left / (9000:Int)) % (12:Int)) then (v_most - ((v_elder.length:Int))) else ((v_left / (9000:Int)) % (12:Int))) else ((0:Int)); (((rngR s1).bind fun x53=>(noExc (mapR (fun (z43:Int)=>((((mulR ((7:Int)) z43).bind fun x47=>mulR x47 z43).bind fun x48=>Res.ok ((v_left / (900:Int))+x48)).bind fun x49=>Res.ok (x49 % (10:Int))).bind fun x52=>f_law_word_v1 v_seed x52) x53)).bind szR).bind fun x56=>((ixR v_elder (-((1:Int)))).bind fun x55=>Res.ok (([x55]:List (List Nat)))).bind fun x57=>catR x56 x57).bind fun x59=>Res.ok (x59)
def f_law_slip(v_elder:List (List Nat))(v_copy:List (List Nat))(v_steps:List (Stp))(v_left:Int)(v_words:List (List Nat)):Res ((List (List Nat))×(List (List Nat))×(List (Stp))) :=
 noExc ((ixR v_words ((0:Int))).bind fun (s1:List Nat)=>(ixR v_words ((1:Int))).bind fun (s2:List Nat)=>let s3:Int:=v_left % (9:Int); (if decide (s3=(3:Int)) then Res.ok (!decide (s1=s2)) else Res.ok false).bind fun b34=>if b34 then ((appR v_elder s1).bind fun (s4:List (List Nat))=>(appR v_copy s2).bind fun (s5:List (List Nat))=>(appR v_steps (Stp.turn s2)).bind fun (s8:List (Stp))=>Res.ok ((s4,s5,s8))) else (if decide (s3=(4:Int)) then ((appR v_elder s1).bind fun (s9:List (List Nat))=>(appR v_steps Stp.lose).bind fun (s10:List (Stp))=>Res.ok ((s9,v_copy,s10))) else (if decide (s3=(5:Int)) then ((appR v_copy s1).bind fun (s11:List (List Nat))=>(appR v_steps (Stp.add s1)).bind fun (s14:List (Stp))=>Res.ok ((v_elder,s11,s14))) else ((if decide (s3=(6:Int)) then Res.ok (!decide (v_copy=([]:List (List Nat)))) else Res.ok false).bind fun b33=>if b33 then (((ixR v_copy (-((1:Int)))).bind fun x15=>appR v_copy x15).bind fun (s16:List (List Nat))=>(appR v_steps Stp.twice).bind fun (s17:List (Stp))=>Res.ok ((v_elder,s16,s17))) else ((if decide (s3=(7:Int)) then Res.ok (!decide (s1=s2)) else Res.ok false).bind fun b32=>if b32 then ((catR v_elder (([s1,s2]:List (List Nat)))).bind fun (s22:List (List Nat))=>(catR v_copy (([s2,s1]:List (List Nat)))).bind fun (s27:List (List Nat))=>(appR v_steps Stp.swap).bind fun (s28:List (Stp))=>Res.ok ((s22,s27,s28))) else ((appR v_elder s1).bind fun (s29:List (List Nat))=>(appR v_copy s1).bind fun (s30:List (List Nat))=>(appR v_steps Stp.keep).bind fun (s31:List (Stp))=>Res.ok ((s29,s30,s31))))))))
def f_law_pair_v2(v_cells:List (Int))(v_seed:Int)(v_most:Int):Res (((List (List Nat))×(List (List Nat))×List (Stp))) :=
 let s1:List (List Nat):=([]:List (List Nat)); let s2:List (List Nat):=([]:List (List Nat)); let s3:List (Stp):=([]:List (Stp)); (forS (fun (s4:((List (List Nat))×(List (List Nat))×(List (Stp)))) (x5:Int)=>(f_law_stir x5).bind fun (s7:Int)=>(if decide (s7 % (9:Int)=(8:Int)) then Res.ok (!decide (s4.1=([]:List (List Nat)))) else Res.ok false).bind fun b31=>if b31 then ((f_law_eye s4.1 s7 v_seed v_most).bind fun (s12:List (List Nat))=>(catR s4.1 s12).bind fun (s13:List (List Nat))=>(appR s4.2.2 (Stp.skip ((s12.length:Int)))).bind fun (s16:List (Stp))=>Res.ok ((s13,s4.2.1,s16))) else (((f_law_word_v1 v_seed ((s7 / (9:Int)) % (10:Int))).bind fun x27=>(f_law_word_v1 v_seed ((s7 / (90:Int)) % (10:Int))).bind fun x28=>Res.ok (([x27,x28]:List (List Nat)))).bind fun (s29:List (List Nat))=>(f_law_slip s4.1 s4.2.1 s4.2.2 s7 s29).bind fun (s30:((List (List Nat))×(List (List Nat))×(List (Stp))))=>Res.ok ((s30.1,s30.2.1,s30.2.2)))) v_cells ((s1,s2,s3))).bind fun (s32:((List (List Nat))×(List (List Nat))×(List (Stp))))=>Res.ok ((((s32.1,s32.2.1,s32.2.2):((List (List Nat))×(List (List Nat))×List (Stp)))))
def f_law_pairs(v_script:List (Int))(v_many:Int):Res (List (((List (List Nat))×List (List Nat)))) :=
 ((f_law_cell_at v_script ((0:Int))).bind fun x6=>f_law_stir x6).bind fun (s7:Int)=>let s8:List (Int):=cutL v_script (some ((2:Int))) none; let s17:List (((List (List Nat))×List (List Nat))):=([((([]:List (List Nat)),([]:List (List Nat))):((List (List Nat))×List (List Nat)))]:List (((List (List Nat))×List (List Nat)))); ((rng3P ((0:Int)) ((s8.length:Int)) v_many).bind fun x38=>forS (fun (s18:((List (((List (List Nat))×List (List Nat)))))) (x19:Int)=>(f_law_pair_v2 (cutL s8 (some x19) (some (x19+v_many))) s7 ((7:Int))).bind fun (s23:((List (List Nat))×(List (List Nat))×List (Stp)))=>(appR s18 (((cutL s23.1 none (some ((7:Int))),cutL s23.2.1 none (some ((7:Int)))):((List (List Nat))×List (List Nat))))).bind fun (s28:List (((List (List Nat))×List (List Nat))))=>(((ixR s8 x19).bind fun x30=>Res.ok (x30 % (3:Int))).bind fun x31=>Res.ok (decide (x31=(2:Int)))).bind fun b37=>if b37 then ((setR s28 (-((1:Int))) (((cutL s23.1 none (some ((7:Int))),cutL s23.2.1.reverse none (some ((7:Int)))):((List (List Nat))×List (List Nat))))).bind fun (s36:List (((List (List Nat))×List (List Nat))))=>Res.ok s36) else (Res.ok s28)) x38 s17).bind fun (s39:((List (((List (List Nat))×List (List Nat))))))=>((((f_law_cell_at v_script ((0:Int))).bind fun x45=>Res.ok (x45 % (4:Int))).bind fun x46=>Res.ok (decide (x46=(1:Int)))).bind fun b99=>if b99 then ((f_law_pair_v2 (cutL s8 none (some ((24:Int)))) s7 ((36:Int))).bind fun (s77:((List (List Nat))×(List (List Nat))×List (Stp)))=>((((f_law_cell_at v_script ((0:Int))).bind fun x90=>Res.ok (x90 / (4:Int))).bind fun x91=>Res.ok (x91 % (2:Int))).bind fun x92=>ixR (([(((40:Int),(3:Int)):((Int)×Int)),(((3:Int),(40:Int)):((Int)×Int))]:List (((Int)×Int)))) x92).bind fun (s93:((Int)×Int))=>(appR s39 (((cutL s77.1 none (some s93.1),cutL s77.2.1 none (some s93.2)):((List (List Nat))×List (List Nat))))).bind fun (s98:List (((List (List Nat))×List (List Nat))))=>Res.ok s98) else (Res.ok s39)).bind fun s72=>Res.ok s72
def f_law_steps_v1(v_elder:List (List Nat))(v_copy:List (List Nat))(v_i:Int)(v_j:Int):Res (List (Stp)) :=
 let s1:List (Stp):=([]:List (Stp)); let s2:List (List Nat):=cutL v_elder (some v_i) (some (v_i+((1:Int)))); let s3:List (List Nat):=cutL v_copy (some v_j) (some (v_j+((1:Int)))); ((if !decide (s2=([]:List (List Nat))) then Res.ok (decide (s3=s2)) else Res.ok false).bind fun b64=>if b64 then ((appR s1 Stp.keep).bind fun (s14:List (Stp))=>Res.ok s14) else ((if !decide (s2=([]:List (List Nat))) then Res.ok (!decide (s3=([]:List (List Nat)))) else Res.ok false).bind fun b21=>if b21 then ((((ixR s3 ((0:Int))).bind fun x18=>Res.ok (Stp.turn x18)).bind fun x19=>appR s1 x19).bind fun (s20:List (Stp))=>Res.ok s20) else (Res.ok s1))).bind fun s12=>(if !decide (s2=([]:List (List Nat))) then ((appR s12 Stp.lose).bind fun (s25:List (Stp))=>Res.ok s25) else (Res.ok s12)).bind fun s23=>(if !decide (s3=([]:List (List Nat))) then ((((ixR s3 ((0:Int))).bind fun x37=>Res.ok (Stp.add x37)).bind fun x38=>appR s23 x38).bind fun (s39:List (Stp))=>Res.ok s39) else (Res.ok s23)).bind fun s32=>((if !decide (s3=([]:List (List Nat))) then Res.ok (decide (cutL (cutL v_copy none (some v_j)) (some (-((1:Int)))) none=s3)) else Res.ok false).bind fun b63=>if b63 then ((appR s32 Stp.twice).bind fun (s43:List (Stp))=>Res.ok s43) else (Res.ok s32)).bind fun s41=>let s44:List (List Nat):=cutL v_elder (some v_i) (some (v_i+((2:Int)))); ((if decide ((s44.length:Int)=(2:Int)) then ((ixR s44 ((0:Int))).bind fun x45=>(ixR s44 ((1:Int))).bind fun x46=>Res.ok (!decide (x45=x46))).bind fun x47=>if x47 then Res.ok (decide (cutL v_copy (some v_j) (some (v_j+((2:Int))))=s44.reverse)) else Res.ok false else Res.ok false).bind fun b62=>if b62 then ((appR s41 Stp.swap).bind fun (s51:List (Stp))=>Res.ok s51) else (Res.ok s41)).bind fun s49=>((rng2R ((1:Int)) ((((v_elder.length:Int)) - v_i)+((1:Int)))).bind fun x60=>forS (fun (s52:((List (Stp)))) (x53:Int)=>(if decide ((0:Int) < v_i) then (ixR v_elder (v_i - ((1:Int)))).bind fun x54=>(ixR v_elder ((v_i+x53) - ((1:Int)))).bind fun x55=>Res.ok (decide (x54=x55)) else Res.ok false).bind fun b59=>if b59 then ((appR s52 (Stp.skip x53)).bind fun (s58:List (Stp))=>Res.ok s58) else (Res.ok s52)) x60 s49).bind fun (s61:((List (Stp))))=>Res.ok s61
def f_law_alike_v4(v_one:List Nat)(v_two:List Nat):Res (Bool) :=
 (if decide ((v_one.length:Int)=(v_two.length:Int)) then (((rngR ((v_one.length:Int))).bind fun x20=>(noExc (lcR (fun (z17:Int)=>((ixR v_one z17).bind fun z=>Res.ok [z]).bind fun x18=>((ixR v_two z17).bind fun z=>Res.ok [z]).bind fun x19=>Res.ok (!decide (x18=x19))) (fun (z17:Int)=>Res.ok (z17)) x20)).bind szR).bind fun x21=>Res.ok ((x21.length:Int))).bind fun x22=>Res.ok (decide (x22=(1:Int))) else Res.ok false).bind fun x24=>Res.ok (x24)
def f_law_price_v1(v_elder:List (List Nat))(v_i:Int)(v_step:Stp)(v_prices:List (Int)):Res (Int) :=
 if decide (stpN v_step=([107,101,101,112]:List Nat)) then (Res.ok (((0:Int)))) else (if decide (stpN v_step=([116,117,114,110]:List Nat)) then ((((((ixR v_elder v_i).bind fun x11=>((stp1 v_step).bind decS).bind fun x12=>f_law_alike_v4 x11 x12).bind fun x13=>Res.ok (if x13 then 1 else 0)).bind fun x14=>Res.ok (((1:Int)) - x14)).bind fun x15=>ixR v_prices x15).bind fun x17=>Res.ok (x17)) else ((((indexR (([([108,111,115,101]:List Nat),([97,100,100]:List Nat),([116,119,105,99,101]:List Nat),([115,119,97,112]:List Nat),([115,107,105,112]:List Nat)]:List (List Nat))) (stpN v_step)).bind fun x20=>Res.ok (((2:Int))+x20)).bind fun x21=>ixR v_prices x21).bind fun x23=>Res.ok (x23)))
def f_law_end(v_i:Int)(v_j:Int)(v_step:Stp):Res (((Int)×Int)) :=
 ((Res.ok (([(((1:Int),(1:Int)):((Int)×Int)),(((1:Int),(1:Int)):((Int)×Int)),(((1:Int),(0:Int)):((Int)×Int)),(((0:Int),(1:Int)):((Int)×Int)),(((0:Int),(1:Int)):((Int)×Int)),(((2:Int),(2:Int)):((Int)×Int))]:List (((Int)×Int))))).bind fun l31=>if l31.length=([[107,101,101,112],[116,117,114,110],[108,111,115,101],[97,100,100],[116,119,105,99,101],[115,119,97,112]]:List (List Nat)).length then Res.ok (([[107,101,101,112],[116,117,114,110],[108,111,115,101],[97,100,100],[116,119,105,99,101],[115,119,97,112]]:List (List Nat)).zip l31) else Res.bad).bind fun (s32:List ((List Nat)×(((Int)×Int))))=>if decide (stpN v_step=([115,107,105,112]:List Nat)) then (((((stp1 v_step).bind decI).bind fun x37=>Res.ok (v_i+x37)).bind fun x40=>Res.ok (((x40,v_j):((Int)×Int)))).bind fun x42=>Res.ok (x42)) else (((((dixR s32 (stpN v_step)).bind fun x51=>Res.ok (x51.1)).bind fun x52=>Res.ok (v_i+x52)).bind fun x57=>(((dixR s32 (stpN v_step)).bind fun x53=>Res.ok (x53.2)).bind fun x54=>Res.ok (v_j+x54)).bind fun x58=>Res.ok (((x57,x58):((Int)×Int)))).bind fun x60=>Res.ok (x60))
def f_law_arms(v_elder:List (List Nat))(v_copy:List (List Nat))(v_prices:List (Int))(v_i:Int)(v_j:Int):Res (List (((Stp)×(((Int)×Int))×Int))) :=
 let s1:List (((Stp)×(((Int)×Int))×Int)):=([]:List (((Stp)×(((Int)×Int))×Int))); ((f_law_steps_v1 v_elder v_copy v_i v_j).bind fun x34=>forS (fun (s2:((List (((Stp)×(((Int)×Int))×Int))))) (x7:Stp)=>(((f_law_end v_i v_j x7).bind fun x30=>(f_law_price_v1 v_elder v_i x7 v_prices).bind fun x31=>Res.ok (((x7,x30,x31):((Stp)×(((Int)×Int))×Int)))).bind fun x32=>appR s2 x32).bind fun (s33:List (((Stp)×(((Int)×Int))×Int)))=>Res.ok s33) x34 s1).bind fun (s35:((List (((Stp)×(((Int)×Int))×Int)))))=>Res.ok s35
def f_law_knots(v_elder:List (List Nat))(v_copy:List (List Nat)):Res (List (((Int)×Int))) :=
 let s1:List (((Int)×Int)):=([]:List (((Int)×Int))); ((rngR (((v_elder.length:Int))+((1:Int)))).bind fun x13=>forS (fun (s2:((List (((Int)×Int))))) (x3:Int)=>((rngR (((v_copy.length:Int))+((1:Int)))).bind fun x11=>forS (fun (s4:((List (((Int)×Int))))) (x5:Int)=>(appR s4 (((x3,x5):((Int)×Int)))).bind fun (s10:List (((Int)×Int)))=>Res.ok s10) x11 s2).bind fun (s12:((List (((Int)×Int)))))=>Res.ok s12) x13 s1).bind fun (s14:((List (((Int)×Int)))))=>Res.ok s14
def f_law_all_rows(v_elder:List (List Nat))(v_copy:List (List Nat))(v_prices:List (Int)):Res (List (((Int)×(List (Stp))×List (((Int)×Int))))) :=
 let s16:List ((((Int)×Int))×(List (((Int)×(List (Stp))×List (((Int)×Int)))))):=([((((v_elder.length:Int),(v_copy.length:Int)):((Int)×Int)),([(((0:Int),([]:List (Stp)),([]:List (((Int)×Int)))):((Int)×(List (Stp))×List (((Int)×Int))))]:List (((Int)×(List (Stp))×List (((Int)×Int))))))]:List ((((Int)×Int))×(List (((Int)×(List (Stp))×List (((Int)×Int))))))); (((f_law_knots v_elder v_copy).bind fun x20=>Res.ok (x20.reverse)).bind fun x53=>forS (fun (s17:((List ((((Int)×Int))×(List (((Int)×(List (Stp))×List (((Int)×Int))))))))) (x21:((Int)×Int))=>(if !(dfind s17 x21).isSome then ((dnewR s17 x21).bind fun (s25:List ((((Int)×Int))×(List (((Int)×(List (Stp))×List (((Int)×Int)))))))=>Res.ok s25) else (Res.ok s17)).bind fun s23=>((f_law_arms v_elder v_copy v_prices x21.1 x21.2).bind fun x51=>forS (fun (s26:((List ((((Int)×Int))×(List (((Int)×(List (Stp))×List (((Int)×Int))))))))) (x32:((Stp)×(((Int)×Int))×Int))=>let s33:List (((Int)×Int)):=([]:List (((Int)×Int))); (if decide (stpN x32.1=([107,101,101,112]:List Nat)) then (let s41:List (((Int)×Int)):=([x21]:List (((Int)×Int))); Res.ok s41) else (Res.ok s33)).bind fun s37=>(forAppR s26 x32.2.1 x21 (fun (x42:((Int)×(List (Stp))×List (((Int)×Int))))=>(catR (([x32.1]:List (Stp))) x42.2.1).bind fun x48=>(catR s37 x42.2.2).bind fun x49=>Res.ok (((x32.2.2+x42.1,x48,x49):((Int)×(List (Stp))×List (((Int)×Int))))))).bind fun (s50:List ((((Int)×Int))×(List (((Int)×(List (Stp))×List (((Int)×Int)))))))=>Res.ok s50) x51 s23).bind fun (s52:((List ((((Int)×Int))×(List (((Int)×(List (Stp))×List (((Int)×Int)))))))))=>Res.ok s52) x53 s16).bind fun (s54:((List ((((Int)×Int))×(List (((Int)×(List (Stp))×List (((Int)×Int)))))))))=>(dixR s54 ((((0:Int),(0:Int)):((Int)×Int)))).bind fun x60=>Res.ok (x60)
def f_law_in_all(v_rows:List (((Int)×(List (Stp))×List (((Int)×Int))))):Res (List (((Int)×Int))) :=
 (((ixR v_rows ((0:Int))).bind fun x9=>Res.ok (x9.2.2)).bind fun x16=>(noExc (lcR (fun (z10:((Int)×Int))=>(((noExc (lcR (fun (z13:((Int)×(List (Stp))×List (((Int)×Int))))=>Res.ok (memB z10 z13.2.2)) (fun (z13:((Int)×(List (Stp))×List (((Int)×Int))))=>Res.ok (z13)) v_rows)).bind szR).bind fun x14=>Res.ok ((x14.length:Int))).bind fun x15=>Res.ok (decide (x15=(v_rows.length:Int)))) (fun (z10:((Int)×Int))=>Res.ok (z10)) x16)).bind szR).bind fun x18=>Res.ok (x18)
noncomputable def f_law_v64(v_script:List (Int)):Res (Bool) :=
 ((f_law_cell_at v_script ((1:Int))).bind fun x6=>f_law_prices x6).bind fun (s7:List (Int))=>((f_law_pairs v_script ((3:Int))).bind fun x74=>forT (ρ:=Bool) (fun (s8:Unit) (x11:((List (List Nat))×List (List Nat)))=>let s12:List (List Nat):=cutL x11.1 none (some ((3:Int))); let s13:List (List Nat):=cutL x11.2 none (some ((3:Int))); (f_law_all_rows s12 s13 s7).bind fun (s17:List (((Int)×(List (Stp))×List (((Int)×Int)))))=>(((noExc (mapR (fun (z18:((Int)×(List (Stp))×List (((Int)×Int))))=>Res.ok (z18.1)) s17)).bind szR).bind fun x19=>minR x19).bind fun (s20:Int)=>((noExc (lcR (fun (z21:((Int)×(List (Stp))×List (((Int)×Int))))=>Res.ok (decide (z21.1=s20))) (fun (z21:((Int)×(List (Stp))×List (((Int)×Int))))=>Res.ok (z21)) s17)).bind szR).bind fun (s22:List (((Int)×(List (Stp))×List (((Int)×Int)))))=>(f_least_slips s12 s13 s7).bind fun (s26:((Option (Int))×(List (Stp))×List (List (Option (Int)))))=>((((((ixR s22 ((0:Int))).bind fun x31=>Res.ok (x31.2.1)).bind fun x34=>Res.ok (((s20,x34):((Int)×List (Stp))))).bind fun x35=>Res.ok ((kP2 kI (kT kStp)) x35)).bind fun x38=>f_law_same 8 ((kP2 (kO kI) (kT kStp)) (((s26.1,s26.2.1):((Option (Int))×List (Stp))))) x38).bind fun x39=>Res.ok (!x39)).bind fun b73=>if b73 then (Res.ok ((Ctl.rt false))) else (((((f_cheapest_many s12 s13 s7).bind fun x47=>Res.ok ((kO kI) x47)).bind fun x50=>f_law_same 8 x50 (kI ((s22.length:Int)))).bind fun x51=>Res.ok (!x51)).bind fun b72=>if b72 then (Res.ok ((Ctl.rt false))) else (((((f_sure_pairs s12 s13 s7).bind fun x61=>Res.ok ((kT (kP2 kI kI)) x61)).bind fun x67=>(((f_law_in_all s22).bind fun x63=>sortR (Ordk.lt (kP2 kI kI)) x63).bind fun x64=>Res.ok ((kT (kP2 kI kI)) x64)).bind fun x68=>f_law_same 8 x67 x68).bind fun x69=>Res.ok (!x69)).bind fun b71=>if b71 then (Res.ok ((Ctl.rt false))) else (Res.ok (Ctl.nx (())))))) x74 (())).bind fun c78=>c78.then (fun (r77:Bool)=>Res.ok r77) fun (s75:Unit)=>Res.ok (true)
end Vm
end
section
set_option linter.all false
set_option maxHeartbeats 1000000
set_option maxRecDepth 10000
namespace Vm
abbrev Row:=List (List Nat)
def headS(e c:Row)(i j:Int):List Stp:=if i < e.length∧j < c.length then (if gt e i=gt c j then [.keep] else [.turn (gt c j)]) else []
def loseS(e:Row)(i:Int):List Stp:=if i < e.length then [.lose] else []
def addS(c:Row)(j:Int):List Stp:=if j < c.length then [.add (gt c j)] else []
def twiceS(c:Row)(j:Int):List Stp:=if j < c.length∧0 < j∧gt c (j - 1)=gt c j then [.twice] else []
def swapS(e c:Row)(i j:Int):List Stp:=if (i+1 < e.length∧j+1 < c.length)∧gt e i ≠ gt e (i+1)∧gt c j=gt e (i+1)∧gt c (j+1)=gt e i then [.swap] else []
def skipS(e:Row)(i:Int):List Stp:=if i=0 then [] else ((rngI 1 (e.length - i+1)).filter fun k=>decide (gt e (i+k - 1)=gt e (i - 1))).map .skip
def stepsAt(e c:Row)(i j:Int):List Stp:=headS e c i j++loseS e i++addS c j++twiceS c j++swapS e c i j++skipS e i
theorem headS_le(e c:Row)(i j:Int):(headS e c i j).length≤1:=by unfold headS; (repeat' split) <;> simp
theorem loseS_le(e:Row)(i:Int):(loseS e i).length≤1:=by unfold loseS; split <;> simp
theorem addS_le(c:Row)(j:Int):(addS c j).length≤1:=by unfold addS; split <;> simp
theorem twiceS_le(c:Row)(j:Int):(twiceS c j).length≤1:=by unfold twiceS; split <;> simp
theorem swapS_le(e c:Row)(i j:Int):(swapS e c i j).length≤1:=by unfold swapS; split <;> simp
theorem skipS_le(e:Row)(i:Int)(h:0≤i):(skipS e i).length≤e.length:=by
 unfold skipS; split
 ·simp
 ·rw [List.length_map]
  refine Nat.le_trans (List.length_filter_le _ _) ?_
  rw [rngI_length]; omega
section
variable {e c:Row} {i j:Int} (he:e.length≤1000) (hc:c.length≤1000) (i0:0≤i) (i1:i≤e.length) (j0:0≤j) (j1:j≤c.length)
include he i0 i1 in
theorem skips_ok:f_skips_at e i = .ok (skipS e i):=by
 unfold f_skips_at skipS
 by_cases h:i=0
 ·simp [h]
 ·rw [if_neg (by simpa using h),if_neg h,rng2R_ok (by omega) (by omega) (by omega) (by omega),bind_ok,lcR_sz (fun k=>decide (gt e (i+k - 1)=gt e (i - 1))) (fun k=>Stp.skip k) (fun k hk=>by
   obtain ⟨a,b⟩:=mem_rngI.mp hk
   rw [ixR_gt (by omega) (by omega),ixR_gt (by omega) (by omega)]
   exact ⟨rfl,fun _=>rfl⟩) (by rw [rngI_length]; omega)]
  rfl
include he hc i0 i1 j0 j1 in
theorem swaps_ok:f_swaps_at e c i j = .ok (swapS e c i j):=by
 unfold f_swaps_at swapS
 by_cases h1:i+1 < e.length
 ·by_cases h2:j+1 < c.length
  ·rw [ixR_gt (l:=e) (i:=i) (by omega) (by omega),ixR_gt (l:=e) (i:=i+1) (by omega) (by omega),ixR_gt (l:=c) (i:=j) (by omega) (by omega),ixR_gt (l:=c) (i:=j+1) (by omega) (by omega)]
   have n1:¬ ((e.length:Int)≤i+1):=by omega
   have n2:¬ ((c.length:Int)≤j+1):=by omega
   by_cases h3:gt e i=gt e (i+1)
   ·simp [h1,h2,h3,n1,n2]
   ·by_cases h4:gt c j=gt e (i+1)
    ·by_cases h5:gt c (j+1)=gt e i <;> simp [h1,h2,h3,h4,h5,n1,n2]
    ·simp [h1,h2,h3,h4,n1,n2]
  ·have n1:¬ ((e.length:Int)≤i+1):=by omega
   have n2:(c.length:Int)≤j+1:=by omega
   simp [h1,h2,n1,n2]
 ·have n1:(e.length:Int)≤i+1:=by omega
  simp [h1,n1]
include he hc i0 i1 j0 j1 in
theorem knot_ok:f_knot_steps e c i j = .ok (stepsAt e c i j):=by
 unfold f_knot_steps
 rw [swaps_ok he hc i0 i1 j0 j1,skips_ok he i0 i1]
 have e1:∀ (k:Res (List Stp)) (F:List Stp→Res (List Stp)),k = .ok (headS e c i j)→k.bind F=F (headS e c i j):=fun k F h=>by rw [h]; rfl
 have l1:=headS_le e c i j
 have l2:=loseS_le e i
 have l3:=addS_le c j
 have l4:=twiceS_le c j
 have l5:=swapS_le e c i j
 have l6:=skipS_le e i i0
 show Res.bind _ _=_
 rw [e1 _ _ (by
  unfold headS
  by_cases h1:i < e.length
  ·by_cases h2:j < c.length
   ·rw [ixR_gt (l:=e) (i:=i) (by omega) (by omega),ixR_gt (l:=c) (i:=j) (by omega) (by omega)]
    by_cases h3:gt e i=gt c j
    ·simp [h1,h2,h3,appR]
    ·simp [h1,h2,h3,appR]
   ·simp [h1,h2]
  ·simp [h1])]
 have e2:∀ (k:Res (List Stp)) (F:List Stp→Res (List Stp)),k = .ok (headS e c i j++loseS e i)→k.bind F=F (headS e c i j++loseS e i):=fun k F h=>by rw [h]; rfl
 show Res.bind _ _=_
 rw [e2 _ _ (by
  unfold loseS
  by_cases h1:i < e.length
  ·rw [if_pos (by simpa using h1),appR_ok (by omega),if_pos h1]; rfl
  ·rw [if_neg (by simpa using h1),if_neg h1,List.append_nil])]
 have e3:∀ (k:Res (List Stp)) (F:List Stp→Res (List Stp)),k = .ok (headS e c i j++loseS e i++addS c j++twiceS c j)→k.bind F=F (headS e c i j++loseS e i++addS c j++twiceS c j):=fun k F h=>by rw [h]; rfl
 show Res.bind _ _=_
 rw [e3 _ _ (by
  unfold addS twiceS
  by_cases h1:j < c.length
  ·have l7:(headS e c i j++loseS e i).length≤2:=by rw [List.length_append]; omega
   rw [if_pos (by simpa using h1),ixR_gt (l:=c) (i:=j) (by omega) (by omega),if_pos h1,bind_ok,bind_ok,appR_ok (by omega),bind_ok]
   have l8:(headS e c i j++loseS e i++[Stp.add (gt c j)]).length≤3:=by rw [List.length_append]; simp only [List.length_cons,List.length_nil]; omega
   by_cases h2:0 < j
   ·rw [if_pos (by simpa using h2),ixR_gt (by omega) (by omega),bind_ok,bind_ok,bind_ok]
    by_cases h3:gt c (j - 1)=gt c j
    ·rw [if_pos (by simpa using h3),appR_ok (by omega),if_pos ⟨h1,h2,h3⟩]; rfl
    ·rw [if_neg (by simpa using h3),if_neg (fun h=>h3 h.2.2),List.append_nil]
   ·rw [if_neg (by simpa using h2),if_neg (fun h=>h2 h.2.1),bind_ok,List.append_nil]
    rfl
  ·rw [if_neg (by simpa using h1),if_neg h1,if_neg (fun h=>h1 h.1),List.append_nil,List.append_nil])]
 have l9:(headS e c i j++loseS e i++addS c j++twiceS c j).length≤4:=by simp only [List.length_append]; omega
 rw [bind_ok,catR_ok (by omega),bind_ok,bind_ok,catR_ok (by rw [List.length_append]; omega)]
 rfl
end
theorem stepsAt_le(e c:Row)(i j:Int)(h:0≤i):(stepsAt e c i j).length≤e.length+5:=by
 have l1:=headS_le e c i j
 have l2:=loseS_le e i
 have l3:=addS_le c j
 have l4:=twiceS_le c j
 have l5:=swapS_le e c i j
 have l6:=skipS_le e i h
 unfold stepsAt
 simp only [List.length_append]
 omega
end Vm
end
section
set_option linter.all false
set_option maxHeartbeats 1000000
set_option maxRecDepth 10000
namespace Vm
def Rk{α:Type}(r:Res α)(P:α→Prop):Prop:=∃ x,r = .ok x∧P x
section
variable {α β σ ι ρ:Type} {r:Res α} {P Q:α→Prop} {f:α→Res β} {T:β→Prop}
theorem Rk.ok{x:α}(h:P x):Rk (.ok x) P:=⟨x,rfl,h⟩
theorem Rk.of{x:α}(e:r = .ok x)(h:P x):Rk r P:=⟨x,e,h⟩
theorem Rk.eq{x:α}(h:Rk r (· = x)):r = .ok x:=by obtain ⟨y,h1,h2⟩:=h; rw [h1,h2]
theorem Rk.mono(h:Rk r P)(k:∀ x,P x→Q x):Rk r Q:=by obtain ⟨x,h1,h2⟩:=h; exact ⟨x,h1,k x h2⟩
theorem Rk.bind(h:Rk r P)(k:∀ x,P x→Rk (f x) T):Rk (r.bind f) T:=by
 obtain ⟨x,h1,h2⟩:=h; rw [h1]; exact k x h2
theorem Rk.bok{x:α}(e:r = .ok x)(k:Rk (f x) T):Rk (r.bind f) T:=by rw [e]; exact k
theorem Rk.ite{c:Prop}[Decidable c]{a b:Res α}(h1:c→Rk a P)(h2:¬ c→Rk b P):Rk (if c then a else b) P:=by split <;> rename_i h; exact h1 h; exact h2 h
theorem Rk.itd{c:Prop}[Decidable c]{a b:Res α}(h1:c→Rk a P)(h2:¬ c→Rk b P):Rk (if decide c then a else b) P:=by
 by_cases h:c
 ·rw [if_pos (by simpa using h)]; exact h1 h
 ·rw [if_neg (by simpa using h)]; exact h2 h
theorem Rk.itn{c:Prop}[Decidable c]{a b:Res α}(h1:¬ c→Rk a P)(h2:c→Rk b P):Rk (if !decide c then a else b) P:=by
 by_cases h:c
 ·rw [if_neg (by simpa using h)]; exact h2 h
 ·rw [if_pos (by simpa using h)]; exact h1 h
theorem Rk.noExc(h:Rk r P):Rk (noExc r) P:=by obtain ⟨x,h1,h2⟩:=h; rw [h1]; exact ⟨x,rfl,h2⟩
theorem Rk.and{c:Prop}[Decidable c]{b:Res Bool}{k:Bool→Res β}(h1:c→Rk (b.bind k) T)(h2:¬ c→Rk (k false) T):Rk ((if decide c then b else Res.ok false).bind k) T:=by
 by_cases h:c
 ·rw [if_pos (by simpa using h)]; exact h1 h
 ·rw [if_neg (by simpa using h)]; exact h2 h
theorem Rk.or{c:Prop}[Decidable c]{b:Res Bool}{k:Bool→Res β}(h1:c→Rk (k true) T)(h2:¬ c→Rk (b.bind k) T):Rk ((if decide c then Res.ok true else b).bind k) T:=by
 by_cases h:c
 ·rw [if_pos (by simpa using h)]; exact h1 h
 ·rw [if_neg (by simpa using h)]; exact h2 h
theorem Rk.itb{c:Bool}{a b:Res α}(h1:c=true→Rk a P)(h2:c=false→Rk b P):Rk (if c then a else b) P:=by
 cases c
 ·exact h2 rfl
 ·exact h1 rfl
theorem Rk.for{F:σ→ι→Res σ}{l:List ι}{s:σ}{Q:σ→Prop}(I:Nat→σ→Prop)(h0:I 0 s)(hs:∀ i x s,l[i]? = some x→I i s→Rk (F s x) (I (i+1)))(hq:∀ s,I l.length s→Q s):Rk (forS F l s) Q:=by
 obtain ⟨s',h1,h2⟩:=forS_inv I l s h0 hs
 exact ⟨s',h1,hq s' h2⟩
theorem Rk.forU{F:Unit→ι→Res (Ctl Unit ρ)}{l:List ι}(h:∀ x∈l,Rk (F () x) (· = Ctl.nx ())):Vm.forT F l () = .ok (.nx ()) :=
 forT_all fun x hx=>(h x hx).eq
theorem Rk.maps{f:ι→Res α}{l:List ι}(G:α→Prop)(h:∀ x∈l,Rk (f x) G)(hz:l.length≤16777216):Rk ((Vm.noExc (mapR f l)).bind szR) fun ys=>ys.length=l.length∧∀ y∈ys,G y:=by
 obtain ⟨ys,h1,h2,h3⟩:=mapR_all G h hz
 exact ⟨ys,h1,h2,h3⟩
theorem Rk.mapb{f:ι→Res α}{l:List ι}{K:List α→Res β}(G:α→Prop)(h:∀ x∈l,Rk (f x) G)(hz:l.length≤16777216)(k:∀ ys,ys.length=l.length→(∀ y∈ys,G y)→Rk (K ys) T):Rk ((Vm.noExc (mapR f l)).bind fun a=>(szR a).bind K) T:=by
 rw [← bind_assoc]
 exact Rk.bind (Rk.maps G h hz) fun ys hy=>k ys hy.1 hy.2
theorem Rk.mape{f:ι→Res α}{l:List ι}{K:List α→Res β}(g:ι→α)(h:∀ x∈l,f x = .ok (g x))(hz:l.length≤16777216)(k:Rk (K (l.map g)) T):Rk ((Vm.noExc (mapR f l)).bind fun a=>(szR a).bind K) T:=by
 rw [← bind_assoc,mapR_sz g h hz]
 exact k
theorem Rk.lcb{c:ι→Res Bool}{f:ι→Res α}{l:List ι}{K:List α→Res β}(p:ι→Bool)(g:ι→α)(h:∀ x∈l,c x = .ok (p x)∧(p x=true→f x = .ok (g x)))(hz:l.length≤16777216)(k:Rk (K ((l.filter p).map g)) T):Rk ((Vm.noExc (lcR c f l)).bind fun a=>(szR a).bind K) T:=by
 rw [← bind_assoc,lcR_sz p g h hz]
 exact k
theorem Rk.ix[Inhabited α]{l:List α}{i:Int}(h0:0≤i)(h1:i < l.length)(h:P (gt l i)):Rk (ixR l i) P:=⟨_,ixR_gt h0 h1,h⟩
theorem Rk.cat{l m:List α}{Q:List α→Prop}(h:l.length+m.length≤16777216)(hq:Q (l++m)):Rk (catR l m) Q:=⟨_,catR_ok h,hq⟩
end
end Vm
end
section
set_option linter.all false
set_option maxHeartbeats 1000000
set_option maxRecDepth 10000
namespace Vm
abbrev P7:=Int×Int×Int×Int×Int×Int×Int
def l7(p:P7):List Int:=[p.1,p.2.1,p.2.2.1,p.2.2.2.1,p.2.2.2.2.1,p.2.2.2.2.2.1,p.2.2.2.2.2.2]
def P7.ok(p:P7):Prop:=0≤p.1∧0≤p.2.1∧0≤p.2.2.1∧0≤p.2.2.2.1∧0≤p.2.2.2.2.1∧0≤p.2.2.2.2.2.1∧0≤p.2.2.2.2.2.2
def alikeB(a b:List Nat):Bool:=decide (a.length=b.length) && decide ((((signs a).zip (signs b)).filter fun z=>!decide (z.1=z.2)).length=1)
def costS(e:Row)(p:P7)(i:Int):Stp→Int
 | .keep=>0
 | .turn w=>if alikeB (gt e i) w then p.1 else p.2.1
 | .lose=>p.2.2.1
 | .add _=>p.2.2.2.1
 | .twice=>p.2.2.2.2.1
 | .swap=>p.2.2.2.2.2.1
 | .skip _=>p.2.2.2.2.2.2
def endS(i j:Int):Stp→Int×Int
 | .keep=>(i+1,j+1)
 | .turn _=>(i+1,j+1)
 | .lose=>(i+1,j)
 | .add _=>(i,j+1)
 | .twice=>(i,j+1)
 | .swap=>(i+2,j+2)
 | .skip k=>(i+k,j)
abbrev Ends:=List (Stp×(Int×Int)×Int)
def endsAt(e c:Row)(p:P7)(i j:Int):Ends:=(stepsAt e c i j).map fun s=>(s,endS i j s,costS e p i s)
structure okR (e:Row):Prop where
 l:e.length≤1000
 w:∀ w∈e,w.length≤1000
structure kn (e c:Row) (i j:Int):Prop where
 i0:0≤i
 i1:i≤e.length
 j0:0≤j
 j1:j≤c.length
theorem mem_skipS{e:Row}{i:Int}{s:Stp}(h:s∈skipS e i):∃ k,s = .skip k∧1≤k∧i+k≤e.length∧0 ≠ i∧gt e (i+k - 1)=gt e (i - 1):=by
 unfold skipS at h
 split at h
 ·simp at h
 ·rename_i h0
  obtain ⟨k,hk,rfl⟩:=List.mem_map.mp h
  obtain ⟨h1,h2⟩:=List.mem_filter.mp hk
  obtain ⟨a,b⟩:=mem_rngI.mp h1
  exact ⟨k,rfl,a,by omega,by omega,by simpa using h2⟩
theorem mem_stepsAt{e c:Row}{i j:Int}{s:Stp}(h:s∈stepsAt e c i j) :
  (s = .keep∧i < e.length∧j < c.length∧gt e i=gt c j) ∨ (s = .turn (gt c j)∧i < e.length∧j < c.length∧gt e i ≠ gt c j) ∨ (s = .lose∧i < e.length) ∨ (s = .add (gt c j)∧j < c.length) ∨ (s = .twice∧j < c.length∧0 < j∧gt c (j - 1)=gt c j) ∨ (s = .swap∧i+1 < e.length∧j+1 < c.length∧gt e i ≠ gt e (i+1)∧gt c j=gt e (i+1)∧gt c (j+1)=gt e i) ∨ (∃ k,s = .skip k∧1≤k∧i+k≤e.length∧0 ≠ i∧gt e (i+k - 1)=gt e (i - 1)):=by
 unfold stepsAt at h
 simp only [List.mem_append] at h
 rcases h with ((((h | h) | h) | h) | h) | h
 ·unfold headS at h
  split at h
  ·rename_i h1
   split at h
   ·rename_i h2
    rw [List.mem_singleton] at h; exact .inl ⟨h,h1.1,h1.2,h2⟩
   ·rename_i h2
    rw [List.mem_singleton] at h; exact .inr (.inl ⟨h,h1.1,h1.2,h2⟩)
  ·simp at h
 ·unfold loseS at h
  split at h
  ·rename_i h1; rw [List.mem_singleton] at h; exact .inr (.inr (.inl ⟨h,h1⟩))
  ·simp at h
 ·unfold addS at h
  split at h
  ·rename_i h1; rw [List.mem_singleton] at h; exact .inr (.inr (.inr (.inl ⟨h,h1⟩)))
  ·simp at h
 ·unfold twiceS at h
  split at h
  ·rename_i h1; rw [List.mem_singleton] at h; exact .inr (.inr (.inr (.inr (.inl ⟨h,h1.1,h1.2.1,h1.2.2⟩))))
  ·simp at h
 ·unfold swapS at h
  split at h
  ·rename_i h1; rw [List.mem_singleton] at h; exact .inr (.inr (.inr (.inr (.inr (.inl ⟨h,h1.1.1,h1.1.2,h1.2.1,h1.2.2.1,h1.2.2.2⟩)))))
  ·simp at h
 ·exact .inr (.inr (.inr (.inr (.inr (.inr (mem_skipS h))))))
structure Onw (e c:Row) (i j:Int) (z:Int×Int):Prop where
 k:kn e c z.1 z.2
 ii:i≤z.1
 jj:j≤z.2
 n:i+j < z.1+z.2
theorem onw{e c:Row}{i j:Int}{s:Stp}(k:kn e c i j)(h:s∈stepsAt e c i j):Onw e c i j (endS i j s):=by
 obtain ⟨a,b,d,f⟩:=k
 rcases mem_stepsAt h with ⟨rfl,h⟩ | ⟨rfl,h⟩ | ⟨rfl,h⟩ | ⟨rfl,h⟩ | ⟨rfl,h⟩ | ⟨rfl,h⟩ | ⟨k,rfl,h⟩ <;> simp only [endS] <;>
  exact ⟨⟨by simp only; omega,by simp only; omega,by simp only; omega,by simp only; omega⟩,by simp only; omega,by simp only; omega,by simp only; omega⟩
theorem mem_ends{e c:Row}{p:P7}{i j:Int}{z:Stp×(Int×Int)×Int}(h:z∈endsAt e c p i j):z.1∈stepsAt e c i j∧z.2.1=endS i j z.1∧z.2.2=costS e p i z.1:=by
 obtain ⟨s,hs,rfl⟩:=List.mem_map.mp h
 exact ⟨hs,rfl,rfl⟩
theorem ends_onw{e c:Row}{p:P7}{i j:Int}{z:Stp×(Int×Int)×Int}(k:kn e c i j)(h:z∈endsAt e c p i j):Onw e c i j z.2.1:=by
 obtain ⟨h1,h2,_⟩:=mem_ends h
 rw [h2]; exact onw k h1
theorem ends_ne{e c:Row}{p:P7}{i j:Int}(k:kn e c i j)(h:¬ (i=e.length∧j=c.length)):endsAt e c p i j ≠ []:=by
 obtain ⟨a,b,d,f⟩:=k
 intro h0
 have h1:stepsAt e c i j=[]:=by unfold endsAt at h0; simpa using h0
 unfold stepsAt loseS addS at h1
 by_cases h2:i < e.length
 ·simp [h2] at h1
 ·have h3:j < c.length:=by omega
  simp [h3] at h1
theorem ends_last{e c:Row}{p:P7}:endsAt e c p e.length c.length=[]:=by
 unfold endsAt
 rw [List.map_eq_nil_iff]
 refine List.eq_nil_iff_forall_not_mem.mpr fun s hs=>?_
 have o:=onw ⟨by omega,by omega,by omega,by omega⟩ hs
 have h1:=o.k.i1
 have h2:=o.k.j1
 have h3:=o.n
 omega
theorem alike_ok{a b:List Nat}(ha:a.length≤1000):f_looks_alike a b = .ok (alikeB a b):=by
 unfold f_looks_alike alikeB
 by_cases h:a.length=b.length
 ·have h':(a.length:Int)=b.length:=by omega
  simp only [h',bind_assoc,bind_ok]
  rw [if_neg (by simp)]
  refine Rk.eq (Rk.lcb (fun z=>!decide (z.1=z.2)) (fun _=>1) (fun z _=>⟨rfl,fun _=>rfl⟩) (by rw [List.length_zip,signs_length]; omega) (Rk.ok ?_))
  simp only [h,decide_true,Bool.true_and,List.length_map]
  congr 1
  apply propext
  omega
 ·have h':¬ (a.length:Int)=b.length:=by omega
  rw [if_pos (by simpa using h')]
  simp [h]
theorem stepprice_ok{e c:Row}{p:P7}{i j:Int}{s:Stp}(he:okR e)(k:kn e c i j)(h:s∈stepsAt e c i j):f_step_price e i s (l7 p) = .ok (costS e p i s):=by
 obtain ⟨a,b,d,f⟩:=k
 unfold f_step_price
 rw [show un7 (l7 p) = .ok p from rfl,bind_ok]
 rcases mem_stepsAt h with ⟨rfl,g⟩ | ⟨rfl,g⟩ | ⟨rfl,g⟩ | ⟨rfl,g⟩ | ⟨rfl,g⟩ | ⟨rfl,g⟩ | ⟨k,rfl,g⟩
 ·rfl
 ·show Res.bind (Res.bind _ _) _=_
  rw [ixR_gt a g.1,bind_ok]
  show Res.bind (f_looks_alike _ _) _=_
  rw [alike_ok (he.w _ (gt_mem (by omega))),bind_ok]
  simp only [costS]
  cases alikeB (gt e i) (gt c j) <;> rfl
 ·rfl
 ·rfl
 ·rfl
 ·rfl
 ·rfl
theorem stepend_ok{i j:Int}(s:Stp):f_step_end i j s = .ok (endS i j s):=by
 cases s <;> rfl
theorem forS_app{σ ι α:Type}{F:List α→ι→Res (List α)}(g:ι→α):∀ (l:List ι) (s:List α),(∀ x∈l,∀ s:List α,s.length < 16777216→F s x = .ok (s++[g x]))→s.length+l.length≤16777216→forS F l s = .ok (s++l.map g)
 | [],s,_,_=>by simp [forS]
 | x :: l,s,h,hl=>by
  simp only [List.length_cons] at hl
  rw [forS,h x (by simp) s (by omega),bind_ok,forS_app (σ:=σ) g l _ (fun y hy=>h y (by simp [hy])) (by simp; omega)]
  simp
theorem priced_ok{e c:Row}{p:P7}{i j:Int}(he:okR e)(hc:okR c)(k:kn e c i j):f_priced_ends e c i j (l7 p) = .ok (endsAt e c p i j):=by
 have:=he.l
 unfold f_priced_ends
 rw [knot_ok he.l hc.l k.i0 k.i1 k.j0 k.j1]
 have hl:=stepsAt_le e c i j k.i0
 show Res.bind (forS _ _ _) _=_
 rw [forS_app (σ:=Unit) (fun s=>(s,endS i j s,costS e p i s)) (stepsAt e c i j) [] (fun s hs l h2=>by
  rw [stepend_ok,stepprice_ok he k hs]
  show Res.bind (appR l _) _=_
  rw [appR_ok h2]; rfl) (by simp; omega)]
 rfl
def tab{α:Type}(n m:Nat)(f:Int→Int→α):List (List α):=(rngN n).map fun i=>(rngN m).map fun j=>f i j
section
variable {α:Type} {n m:Nat} {f g:Int→Int→α} {i j:Int}
@[simp] theorem tab_length (n m:Nat) (f:Int→Int→α):(tab n m f).length=n:=by simp [tab]
theorem gt_mapN{β:Type}[Inhabited β]{n:Nat}(f:Int→β){i:Int}(h0:0≤i)(h:i < n):gt ((rngN n).map f) i=f i:=by
 rw [gt_map (α:=Int) f (by rw [rngN_length]; omega),gt_rngN h0 h]
theorem tab_row(h0:0≤i)(h:i < n):gt (tab n m f) i=(rngN m).map fun j=>f i j:=gt_mapN (β:=List α) _ h0 h
theorem tab_ix(h0:0≤i)(h:i < n):ixR (tab n m f) i = .ok ((rngN m).map fun j=>f i j):=by
 rw [ixR_gt h0 (by rw [tab_length]; exact h),tab_row h0 h]
theorem row_ix{f:Int→α}(h0:0≤j)(h:j < m):ixR ((rngN m).map f) j = .ok (f j):=by
 haveI:Inhabited α:=⟨f 0⟩
 rw [ixR_gt h0 (by simp; exact h),gt_mapN _ h0 h]
theorem tab_ext(h:∀ a b:Int,0≤a→a < n→0≤b→b < m→f a b=g a b):tab n m f=tab n m g:=by
 unfold tab
 refine List.map_congr_left fun a ha=>List.map_congr_left fun b hb=>?_
 obtain ⟨a0,a1⟩:=mem_rngN.mp ha
 obtain ⟨b0,b1⟩:=mem_rngN.mp hb
 exact h a b a0 a1 b0 b1
theorem mapN_set{β:Type}{n:Nat}(f:Int→β){i:Int}(x:β)(h0:0≤i)(h:i < n):((rngN n).map f).set i.toNat x=(rngN n).map fun a=>if a=i then x else f a:=by
 apply List.ext_getElem?
 intro k
 rw [List.getElem?_set]
 unfold rngN
 rw [List.map_map,List.map_map,List.getElem?_map,List.getElem?_map]
 by_cases hk:k < n
 ·rw [List.getElem?_range hk]
  simp only [List.length_map,List.length_range,Option.map_some,Function.comp_apply]
  by_cases hi:i.toNat=k
  ·rw [if_pos hi,if_pos (by omega),if_pos (by omega)]
  ·rw [if_neg hi,if_neg (by omega)]
 ·rw [List.getElem?_eq_none (l:=List.range n) (by simp; omega)]
  simp only [Option.map_none,List.length_map,List.length_range]
  rw [if_neg (by omega)]
def upd(f:Int→Int→α)(i j:Int)(x:α):Int→Int→α:=fun a b=>if a=i∧b=j then x else f a b
theorem upd_at(x:α):upd f i j x i j=x:=if_pos ⟨rfl,rfl⟩
theorem upd_ne{a b:Int}(x:α)(h:¬ (a=i∧b=j)):upd f i j x a b=f a b:=if_neg h
theorem tab_place(h0:0≤i)(h:i < n):placeR (tab n m f) i = .ok (i.toNat,(rngN m).map fun j=>f i j):=by
 unfold placeR vIxN
 have h2:i.toNat < (tab n m f).length:=by rw [tab_length]; omega
 rw [if_pos h0,if_pos (by rw [tab_length]; exact h)]
 simp only
 rw [List.getElem?_eq_getElem h2]
 simp only
 congr 2
 have:=tab_row (f:=f) (m:=m) h0 h
 unfold gt at this
 simp only [List.getD,List.getElem?_eq_getElem h2,Option.getD_some] at this
 exact this
theorem tab_put(x:α)(h0:0≤i)(h:i < n)(k0:0≤j)(k:j < m):(tab n m f).set i.toNat (((rngN m).map fun j=>f i j).set j.toNat x)=tab n m (upd f i j x):=by
 rw [mapN_set _ _ k0 k]
 unfold tab
 rw [mapN_set _ _ h0 h]
 refine List.map_congr_left fun a _=>?_
 by_cases ha:a=i
 ·subst ha
  rw [if_pos rfl]
  refine List.map_congr_left fun b _=>?_
  unfold upd
  by_cases hb:b=j
  ·rw [if_pos hb,if_pos ⟨rfl,hb⟩]
  ·rw [if_neg hb,if_neg fun h=>hb h.2]
 ·rw [if_neg ha]
  refine List.map_congr_left fun b _=>?_
  unfold upd
  rw [if_neg fun h=>ha h.1]
theorem row_set{f:Int→α}(x:α)(k0:0≤j)(k:j < m):setR ((rngN m).map f) j x = .ok (((rngN m).map f).set j.toNat x):=setR_ok k0 (by simp; exact k)
theorem tab_set(x:α)(h0:0≤i)(h:i < n)(k0:0≤j)(k:j < m):((placeR (tab n m f) i).bind fun q=>(setR q.2 j x).bind fun r=>Res.ok ((tab n m f).set q.1 r)) = .ok (tab n m (upd f i j x)):=by
 rw [tab_place h0 h,bind_ok]
 show Res.bind (setR ((rngN m).map fun j=>f i j) j x) _=_
 rw [row_set x k0 k,bind_ok,← tab_put x h0 h k0 k]
end
theorem tab_setK{α β:Type}{n m:Nat}{f:Int→Int→α}{i j:Int}(x:α){K:List (List α)→Res β}{T:β→Prop}(h0:0≤i)(h:i < n)(k0:0≤j)(k:j < m)(hK:Rk (K (tab n m (upd f i j x))) T):Rk ((placeR (tab n m f) i).bind fun q=>(setR q.2 j x).bind fun r=>K ((tab n m f).set q.1 r)) T:=by
 have h1:=tab_set (n:=n) (m:=m) (f:=f) x h0 h k0 k
 have h2:((placeR (tab n m f) i).bind fun q=>(setR q.2 j x).bind fun r=>K ((tab n m f).set q.1 r))=((placeR (tab n m f) i).bind fun q=>(setR q.2 j x).bind fun r=>Res.ok ((tab n m f).set q.1 r)).bind K:=by
  rw [bind_assoc]
  congr 1; funext q
  rw [bind_assoc]
  congr 1
 rw [h2,h1]
 exact hK
theorem empty_ok{e c:Row}(he:okR e)(hc:okR c):f_empty_table e c = .ok (tab (e.length+1) (c.length+1) fun _ _=>()):=by
 have:=he.l
 have:=hc.l
 unfold f_empty_table
 rw [show ((e.length:Int)+1)=((e.length+1:Nat):Int) from rfl,show ((c.length:Int)+1)=((c.length+1:Nat):Int) from rfl,rngR_nat (by omega),bind_ok,mapR_sz (fun _=>(rngN (c.length+1)).map fun _=>()) (fun x _=>by
  rw [rngR_nat (by omega),bind_ok]
  exact mapR_sz (fun _=>()) (fun _ _=>rfl) (by rw [rngN_length]; omega)) (by rw [rngN_length]; omega)]
 rfl
theorem empty_none{n m:Nat}:List.map (List.map fun _=>(none:Option Int)) (tab n m fun _ _=>())=tab n m fun _ _=>none:=by
 unfold tab
 rw [List.map_map]
 refine List.map_congr_left fun a _=>?_
 simp
theorem kept_ok{n m:Nat}{f:Int→Int→Option Int}(h:n≤2000):f_kept_table (tab n m f) = .ok (tab n m f):=by
 unfold f_kept_table
 rw [mapR_sz (fun z=>z) (fun _ _=>rfl) (by rw [tab_length]; omega),List.map_id',bind_ok]
def restF(e c:Row)(p:P7):Nat→Int→Int→Int
 | 0,_,_=>0
 | n+1,i,j=>(minI ((endsAt e c p i j).map fun z=>z.2.2+restF e c p n z.2.1.1 z.2.1.2)).getD 0
def rest(e c:Row)(p:P7)(i j:Int):Int:=restF e c p ((e.length:Int) - i+((c.length:Int) - j)+1).toNat i j
theorem restF_eq{e c:Row}{p:P7}:∀ (n:Nat) {i j:Int},kn e c i j→(e.length:Int) - i+((c.length:Int) - j) < n→restF e c p n i j=rest e c p i j:=by
 intro n
 induction n using Nat.strongRecOn with
 | _ n ih =>
  intro i j k h
  have hk:=k
  obtain ⟨k0,k1,k2,k3⟩:=hk
  unfold rest
  cases n with
  | zero=>omega
  | succ n =>
   obtain ⟨m,hm⟩:∃ m,((e.length:Int) - i+((c.length:Int) - j)+1).toNat=m+1:=⟨((e.length:Int) - i+((c.length:Int) - j)).toNat,by omega⟩
   rw [hm,restF,restF]
   congr 2
   refine List.map_congr_left fun z hz=>?_
   have o:=ends_onw k hz
   have:=o.n
   by_cases hmn:m+1≤n+1
   ·rw [ih n (by omega) o.k (by omega)]
    by_cases hl:m < n+1
    ·rw [ih m (by omega) o.k (by omega)]
    ·omega
   ·omega
theorem rest_eq{e c:Row}{p:P7}{i j:Int}(k:kn e c i j):rest e c p i j=(minI ((endsAt e c p i j).map fun z=>z.2.2+rest e c p z.2.1.1 z.2.1.2)).getD 0:=by
 have hk:=k
 obtain ⟨k0,k1,k2,k3⟩:=hk
 rw [← restF_eq (((e.length:Int) - i+((c.length:Int) - j)).toNat+1) k (by omega),restF]
 congr 2
 refine List.map_congr_left fun z hz=>?_
 have o:=ends_onw k hz
 have:=o.n
 rw [restF_eq _ o.k (by omega)]
theorem rest_last{e c:Row}{p:P7}:rest e c p e.length c.length=0:=by
 rw [rest_eq ⟨by omega,by omega,by omega,by omega⟩,ends_last]; rfl
theorem rest_le{e c:Row}{p:P7}{i j:Int}(k:kn e c i j){z:Stp×(Int×Int)×Int}(h:z∈endsAt e c p i j):rest e c p i j≤z.2.2+rest e c p z.2.1.1 z.2.1.2:=by
 rw [rest_eq k]
 exact least_le (List.mem_map_of_mem (f:=fun (z:Stp×(Int×Int)×Int)=>z.2.2+rest e c p z.2.1.1 z.2.1.2) h)
theorem rest_some{e c:Row}{p:P7}{i j:Int}(k:kn e c i j)(h:¬ (i=e.length∧j=c.length)):∃ z∈endsAt e c p i j,rest e c p i j=z.2.2+rest e c p z.2.1.1 z.2.1.2:=by
 have hne:=ends_ne (p:=p) k h
 have:=least_mem (l:=(endsAt e c p i j).map fun z=>z.2.2+rest e c p z.2.1.1 z.2.1.2) (by simpa using hne)
 obtain ⟨z,hz,h2⟩:=List.mem_map.mp this
 exact ⟨z,hz,by rw [rest_eq k]; exact h2.symm⟩
theorem rev_get{n k:Nat}{x:Int}(h:(rngN n).reverse[k]? = some x):x=n - 1 - k∧k < n:=by
 have hk:=(List.getElem?_eq_some_iff.mp h).1
 rw [List.length_reverse,rngN_length] at hk
 rw [List.getElem?_reverse (by rw [rngN_length]; exact hk),rngN_length] at h
 obtain ⟨h1,h2⟩:=rngN_get h
 omega
def restT(e c:Row)(p:P7):List (List (Option Int)):=tab (e.length+1) (c.length+1) fun a b=>some (rest e c p a b)
theorem rest_ok{e c:Row}{p:P7}(he:okR e)(hc:okR c):f_rest_table e c (l7 p) = .ok (restT e c p):=by
 have hel:=he.l
 have hcl:=hc.l
 refine Rk.eq ?_
 unfold f_rest_table
 rw [empty_ok he hc]
 simp only [bind_ok]
 rw [empty_none]
 generalize hN:e.length+1=N
 generalize hM:c.length+1=M
 rw [show ((e.length:Int)+1)=(N:Int) by omega,show ((c.length:Int)+1)=(M:Int) by omega,rrngR_nat (by omega),rrngR_nat (by omega)]
 simp only [bind_ok]
 refine Rk.bind (Rk.for (Q:=fun t=>t=restT e c p) (fun k t=>∃ f,t=tab N M f∧∀ a b,kn e c a b→(N:Int) - k≤a→f a b=some (rest e c p a b)) ⟨_,rfl,fun a b ha h=>?_⟩ (fun k i t hx hi=>?_) fun t h=>?_) fun t ht=>?_
 ·have:=ha.i1; omega
 ·obtain ⟨rfl,hk⟩:=rev_get hx
  obtain ⟨f,rfl,hf⟩:=hi
  refine Rk.bind (Rk.for (Q:=fun t=>∃ f,t=tab N M f∧∀ a b,kn e c a b→(N:Int) - (k+1:Nat)≤a→f a b=some (rest e c p a b)) (fun k' t=>∃ f,t=tab N M f∧∀ a b,kn e c a b→(N:Int) - k≤a ∨ (a=(N:Int) - 1 - k∧(M:Int) - k'≤b)→f a b=some (rest e c p a b)) ⟨f,rfl,fun a b ha h=>?_⟩ (fun k' j t hy hj=>?_) fun t h=>?_) fun t ht=>Rk.ok ht
  ·rcases h with h | h
   ·exact hf a b ha h
   ·have:=ha.j1; omega
  ·obtain ⟨rfl,hk'⟩:=rev_get hy
   obtain ⟨f,rfl,hf⟩:=hj
   have kk:kn e c ((N:Int) - 1 - k) ((M:Int) - 1 - k'):=⟨by omega,by omega,by omega,by omega⟩
   generalize hI:(N:Int) - 1 - k=I at *
   generalize hJ:(M:Int) - 1 - k'=J at *
   rw [priced_ok he hc kk,bind_ok]
   simp only [bind_assoc,bind_ok]
   have hel2:(endsAt e c p I J).length≤e.length+5:=by unfold endsAt; rw [List.length_map]; exact stepsAt_le e c I J kk.i0
   refine Rk.mape (fun z=>z.2.2+rest e c p z.2.1.1 z.2.1.2) (fun z hz=>?_) (by omega) ?_
   ·have o:=ends_onw kk hz
    have h1:=o.k.i0
    have h2:=o.k.i1
    have h3:=o.k.j0
    have h4:=o.k.j1
    have:=o.ii
    have:=o.jj
    have:=o.n
    rw [tab_ix h1 (by omega),bind_ok,row_ix h3 (by omega),bind_ok,hf _ _ o.k (by omega),getO_s,bind_ok]
   ·refine tab_setK _ kk.i0 (by omega) kk.j0 (by omega) (Rk.ok ⟨_,rfl,fun a b ha h=>?_⟩)
    by_cases hab:a=I∧b=J
    ·obtain ⟨rfl,rfl⟩:=hab; rw [upd_at,rest_eq kk]; rfl
    ·rw [upd_ne _ hab]
     exact hf a b ha (by omega)
  ·obtain ⟨f,rfl,hf⟩:=h
   refine ⟨f,rfl,fun a b ha h=>hf a b ha ?_⟩
   rw [List.length_reverse,rngN_length]
   have:=ha.j0
   omega
 ·obtain ⟨f,rfl,hf⟩:=h
  unfold restT
  rw [hN,hM]
  refine tab_ext fun a b a0 a1 b0 b1=>hf a b ⟨a0,by omega,b0,by omega⟩ ?_
  rw [List.length_reverse,rngN_length]
  omega
 ·subst ht
  unfold restT
  rw [kept_ok (by omega),bind_ok]
  exact Rk.ok rfl
end Vm
end
section
set_option linter.all false
set_option maxHeartbeats 1000000
set_option maxRecDepth 10000
namespace Vm
section
variable {α:Type} [Inhabited α]
theorem drop_gt{l:List α}{i:Int}(h0:0≤i)(h:i < l.length):l.drop i.toNat=gt l i :: l.drop (i+1).toNat:=by
 have:i.toNat < l.length:=by omega
 rw [List.drop_eq_getElem_cons this,show (i+1).toNat=i.toNat+1 by omega]
 congr 1
 simp [gt,List.getD,this]
theorem cut_mid{xs:List α}{i j:Int}(h:0≤i)(hj:i≤j):cutL xs (some i) (some j)=(xs.drop i.toNat).take (j.toNat - i.toNat):=by
 unfold cutL vSix
 simp only
 rw [if_neg (by omega),if_neg (by omega)]
 by_cases h1:i.toNat≤xs.length
 ·rw [Nat.min_eq_left h1]
  by_cases h2:j.toNat≤xs.length
  ·rw [Nat.min_eq_left h2]
  ·rw [Nat.min_eq_right (by omega),List.take_of_length_le (by rw [List.length_drop]; omega),List.take_of_length_le (by rw [List.length_drop]; omega)]
 ·rw [List.drop_eq_nil_of_le (by omega),List.drop_eq_nil_of_le (by omega)]; simp
theorem cut1{l:List α}{i:Int}(h0:0≤i):cutL l (some i) (some (i+1))=if i < l.length then [gt l i] else []:=by
 rw [cut_mid h0 (by omega),show (i+1).toNat - i.toNat=1 by omega]
 split
 ·rename_i h; rw [drop_gt h0 h]; rfl
 ·rw [List.drop_eq_nil_of_le (by omega)]; rfl
theorem cut2{l:List α}{i:Int}(h0:0≤i):cutL l (some i) (some (i+2))=if i < l.length then (if i+1 < l.length then [gt l i,gt l (i+1)] else [gt l i]) else []:=by
 rw [cut_mid h0 (by omega),show (i+2).toNat - i.toNat=2 by omega]
 split
 ·rename_i h
  rw [drop_gt h0 h]
  split
  ·rename_i h1; rw [drop_gt (by omega) h1]; rfl
  ·rw [List.drop_eq_nil_of_le (by omega)]; rfl
 ·rw [List.drop_eq_nil_of_le (by omega)]; rfl
theorem cutL1{l:List α}{j:Int}(h0:0≤j)(h1:j≤l.length):cutL (cutL l none (some j)) (some (-1)) none=if 0 < j then [gt l (j - 1)] else []:=by
 rw [cut_take h0]
 unfold cutL vSix
 simp only
 rw [if_pos (by omega),List.length_take,Nat.min_eq_left (by omega)]
 split
 ·rename_i h
  rw [show ((-1:Int)+(j.toNat:Int)).toNat=(j - 1).toNat by omega,List.drop_take,drop_gt (by omega) (by omega),show j.toNat - (j - 1).toNat=1 by omega]
  rfl
 ·rw [show j.toNat=0 by omega]; rfl
end
theorem law_steps_ok{e c:Row}{i j:Int}(he:e.length≤1000)(hc:c.length≤1000)(i0:0≤i)(i1:i≤e.length)(j0:0≤j)(j1:j≤c.length):f_law_steps_v1 e c i j = .ok (stepsAt e c i j):=by
 unfold f_law_steps_v1
 rw [cut1 i0,cut1 j0,cutL1 j0 j1,cut2 i0,cut2 j0]
 have l1:=headS_le e c i j
 have l2:=loseS_le e i
 have l3:=addS_le c j
 have l4:=twiceS_le c j
 have l5:=swapS_le e c i j
 have l6:=skipS_le e i i0
 have st:∀ (k:Res (List Stp)) (F:List Stp→Res (List Stp)) (l:List Stp) (r:Res (List Stp)),k = .ok l→F l=r→k.bind F=r:=fun k F l r h h2=>by rw [h]; exact h2
 show Res.bind _ _=_
 refine st _ _ (headS e c i j) _ ?_ ?_
 ·unfold headS
  by_cases h1:i < e.length
  ·by_cases h2:j < c.length
   ·by_cases h3:gt e i=gt c j
    ·simp [h1,h2,h3,appR]
    ·have h4:¬ gt c j=gt e i:=fun h=>h3 h.symm
     simp [h1,h2,h3,h4,appR,ixR,vAt,vIxN]
   ·simp [h1,h2]
  ·simp [h1]
 show Res.bind _ _=_
 refine st _ _ (headS e c i j++loseS e i) _ ?_ ?_
 ·unfold loseS
  by_cases h1:i < e.length
  ·simp [h1,appR_ok (show (headS e c i j).length < 16777216 by omega)]
  ·simp [h1]
 have l7:(headS e c i j++loseS e i).length≤2:=by rw [List.length_append]; omega
 show Res.bind _ _=_
 refine st _ _ (headS e c i j++loseS e i++addS c j) _ ?_ ?_
 ·unfold addS
  by_cases h1:j < c.length
  ·simp only [h1,if_true]
   rw [show ixR [gt c j] 0 = .ok (gt c j) from rfl]
   simp [appR_ok (show (headS e c i j++loseS e i).length < 16777216 by omega)]
  ·simp [h1]
 have l8:(headS e c i j++loseS e i++addS c j).length≤3:=by rw [List.length_append]; omega
 show Res.bind _ _=_
 refine st _ _ (headS e c i j++loseS e i++addS c j++twiceS c j) _ ?_ ?_
 ·unfold twiceS
  by_cases h1:j < c.length
  ·by_cases h2:0 < j
   ·by_cases h3:gt c (j - 1)=gt c j
    ·simp only [h1,h2,h3,if_true]
     simp [appR_ok (show (headS e c i j++loseS e i++addS c j).length < 16777216 by omega),-List.append_assoc]
    ·simp [h1,h2,h3]
   ·simp [h1,h2]
  ·simp [h1]
 have l9:(headS e c i j++loseS e i++addS c j++twiceS c j).length≤4:=by rw [List.length_append]; omega
 show Res.bind _ _=_
 refine st _ _ (headS e c i j++loseS e i++addS c j++twiceS c j++swapS e c i j) _ ?_ ?_
 ·unfold swapS
  by_cases h1:i < e.length
  ·by_cases h2:i+1 < e.length
   ·simp only [h1,h2,if_true]
    rw [show ixR [gt e i,gt e (i+1)] 0 = .ok (gt e i) from rfl,show ixR [gt e i,gt e (i+1)] 1 = .ok (gt e (i+1)) from rfl]
    by_cases h3:gt e i=gt e (i+1)
    ·simp [h3]
    ·by_cases h4:j < c.length
     ·by_cases h5:j+1 < c.length
      ·by_cases h6:gt c j=gt e (i+1)
       ·by_cases h7:gt c (j+1)=gt e i
        ·simp [h3,h4,h5,h6,h7,appR_ok (show (headS e c i j++loseS e i++addS c j++twiceS c j).length < 16777216 by omega),-List.append_assoc]
        ·simp [h3,h4,h5,h6,h7]
       ·simp [h3,h4,h5,h6]
      ·simp [h3,h4,h5]
     ·have h5:¬ j+1 < c.length:=by omega
      simp [h3,h4,h5]
   ·simp [h1,h2]
  ·have h2:¬ i+1 < e.length:=by omega
   simp [h1,h2]
 have l10:(headS e c i j++loseS e i++addS c j++twiceS c j++swapS e c i j).length≤5:=by rw [List.length_append]; omega
 rw [rng2R_ok (by omega) (by omega) (by omega) (by omega),bind_ok]
 unfold stepsAt
 generalize headS e c i j++loseS e i++addS c j++twiceS c j++swapS e c i j=b at *
 unfold skipS
 have go:∀ (ks:List Int) (b:List Stp),b.length+ks.length≤2000→(∀ k∈ks,1≤k∧i+k - 1 < e.length)→forS (fun (s52:((List (Stp)))) (x53:Int)=>(if decide ((0:Int) < i) then (ixR e (i - ((1:Int)))).bind fun x54=>(ixR e ((i+x53) - ((1:Int)))).bind fun x55=>Res.ok (decide (x54=x55)) else Res.ok false).bind fun b59=>if b59 then ((appR s52 (Stp.skip x53)).bind fun (s58:List (Stp))=>Res.ok s58) else (Res.ok s52)) ks b = .ok (b++if i=0 then [] else (ks.filter fun k=>decide (gt e (i+k - 1)=gt e (i - 1))).map .skip):=by
  intro ks
  induction ks with
  | nil=>intro b _ _; split <;> simp [forS]
  | cons k ks ih =>
   intro b hb hk
   have hk0:=hk k (by simp)
   simp only [List.length_cons] at hb
   rw [forS]
   by_cases h0:0 < i
   ·by_cases h1:gt e (i+k - 1)=gt e (i - 1)
    ·refine st _ _ (b++[.skip k]) _ ?_ ?_
     ·rw [if_pos (by simpa using h0),ixR_gt (l:=e) (i:=i - 1) (by omega) (by omega),ixR_gt (l:=e) (i:=i+k - 1) (by omega) (by omega),bind_ok,bind_ok,bind_ok,if_pos (by simpa using h1.symm),appR_ok (by omega),bind_ok]
     ·rw [ih _ (by simp; omega) (fun k hk'=>hk k (by simp [hk'])),if_neg (by omega),if_neg (by omega),List.filter_cons_of_pos (by simpa using h1)]
      simp
    ·refine st _ _ b _ ?_ ?_
     ·rw [if_pos (by simpa using h0),ixR_gt (l:=e) (i:=i - 1) (by omega) (by omega),ixR_gt (l:=e) (i:=i+k - 1) (by omega) (by omega),bind_ok,bind_ok,bind_ok,if_neg (by simpa using fun h=>h1 h.symm)]
     ·rw [ih _ (by omega) (fun k hk'=>hk k (by simp [hk'])),if_neg (by omega),if_neg (by omega),List.filter_cons_of_neg (by simpa using h1)]
   ·refine st _ _ b _ ?_ ?_
    ·rw [if_neg (by simpa using h0),bind_ok,if_neg (by decide)]
    ·rw [ih _ (by omega) (fun k hk'=>hk k (by simp [hk'])),if_pos (by omega),if_pos (by omega)]
 rw [go _ b (by rw [rngI_length]; omega) (fun k hk=>by obtain ⟨a,b⟩:=mem_rngI.mp hk; omega),bind_ok]
theorem filter_zip:∀ (a b:List Nat),a.length=b.length→(((signs a).zip (signs b)).filter fun z=>!decide (z.1=z.2)).length=((rngN a.length).filter fun k=>!decide ([gt a k]=[gt b k])).length:=by
 intro a b h
 have e:(signs a).zip (signs b)=(rngN a.length).map fun k=>([gt a k],[gt b k]):=by
  apply List.ext_getElem?
  intro i
  unfold rngN
  rw [List.map_map,List.getElem?_map]
  by_cases hi:i < a.length
  ·have hb:i < b.length:=by omega
   rw [List.getElem?_range hi]
   simp [List.getElem?_zip_eq_some,signs,gt,List.getD,hi,hb]
  ·rw [List.getElem?_eq_none (by simp [signs]; omega),List.getElem?_eq_none (by simp; omega)]; rfl
 rw [e,List.filter_map,List.length_map]
 rfl
theorem law_alike_ok{a b:List Nat}(ha:a.length≤1000):f_law_alike_v4 a b = .ok (alikeB a b):=by
 unfold f_law_alike_v4 alikeB
 by_cases h:a.length=b.length
 ·have h':(a.length:Int)=b.length:=by omega
  rw [if_pos (by simpa using h')]
  refine Rk.eq (Rk.bind (P:=fun z=>z=_) ?_ fun z hz=>Rk.ok hz)
  rw [rngR_int (by omega) (by omega),bind_ok]
  simp only [bind_assoc,bind_ok]
  refine Rk.lcb (fun k=>!decide ([gt a k]=[gt b k])) (fun k=>k) (fun k hk=>?_) (by rw [rngN_length]; omega) (Rk.ok ?_)
  ·obtain ⟨k0,k1⟩:=mem_rngN.mp hk
   rw [ixR_gt k0 (by omega),ixR_gt (l:=b) k0 (by omega)]
   exact ⟨rfl,fun _=>rfl⟩
  ·rw [List.map_id',filter_zip a b h,show ((a.length:Int)).toNat=a.length by omega]
   simp only [h,decide_true,Bool.true_and]
   congr 1
   apply propext
   omega
 ·have h':¬ (a.length:Int)=b.length:=by omega
  rw [if_neg (by simpa using h')]
  simp [h]
theorem law_price_ok{e c:Row}{p:P7}{i j:Int}{s:Stp}(he:okR e)(k:kn e c i j)(h:s∈stepsAt e c i j):f_law_price_v1 e i s (l7 p) = .ok (costS e p i s):=by
 obtain ⟨a,b,d,f⟩:=k
 unfold f_law_price_v1
 rcases mem_stepsAt h with ⟨rfl,g⟩ | ⟨rfl,g⟩ | ⟨rfl,g⟩ | ⟨rfl,g⟩ | ⟨rfl,g⟩ | ⟨rfl,g⟩ | ⟨k,rfl,g⟩
 ·rfl
 ·simp only [stpN,stp1,decS,bind_ok,ixR_gt a g.1]
  rw [if_neg (by simp),if_pos (by simp),law_alike_ok (he.w _ (gt_mem (by omega)))]
  simp only [costS]
  cases alikeB (gt e i) (gt c j) <;> rfl
 ·rfl
 ·rfl
 ·rfl
 ·rfl
 ·rfl
theorem law_end_ok{i j:Int}(s:Stp):f_law_end i j s = .ok (endS i j s):=by
 cases s <;> simp [f_law_end,stpN,stp1,decI,dixR,dfind,endS]
theorem arms_ok{e c:Row}{p:P7}{i j:Int}(he:okR e)(hc:okR c)(k:kn e c i j):f_law_arms e c (l7 p) i j = .ok (endsAt e c p i j):=by
 have:=he.l
 unfold f_law_arms
 rw [law_steps_ok he.l hc.l k.i0 k.i1 k.j0 k.j1]
 have hl:=stepsAt_le e c i j k.i0
 show Res.bind (forS _ _ _) _=_
 rw [forS_app (σ:=Unit) (fun s=>(s,endS i j s,costS e p i s)) (stepsAt e c i j) [] (fun s hs l h2=>by
  rw [law_end_ok,law_price_ok he k hs]
  show Res.bind (appR l _) _=_
  rw [appR_ok h2]; rfl) (by simp; omega)]
 rfl
def knL(e c:Row):List (Int×Int):=((rngN (e.length+1)).map fun i=>(rngN (c.length+1)).map fun j=>(i,j)).flatten
theorem mem_knL{e c:Row}{k:Int×Int}:k∈knL e c ↔ kn e c k.1 k.2:=by
 unfold knL
 rw [List.mem_flatten]
 constructor
 ·rintro ⟨l,hl,hk⟩
  obtain ⟨i,hi,rfl⟩:=List.mem_map.mp hl
  obtain ⟨j,hj,rfl⟩:=List.mem_map.mp hk
  obtain ⟨a,b⟩:=mem_rngN.mp hi
  obtain ⟨c,d⟩:=mem_rngN.mp hj
  exact ⟨a,by simp only; omega,c,by simp only; omega⟩
 ·rintro ⟨a,b,c',d⟩
  exact ⟨_,List.mem_map_of_mem (f:=fun i=>(rngN (c.length+1)).map fun j=>(i,j)) (mem_rngN.mpr ⟨a,by omega⟩),List.mem_map.mpr ⟨k.2,mem_rngN.mpr ⟨c',by omega⟩,rfl⟩⟩
theorem knots_ok{e c:Row}(he:okR e)(hc:okR c):f_law_knots e c = .ok (knL e c):=by
 have hel:=he.l
 have hcl:=hc.l
 refine Rk.eq ?_
 unfold f_law_knots
 simp only [bind_assoc,bind_ok]
 rw [show ((e.length:Int)+1)=((e.length+1:Nat):Int) from rfl,show ((c.length:Int)+1)=((c.length+1:Nat):Int) from rfl,rngR_nat (by omega),rngR_nat (by omega)]
 simp only [bind_ok]
 refine Rk.bind (P:=fun l=>l=knL e c) (Rk.for (fun k l=>l=(((rngN (e.length+1)).take k).map fun i=>(rngN (c.length+1)).map fun j=>(i,j)).flatten∧l.length=k * (c.length+1)) ⟨rfl,by simp⟩ (fun k i l hx hl=>?_) fun l hl=>?_) fun l hl=>Rk.ok hl
 ·obtain ⟨h1,h2⟩:=hl
  have hk:k < e.length+1:=by simpa using (List.getElem?_eq_some_iff.mp hx).1
  have hb:k * (c.length+1)≤1001 * 1001:=Nat.mul_le_mul (by omega) (by omega)
  rw [forS_app (σ:=Unit) (fun j=>(i,j)) (rngN (c.length+1)) l (fun j _ s hs=>by rw [appR_ok hs]; rfl) (by rw [rngN_length]; omega)]
  refine Rk.ok ⟨?_,by rw [List.length_append,List.length_map,rngN_length,h2,Nat.add_mul]; omega⟩
  rw [List.take_add_one,hx,h1]
  simp
 ·rw [hl.1]
  unfold knL
  rw [List.take_of_length_le (by simp)]
end Vm
end
section
set_option linter.all false
set_option maxHeartbeats 1000000
set_option maxRecDepth 10000
namespace Vm
abbrev Zd:=Stp×(Int×Int)×Int
structure Fwd (e c:Row) (p:P7) (t:Int→Int→Int):Prop where
 z:t 0 0=0
 le:∀ {i j:Int} {z:Zd},kn e c i j→z∈endsAt e c p i j→t z.2.1.1 z.2.1.2≤t i j+z.2.2
 ti:∀ {a b:Int},kn e c a b→¬ (a=0∧b=0)→∃ (i j:Int) (z:Zd),kn e c i j∧z∈endsAt e c p i j∧z.2.1=(a,b)∧t a b=t i j+z.2.2
structure Inv (e c:Row) (p:P7) (E:Int→Int→Zd→Prop) (f:Int→Int→Option Int):Prop where
 z:f 0 0=some 0
 le:∀ i j z,E i j z→∃ v w,f i j=some v∧f z.2.1.1 z.2.1.2=some w∧w≤v+z.2.2
 ti:∀ a b w,f a b=some w→(a=0∧b=0) ∨ ∃ i j z v,E i j z∧kn e c i j∧z∈endsAt e c p i j∧z.2.1=(a,b)∧f i j=some v∧w=v+z.2.2
theorem Inv.iff{e c:Row}{p:P7}{E E':Int→Int→Zd→Prop}{f:Int→Int→Option Int}(h:Inv e c p E f)(k:∀ i j z,E i j z ↔ E' i j z):Inv e c p E' f:=by
 have:E=E':=by funext i j z; exact propext (k i j z)
 rw [← this]; exact h
theorem Inv.keep{e c:Row}{p:P7}{E:Int→Int→Zd→Prop}{f:Int→Int→Option Int}(h:Inv e c p E f){i j:Int}{z:Zd}{v w:Int}(hv:f i j=some v)(hw:f z.2.1.1 z.2.1.2=some w)(hle:w≤v+z.2.2):Inv e c p (fun a b y=>E a b y ∨ (a=i∧b=j∧y=z)) f:=by
 refine ⟨h.z,fun a b y hy=>?_,fun a b w h1=>?_⟩
 ·rcases hy with hy | ⟨rfl,rfl,rfl⟩
  ·exact h.le a b y hy
  ·exact ⟨v,w,hv,hw,hle⟩
 ·rcases h.ti a b w h1 with h2 | ⟨i',j',z',v',h2,h3⟩
  ·exact .inl h2
  ·exact .inr ⟨i',j',z',v',.inl h2,h3⟩
theorem Inv.set{e c:Row}{p:P7}{E:Int→Int→Zd→Prop}{f:Int→Int→Option Int}(h:Inv e c p E f){i j:Int}{z:Zd}{v:Int}(k:kn e c i j)(hz:z∈endsAt e c p i j)(hv:f i j=some v)(hno:∀ a b y,E a b y→¬ (a=z.2.1.1∧b=z.2.1.2))(h0:¬ (z.2.1.1=0∧z.2.1.2=0))(hij:¬ (i=z.2.1.1∧j=z.2.1.2))(hw:∀ w,f z.2.1.1 z.2.1.2=some w→v+z.2.2≤w):Inv e c p (fun a b y=>E a b y ∨ (a=i∧b=j∧y=z)) (upd f z.2.1.1 z.2.1.2 (some (v+z.2.2))):=by
 have hv':upd f z.2.1.1 z.2.1.2 (some (v+z.2.2)) i j=some v:=by rw [upd_ne _ hij]; exact hv
 refine ⟨by rw [upd_ne _ fun h=>h0 ⟨h.1.symm,h.2.symm⟩]; exact h.z,fun a b y hy=>?_,fun a b w h1=>?_⟩
 ·rcases hy with hy | ⟨rfl,rfl,rfl⟩
  ·obtain ⟨v',w',h1,h2,h3⟩:=h.le a b y hy
   rw [upd_ne _ (hno a b y hy)]
   by_cases he:y.2.1.1=z.2.1.1∧y.2.1.2=z.2.1.2
   ·rw [he.1,he.2,upd_at]
    rw [he.1,he.2] at h2
    have:=hw _ h2
    exact ⟨v',_,h1,rfl,by omega⟩
   ·rw [upd_ne _ he]
    exact ⟨v',w',h1,h2,h3⟩
  ·exact ⟨v,_,hv',upd_at _,by omega⟩
 ·by_cases he:a=z.2.1.1∧b=z.2.1.2
  ·obtain ⟨rfl,rfl⟩:=he
   rw [upd_at] at h1
   exact .inr ⟨i,j,z,v,.inr ⟨rfl,rfl,rfl⟩,k,hz,rfl,hv',by simpa using h1.symm⟩
  ·rw [upd_ne _ he] at h1
   rcases h.ti a b w h1 with h2 | ⟨i',j',z',v',h2,h3,h4,h5,h6,h7⟩
   ·exact .inl h2
   ·exact .inr ⟨i',j',z',v',.inl h2,h3,h4,h5,by rw [upd_ne _ (hno _ _ _ h2)]; exact h6,h7⟩
def Ed(e c:Row)(p:P7)(I J:Int)(k:Nat)(i j:Int)(z:Zd):Prop:=(kn e c i j∧z∈endsAt e c p i j∧(i < I ∨ (i=I∧j < J))) ∨ (i=I∧j=J∧z∈(endsAt e c p I J).take k)
theorem mem_lose{e c:Row}{i j:Int}(h:i < e.length):Stp.lose∈stepsAt e c i j:=by
 unfold stepsAt loseS; rw [if_pos h]; simp
theorem mem_add{e c:Row}{i j:Int}(h:j < c.length):Stp.add (gt c j)∈stepsAt e c i j:=by
 unfold stepsAt addS; rw [if_pos h]; simp
theorem ends_of{e c:Row}{p:P7}{i j:Int}{s:Stp}(h:s∈stepsAt e c i j):(s,endS i j s,costS e p i s)∈endsAt e c p i j:=List.mem_map_of_mem (f:=fun s=>(s,endS i j s,costS e p i s)) h
theorem inv_at{e c:Row}{p:P7}{I J:Int}{E:Int→Int→Zd→Prop}{f:Int→Int→Option Int}(h:Inv e c p E f)(kk:kn e c I J)(hE:∀ i j z,kn e c i j→z∈endsAt e c p i j→(i < I ∨ (i=I∧j < J))→E i j z):∃ v,f I J=some v:=by
 obtain ⟨k0,k1,k2,k3⟩:=kk
 by_cases h0:I=0
 ·by_cases h1:J=0
  ·rw [h0,h1]; exact ⟨0,h.z⟩
  ·obtain ⟨v,w,_,h3,_⟩:=h.le I (J - 1) _ (hE _ _ _ ⟨k0,k1,by omega,by omega⟩ (ends_of (mem_add (by omega))) (.inr ⟨rfl,by omega⟩))
   simp only [endS] at h3
   rw [show J - 1+1=J by omega] at h3
   exact ⟨w,h3⟩
 ·obtain ⟨v,w,_,h3,_⟩:=h.le (I - 1) J _ (hE _ _ _ ⟨by omega,by omega,k2,k3⟩ (ends_of (mem_lose (by omega))) (.inl (by omega)))
  simp only [endS] at h3
  rw [show I - 1+1=I by omega] at h3
  exact ⟨w,h3⟩
theorem price_ok{e c:Row}{p:P7}(he:okR e)(hc:okR c):Rk (f_price_table e c (l7 p)) fun T=>∃ t,T=tab (e.length+1) (c.length+1) (fun a b=>some (t a b))∧Fwd e c p t:=by
 have hel:=he.l
 have hcl:=hc.l
 unfold f_price_table
 rw [empty_ok he hc]
 simp only [bind_ok]
 rw [empty_none]
 generalize hN:e.length+1=N
 generalize hM:c.length+1=M
 rw [show ((e.length:Int)+1)=(N:Int) by omega,show ((c.length:Int)+1)=(M:Int) by omega,rngR_nat (by omega),rngR_nat (by omega)]
 simp only [bind_assoc,bind_ok]
 refine Rk.bok (tab_place (by decide) (by omega)) (Rk.bok (row_set _ (by decide) (by omega)) ?_)
 rw [tab_put _ (by decide) (by omega) (by decide) (by omega)]
 refine Rk.bind (P:=fun T=>∃ t,T=tab N M (fun a b=>some (t a b))∧Fwd e c p t) ?_ fun T hT=>?_
 ·refine Rk.for (fun k T=>∃ f,T=tab N M f∧Inv e c p (Ed e c p k 0 0) f) ⟨_,rfl,upd_at _,fun i j z hz=>?_,fun a b w h=>?_⟩ (fun k i T hx hi=>?_) fun T h=>?_
  ·rcases hz with ⟨h1,_,h2⟩ | ⟨_,_,h2⟩
   ·have:=h1.i0; have:=h1.j0; omega
   ·simp at h2
  ·by_cases h1:a=0∧b=0
   ·exact .inl h1
   ·rw [upd_ne _ h1] at h; cases h
  ·obtain ⟨rfl,hk⟩:=rngN_get hx
   obtain ⟨f,rfl,hf⟩:=hi
   refine Rk.bind (Rk.for (Q:=fun T=>∃ f,T=tab N M f∧Inv e c p (Ed e c p (k+1:Nat) 0 0) f) (fun k' T=>∃ f,T=tab N M f∧Inv e c p (Ed e c p k k' 0) f) ⟨f,rfl,hf⟩ (fun k' j T hy hj=>?_) fun T h=>?_) fun T hT=>Rk.ok hT
   ·obtain ⟨rfl,hk'⟩:=rngN_get hy
    obtain ⟨f,rfl,hf⟩:=hj
    have kk:kn e c k k':=⟨by omega,by omega,by omega,by omega⟩
    rw [priced_ok he hc kk,bind_ok]
    obtain ⟨v,hv⟩:=inv_at hf kk (fun i j z h1 h2 h3=>.inl ⟨h1,h2,h3⟩)
    refine Rk.bind (Rk.for (Q:=fun T=>∃ f,T=tab N M f∧Inv e c p (Ed e c p k (k' + 1:Nat) 0) f) (fun m T=>∃ f,T=tab N M f∧Inv e c p (Ed e c p k k' m) f∧f k k'=some v) ⟨f,rfl,hf,hv⟩ (fun m z T hz hm=>?_) fun T h=>?_) fun T hT=>Rk.ok hT
    ·obtain ⟨f,rfl,hf,hv⟩:=hm
     have hmem:=List.mem_of_getElem? hz
     have o:=ends_onw kk hmem
     have o1:=o.k.i0
     have o2:=o.k.i1
     have o3:=o.k.j0
     have o4:=o.k.j1
     have o5:=o.ii
     have o6:=o.jj
     have o7:=o.n
     have hlt:m < (endsAt e c p k k').length:=(List.getElem?_eq_some_iff.mp hz).1
     have hE:∀ a b y,(Ed e c p k k' m a b y ∨ (a=(k:Int)∧b=(k':Int)∧y=z)) ↔ Ed e c p k k' (m+1) a b y:=fun a b y=>by
      unfold Ed
      rw [List.take_add_one,hz]
      simp only [Option.toList_some,List.mem_append,List.mem_singleton]
      constructor
      ·rintro ((h | h) | ⟨h1,h2,h3⟩)
       ·exact .inl h
       ·exact .inr ⟨h.1,h.2.1,.inl h.2.2⟩
       ·exact .inr ⟨h1,h2,.inr h3⟩
      ·rintro (h | ⟨h1,h2,h3 | h3⟩)
       ·exact .inl (.inl h)
       ·exact .inl (.inr ⟨h1,h2,h3⟩)
       ·exact .inr ⟨h1,h2,h3⟩
     have hno:∀ a b y,Ed e c p k k' m a b y→¬ (a=z.2.1.1∧b=z.2.1.2):=fun a b y hy=>by
      rcases hy with ⟨_,_,h⟩ | ⟨h1,h2,_⟩ <;> omega
     have e1:ixR (tab N M f) z.2.1.1 = .ok ((rngN M).map fun j=>f z.2.1.1 j):=tab_ix o1 (by omega)
     have e2:ixR ((rngN M).map fun j=>f z.2.1.1 j) z.2.1.2 = .ok (f z.2.1.1 z.2.1.2):=row_ix o3 (by omega)
     have e3:ixR (tab N M f) k = .ok ((rngN M).map fun j=>f k j):=tab_ix kk.i0 (by omega)
     have e4:ixR ((rngN M).map fun j=>f k j) k' = .ok (f k k'):=row_ix kk.j0 (by omega)
     simp only [e1,e2,e3,e4,hv,getO_s,bind_ok]
     have put:(∀ w,f z.2.1.1 z.2.1.2=some w→v+z.2.2≤w)→Rk ((placeR (tab N M f) z.2.1.1).bind fun q=>(setR q.2 z.2.1.2 (some (v+z.2.2))).bind fun r=>Res.ok ((tab N M f).set q.1 r)) fun T=>∃ f,T=tab N M f∧Inv e c p (Ed e c p k k' (m+1)) f∧f k k'=some v:=fun hw=>by
      rw [tab_set _ o1 (by omega) o3 (by omega)]
      exact Rk.ok ⟨_,rfl,(hf.set kk hmem hv hno (by omega) (by omega) hw).iff hE,by rw [upd_ne _ (by omega)]; exact hv⟩
     cases hq:f z.2.1.1 z.2.1.2 with
     | none =>
      simp only [Option.isNone_none,if_true,bind_ok]
      exact put fun w hw=>by rw [hq] at hw; cases hw
     | some w =>
      simp only [Option.isNone_some,Bool.false_eq_true,if_false,getO_s,bind_ok]
      refine Rk.itd (fun h=>put fun w' hw=>by rw [hq] at hw; cases hw; omega) fun h=>Rk.ok ⟨f,rfl,(hf.keep hv hq (by omega)).iff hE,hv⟩
    ·obtain ⟨f,rfl,hf,_⟩:=h
     refine ⟨f,rfl,hf.iff fun a b y=>?_⟩
     unfold Ed
     rw [List.take_length]
     constructor
     ·rintro (⟨h1,h2,h3⟩ | ⟨rfl,rfl,h3⟩)
      ·exact .inl ⟨h1,h2,by omega⟩
      ·exact .inl ⟨kk,h3,.inr ⟨rfl,by omega⟩⟩
     ·rintro (⟨h1,h2,h3⟩ | ⟨_,_,h3⟩)
      ·by_cases hh:a=(k:Int)∧b=(k':Int)
       ·obtain ⟨rfl,rfl⟩:=hh; exact .inr ⟨rfl,rfl,h2⟩
       ·exact .inl ⟨h1,h2,by omega⟩
      ·simp at h3
   ·obtain ⟨f,rfl,hf⟩:=h
    refine ⟨f,rfl,hf.iff fun a b y=>?_⟩
    unfold Ed
    rw [rngN_length]
    constructor
    ·rintro (⟨h1,h2,h3⟩ | ⟨_,_,h3⟩)
     ·exact .inl ⟨h1,h2,by omega⟩
     ·simp at h3
    ·rintro (⟨h1,h2,h3⟩ | ⟨_,_,h3⟩)
     ·have:=h1.j1; have:=h1.j0; exact .inl ⟨h1,h2,by omega⟩
     ·simp at h3
  ·obtain ⟨f,rfl,hf⟩:=h
   rw [rngN_length] at hf
   have hE:∀ a b y,kn e c a b→y∈endsAt e c p a b→Ed e c p N 0 0 a b y:=fun a b y h1 h2=>.inl ⟨h1,h2,by have:=h1.i1; omega⟩
   have hs:∀ a b,kn e c a b→∃ v,f a b=some v:=fun a b h1=>inv_at hf h1 fun i j z h2 h3 _=>hE i j z h2 h3
   refine ⟨fun a b=>(f a b).getD 0,tab_ext fun a b a0 a1 b0 b1=>?_,by simp [hf.z],fun {i j z} k hz=>?_,fun {a b} k h=>?_⟩
   ·obtain ⟨v,hv⟩:=hs a b ⟨a0,by omega,b0,by omega⟩
    simp only [hv,Option.getD_some]
   ·obtain ⟨v,w,h1,h2,h3⟩:=hf.le i j z (hE i j z k hz)
    simp only [h1,h2,Option.getD_some]; exact h3
   ·obtain ⟨w,hw⟩:=hs a b k
    rcases hf.ti a b w hw with h1 | ⟨i,j,z,v,_,h2,h3,h4,h5,h6⟩
    ·exact absurd h1 h
    ·exact ⟨i,j,z,h2,h3,h4,by simp only [hw,h5,Option.getD_some]; exact h6⟩
 ·obtain ⟨t,rfl,h⟩:=hT
  rw [kept_ok (by omega)]
  exact Rk.ok ⟨t,rfl,h⟩
end Vm
end
section
set_option linter.all false
set_option maxHeartbeats 1000000
set_option maxRecDepth 10000
namespace Vm
abbrev Kn:=Int×Int
def lexlt(a b:Kn):Prop:=a.1 < b.1 ∨ (a.1=b.1∧a.2 < b.2)
theorem rngN_lt(n:Nat):(rngN n).Pairwise (· < ·):=by
 unfold rngN
 exact List.pairwise_map.mpr (List.pairwise_lt_range.imp fun h=>by omega)
theorem knL_lex(e c:Row):(knL e c).Pairwise lexlt:=by
 unfold knL
 refine List.pairwise_flatten.mpr ⟨fun l hl=>?_,?_⟩
 ·obtain ⟨i,_,rfl⟩:=List.mem_map.mp hl
  exact List.pairwise_map.mpr ((rngN_lt _).imp fun h=>.inr ⟨rfl,h⟩)
 ·refine List.pairwise_map.mpr ((rngN_lt _).imp fun {a b} h x hx y hy=>?_)
  obtain ⟨_,_,rfl⟩:=List.mem_map.mp hx
  obtain ⟨_,_,rfl⟩:=List.mem_map.mp hy
  exact .inl h
theorem later{e c:Row}{n:Nat}{k k':Kn}(hk:(knL e c).reverse[n]? = some k)(hk':kn e c k'.1 k'.2)(h:lexlt k k'):k'∈(knL e c).reverse.take n:=by
 have hm:k'∈(knL e c).reverse:=List.mem_reverse.mpr (mem_knL.mpr hk')
 obtain ⟨m,hm⟩:=List.getElem?_of_mem hm
 have hp:(knL e c).reverse.Pairwise fun a b=>lexlt b a:=List.pairwise_reverse.mpr (knL_lex e c)
 have l1:=(List.getElem?_eq_some_iff.mp hk).1
 have l2:=(List.getElem?_eq_some_iff.mp hm).1
 have g1:(knL e c).reverse[n]=k:=by simpa [List.getElem?_eq_getElem l1] using hk
 have g2:(knL e c).reverse[m]=k':=by simpa [List.getElem?_eq_getElem l2] using hm
 have no:¬ lexlt k' k:=fun h2=>by unfold lexlt at h h2; omega
 have hne:m ≠ n:=fun e=>by
  subst e
  rw [g1] at g2
  subst g2
  unfold lexlt at h; omega
 have hlt:m < n:=by
  refine Nat.lt_of_not_le fun hle=>?_
  have:=List.pairwise_iff_getElem.mp hp n m l1 l2 (by omega)
  rw [g1,g2] at this
  exact no this
 exact List.mem_iff_getElem?.mpr ⟨m,by rw [List.getElem?_take,if_pos hlt]; exact hm⟩
theorem ends_later{e c:Row}{p:P7}{k:Kn}{z:Zd}(kk:kn e c k.1 k.2)(h:z∈endsAt e c p k.1 k.2):lexlt k z.2.1:=by
 have o:=ends_onw kk h
 have h1:=o.ii
 have h2:=o.jj
 have h3:=o.n
 unfold lexlt; omega
theorem dfind_put{α β:Type}[DecidableEq α](k k':α)(v:β):∀ d:List (α×β),dfind (dput d k v) k'=if k'=k then some v else dfind d k'
 | []=>by
  unfold dput dfind
  by_cases h:k=k'
  ·simp [h]
  ·have h':¬ k'=k:=fun e=>h e.symm
   simp [h,h']
 | z :: d=>by
  have ih:=dfind_put k k' v d
  unfold dput
  by_cases h:z.1=k
  ·rw [if_pos h]
   by_cases h2:k'=k
   ·rw [if_pos h2]; simp [dfind,h,h2]
   ·rw [if_neg h2]
    have h3:¬ z.1=k':=fun e=>h2 (by rw [← e,h])
    simp [dfind,h3]
  ·rw [if_neg h]
   by_cases h3:z.1=k'
   ·have h2:¬ k'=k:=fun e=>h (by rw [h3,e])
    rw [if_neg h2]; simp [dfind,h3]
   ·have e1:dfind (z :: dput d k v) k'=dfind (dput d k v) k':=by simp [dfind,h3]
    have e2:dfind (z :: d) k'=dfind d k':=by simp [dfind,h3]
    rw [e1,e2,ih]
theorem dput_len{α β:Type}[DecidableEq α](k:α)(v:β):∀ d:List (α×β),(dput d k v).length≤d.length+1
 | []=>by simp [dput]
 | z :: d=>by
  have:=dput_len k v d
  unfold dput
  split <;> simp <;> omega
theorem knL_len(e c:Row):(knL e c).length=(e.length+1) * (c.length+1):=by
 unfold knL
 rw [List.length_flatten,List.map_map]
 have:∀ l:List Int,(l.map (List.length ∘ fun i=>(rngN (c.length+1)).map fun j=>(i,j))).sum=l.length * (c.length+1):=fun l=>by
  induction l with
  | nil=>simp
  | cons i l ih=>rw [List.map_cons,List.sum_cons,ih,List.length_cons,Nat.add_mul]; simp; omega
 rw [this,rngN_length]
theorem dix_of{α β:Type}[DecidableEq α]{d:List (α×β)}{k:α}{v:β}(h:dfind d k=some v):dixR d k = .ok v:=by unfold dixR; rw [h]
end Vm
end
section
set_option linter.all false
set_option maxHeartbeats 1000000
set_option maxRecDepth 10000
namespace Vm
def ltr:List Nat:=[97,98,99,100,101,102,103,104,105,106,107,108,109,110,111,112,113,114,115,116,117,118,119,120,121,122]
structure okW (w:List Nat):Prop where
 l1:1≤w.length
 l2:w.length≤12
 c:∀ c∈w,c∈ltr
theorem word_ok{seed code:Int}(h0:0≤seed)(c0:0≤code):Rk (f_law_word_v1 seed code) okW:=by
 unfold f_law_word_v1
 have h1:=Int.emod_nonneg seed (show (12:Int) ≠ 0 by decide)
 have h2:=Int.emod_lt_of_pos seed (show (0:Int) < 12 by decide)
 simp only [bind_assoc,bind_ok]
 refine Rk.bok (rngR_int (by omega) (by omega)) ?_
 refine Rk.bind (P:=fun s=>s.2.length=(1+seed % 12).toNat∧∀ c∈s.2,c∈ltr) (Rk.for (fun k s=>s.2.length=k∧∀ c∈s.2,c∈ltr) ⟨rfl,fun _ h=>nomatch h⟩ (fun k x s hx hi=>?_) (fun s hs=>by rw [rngN_length] at hs; exact hs)) (fun s hs=>?_)
 ·have hk:k < (rngN (1+seed % 12).toNat).length:=(List.getElem?_eq_some_iff.mp hx).1
  rw [rngN_length] at hk
  refine Rk.bok (modR_ok (by omega)) (Rk.bind (P:=fun _=>True) ?_ fun st _=>?_)
  ·exact Rk.ite (fun _=>Rk.ok trivial) (fun _=>Rk.ok trivial)
  ·have a0:=Int.emod_nonneg (s.1+st) (show (26:Int) ≠ 0 by decide)
   have a1:=Int.emod_lt_of_pos (s.1+st) (show (0:Int) < 26 by decide)
   have hmem:=gt_mem (l:=ltr) (i:=(s.1+st) % 26) (show ((s.1+st) % 26).toNat < 26 by omega)
   have hi1:=hi.1
   refine Rk.bok (by exact (show ixR [97,98,99,100,101,102,103,104,105,106,107,108,109,110,111,112,113,114,115,116,117,118,119,120,121,122] ((s.1+st) % 26) = .ok (gt ltr ((s.1+st) % 26)) from ixR_gt (l:=ltr) a0 a1)) ?_
   refine Rk.bok (catR_ok (by simp; omega)) (Rk.ok ⟨by simp [hi1],fun c hc=>?_⟩)
   rcases List.mem_append.mp hc with hc | hc
   ·exact hi.2 c hc
   ·rw [List.mem_singleton] at hc; rw [hc]; exact hmem
 ·have hs1:=hs.1
  refine Rk.and (fun _=>?_) fun _=>?_
  ·refine Rk.bind (P:=okW) (Rk.itd (fun h=>?_) fun h=>Rk.ok ⟨by omega,by omega,hs.2⟩) (fun w hw=>Rk.ok hw)
   refine Rk.bok (catR_ok (by simp; omega)) (Rk.ok ⟨by simp,by simp; omega,fun c hc=>?_⟩)
   rcases List.mem_append.mp hc with hc | hc
   ·exact hs.2 c hc
   ·rw [List.mem_singleton] at hc; rw [hc]; decide
  ·exact Rk.ok ⟨by omega,by omega,hs.2⟩
theorem stir_ok{cell:Int}(h:cell.natAbs.log2≤1048576):Rk (f_law_stir cell) fun s=>0≤s:=by
 unfold f_law_stir
 simp only [bind_assoc,bind_ok]
 refine Rk.bok (mulR_big (n:=127) (by omega) (by decide) (by decide)) (Rk.ok (Int.emod_nonneg _ (by decide)))
theorem cell_at_ok(ns:List Int){k:Int}(h:0≤k){b:Nat}(hb:∀ z∈ns,z.natAbs.log2≤b):Rk (f_law_cell_at ns k) fun z=>z.natAbs.log2≤b:=by
 unfold f_law_cell_at
 refine Rk.itd (fun h1=>?_) fun _=>Rk.ok (by show (Int.natAbs 0).log2≤b; rw [show (Int.natAbs 0).log2=0 from by decide]; omega)
 rw [ixR_gt h h1]
 exact Rk.ok (hb _ (gt_mem (by omega)))
theorem eye_ok{e:List (List Nat)}{left seed most:Int}(hs:0≤seed)(hl:0≤left)(he:e ≠ [])(ho:∀ w∈e,okW w):Rk (f_law_eye e left seed most) fun l=>1≤l.length∧l.length≤13∧(∀ w∈l,okW w)∧l.getLast? = e.getLast?:=by
 unfold f_law_eye
 have key:∀ m:Int,0≤m→m≤12→Rk (((rngR m).bind fun x53=>(noExc (mapR (fun (z43:Int)=>((((mulR ((7:Int)) z43).bind fun x47=>mulR x47 z43).bind fun x48=>Res.ok ((left / (900:Int))+x48)).bind fun x49=>Res.ok (x49 % (10:Int))).bind fun x52=>f_law_word_v1 seed x52) x53)).bind szR).bind fun x56=>((ixR e (-((1:Int)))).bind fun x55=>Res.ok (([x55]:List (List Nat)))).bind fun x57=>catR x56 x57) fun l=>1≤l.length∧l.length≤13∧(∀ w∈l,okW w)∧l.getLast? = e.getLast?:=fun m m0 m1=>by
  simp only [bind_assoc,bind_ok]
  refine Rk.bok (rngR_int m0 (by omega)) ?_
  refine Rk.mapb okW (fun k hk=>?_) (by rw [rngN_length]; omega) fun ys h1 h2=>?_
  ·obtain ⟨k0,k1⟩:=mem_rngN.mp hk
   refine Rk.bok (mulR_ok (m:=3) (n:=5) (by decide) (by omega) (by decide)) ?_
   refine Rk.bok (mulR_ok (m:=10) (n:=5) (by omega) (by omega) (by decide)) ?_
   exact word_ok hs (Int.emod_nonneg _ (by decide))
  ·rw [rngN_length] at h1
   refine Rk.bok (ixR_last he) (Rk.cat (by simp; omega) ⟨by simp,by simp; omega,fun w hw=>?_,by simp [List.getLast?_eq_some_getLast he]⟩)
   rcases List.mem_append.mp hw with hw | hw
   ·exact h2 w hw
   ·rw [List.mem_singleton] at hw; rw [hw]; exact ho _ (List.getLast_mem he)
 refine Rk.bind (key _ ?_ ?_) fun l h=>Rk.ok h
 ·split <;> omega
 ·have:=Int.emod_lt_of_pos (left / 9000) (show (0:Int) < 12 by decide)
  have:=Int.emod_nonneg (left / 9000) (show (12:Int) ≠ 0 by decide)
  split <;> (try split) <;> omega
structure Mde (k:Nat) (e c:List (List Nat)) (s:List Stp):Prop where
 e1:e.length≤13 * k
 c1:c.length≤2 * k
 s1:s.length≤k
 e2:∀ w∈e,okW w
 c2:∀ w∈c,okW w
theorem slip_ok{k:Nat}{e c:List (List Nat)}{s:List Stp}{left:Int}{w v:List Nat}(h:Mde k e c s)(hk:k≤100)(hw:okW w)(hv:okW v):Rk (f_law_slip e c s left [w,v]) fun x=>Mde (k+1) x.1 x.2.1 x.2.2:=by
 obtain ⟨a1,a2,a3,a4,a5⟩:=h
 have one:∀ {l:List (List Nat)} {x},(∀ y∈l,okW y)→okW x→∀ y∈l++[x],okW y:=fun h1 h2 y hy=>by
  rcases List.mem_append.mp hy with hy | hy
  ·exact h1 y hy
  ·rw [List.mem_singleton] at hy; rw [hy]; exact h2
 have two:∀ {l:List (List Nat)} {x z},(∀ y∈l,okW y)→okW x→okW z→∀ y∈l++[x,z],okW y:=fun h1 h2 h3 y hy=>by
  rcases List.mem_append.mp hy with hy | hy
  ·exact h1 y hy
  ·rcases List.mem_cons.mp hy with rfl | hy
   ·exact h2
   ·rw [List.mem_singleton] at hy; rw [hy]; exact h3
 unfold f_law_slip
 refine Rk.noExc ?_
 refine Rk.bok (show ixR [w,v] 0 = .ok w from rfl) (Rk.bok (show ixR [w,v] 1 = .ok v from rfl) ?_)
 simp only [bind_ok]
 have ite2:∀ {c:Prop} [Decidable c] (b:Bool),(if c then Res.ok b else Res.ok false)=Res.ok (if c then b else false):=fun b=>by split <;> rfl
 simp only [ite2,bind_ok]
 have A1:appR e w = .ok (e++[w]):=appR_ok (by omega)
 have A2:∀ x,appR c x = .ok (c++[x]):=fun x=>appR_ok (by omega)
 have A3:∀ x,appR s x = .ok (s++[x]):=fun x=>appR_ok (by omega)
 have A4:catR e [w,v] = .ok (e++[w,v]):=catR_ok (by simp; omega)
 have A5:catR c [v,w] = .ok (c++[v,w]):=catR_ok (by simp; omega)
 simp only [A1,A2,A3,A4,A5,bind_ok]
 refine Rk.ite (fun _=>Rk.ok ?_) fun _=>Rk.ite (fun _=>Rk.ok ?_) fun _=>Rk.ite (fun _=>Rk.ok ?_) fun _=>Rk.ite (fun h=>?_) fun _=>Rk.ite (fun _=>Rk.ok ?_) fun _=>Rk.ok ?_
 ·exact ⟨by simp; omega,by simp; omega,by simp; omega,one a4 hw,one a5 hv⟩
 ·exact ⟨by simp; omega,by simp only; omega,by simp; omega,one a4 hw,a5⟩
 ·exact ⟨by simp only; omega,by simp; omega,by simp; omega,a4,one a5 hw⟩
 ·have hc:c ≠ []:=fun e=>by subst e; simp at h
  simp only [ixR_last hc,bind_ok]
  exact Rk.ok ⟨by simp only; omega,by simp; omega,by simp; omega,a4,one a5 (a5 _ (List.getLast_mem hc))⟩
 ·exact ⟨by simp; omega,by simp; omega,by simp; omega,two a4 hw hv,two a5 hv hw⟩
 ·exact ⟨by simp; omega,by simp; omega,by simp; omega,one a4 hw,one a5 hw⟩
theorem pair_ok{cells:List Int}{seed most:Int}(hs:0≤seed)(hb:∀ z∈cells,z.natAbs.log2≤1048576)(hl:cells.length≤100):Rk (f_law_pair_v2 cells seed most) fun x=>Mde cells.length x.1 x.2.1 x.2.2:=by
 unfold f_law_pair_v2
 show Rk (Res.bind _ _) _
 refine Rk.bind (P:=fun s=>Mde cells.length s.1 s.2.1 s.2.2) (Rk.for (fun k s=>Mde k s.1 s.2.1 s.2.2) ⟨by simp,by simp,by simp,fun _ h=>by simp at h,fun _ h=>by simp at h⟩ (fun k x s hx h=>?_) fun s h=>h) fun s h=>Rk.ok h
 have hk:k < cells.length:=(List.getElem?_eq_some_iff.mp hx).1
 refine Rk.bind (stir_ok (hb x (List.mem_of_getElem? hx))) fun left l0=>?_
 have low:Rk (((f_law_word_v1 seed ((left / (9:Int)) % (10:Int))).bind fun x27=>(f_law_word_v1 seed ((left / (90:Int)) % (10:Int))).bind fun x28=>Res.ok (([x27,x28]:List (List Nat)))).bind fun (s29:List (List Nat))=>(f_law_slip s.1 s.2.1 s.2.2 left s29).bind fun (s30:((List (List Nat))×(List (List Nat))×(List (Stp))))=>Res.ok ((s30.1,s30.2.1,s30.2.2))) fun x=>Mde (k+1) x.1 x.2.1 x.2.2:=by
  simp only [bind_assoc,bind_ok]
  refine Rk.bind (word_ok hs (Int.emod_nonneg _ (by decide))) fun w hw=>Rk.bind (word_ok hs (Int.emod_nonneg _ (by decide))) fun v hv=>?_
  exact Rk.bind (slip_ok h (by omega) hw hv) fun x hx=>Rk.ok hx
 refine Rk.and (fun _=>?_) fun _=>low
 rw [bind_ok]
 refine Rk.itn (fun hne=>?_) fun _=>low
 obtain ⟨a1,a2,a3,a4,a5⟩:=h
 refine Rk.bind (eye_ok hs l0 hne a4) fun l hl=>?_
 have:=hl.2.1
 refine Rk.bok (catR_ok (by omega)) (Rk.bok (appR_ok (by omega)) (Rk.ok ⟨by simp; omega,by simp only; omega,by simp; omega,fun w hw=>?_,a5⟩))
 rcases List.mem_append.mp hw with hw | hw
 ·exact a4 w hw
 ·exact hl.2.2.1 w hw
end Vm
end
section
set_option linter.all false
set_option maxHeartbeats 1000000
set_option maxRecDepth 10000
namespace Vm
theorem stepI_mem{j c x:Int}(hc:0 < c)(hj:0≤j)(h:x∈stepI 0 j c):0≤x∧x < j:=by
 unfold stepI at h
 obtain ⟨k,hk,rfl⟩:=List.mem_map.mp h
 have hk:=List.mem_range.mp hk
 unfold stepN at hk
 have h1:(k:Int) < (j - 0+c - 1) / c:=by omega
 have h2:(k:Int)+1≤(j - 0+c - 1) / c:=h1
 have h3:=(Int.le_ediv_iff_mul_le hc).mp h2
 rw [Int.add_mul] at h3
 have h4:0≤(k:Int) * c:=Int.mul_nonneg (by omega) (by omega)
 omega
theorem stepI_len{j c:Int}(hc:0 < c)(hj:0≤j):(stepI 0 j c).length≤j.toNat:=by
 unfold stepI
 rw [List.length_map,List.length_range]
 unfold stepN
 have:(j - 0+c - 1) / c≤j:=by
  by_cases h:j=0
  ·subst h
   rw [Int.ediv_eq_zero_of_lt (by omega) (by omega)]; omega
  ·refine Int.ediv_le_of_le_mul hc ?_
   have e:j * c=(j - 1) * (c - 1)+j+c - 1:=by
    rw [Int.sub_mul,Int.mul_sub]; omega
   have:0≤(j - 1) * (c - 1):=Int.mul_nonneg (by omega) (by omega)
   omega
 omega
theorem cut_len{α:Type}(xs:List α)(lo hi:Option Int):(cutL xs lo hi).length≤xs.length:=by
 unfold cutL; rw [List.length_take,List.length_drop]; omega
theorem cut_mem{α:Type}{xs:List α}{lo hi:Option Int}{x:α}(h:x∈cutL xs lo hi):x∈xs:=by
 unfold cutL at h; exact List.mem_of_mem_drop (List.mem_of_mem_take h)
theorem cut_to{α:Type}(xs:List α){k:Int}(h:0≤k):(cutL xs none (some k)).length≤k.toNat:=by
 rw [cut_take h,List.length_take]; omega
structure okP (p:List (List Nat)×List (List Nat)):Prop where
 l1:p.1.length≤40
 l2:p.2.length≤40
 w1:∀ w∈p.1,okW w
 w2:∀ w∈p.2,okW w
theorem setR_last{α:Type}(l:List α)(x y:α):setR (l++[x]) (-1) y = .ok (l++[y]):=by
 unfold setR vIxN
 rw [if_neg (by omega),if_pos (by simp; omega)]
 have e:((-1:Int)+((l++[x]).length:Int)).toNat=l.length:=by simp; omega
 rw [e]
 simp
theorem pairs_ok(ns:List Int)(hl:ns.length≤63)(hb:∀ z∈ns,z.natAbs.log2≤1048576){many:Int}(m0:0 < many)(m1:many≤24):Rk (f_law_pairs ns many) fun ps=>∀ p∈ps,okP p:=by
 unfold f_law_pairs
 simp only [bind_assoc,bind_ok]
 refine Rk.bind (cell_at_ok ns (by decide) hb) fun z hz=>Rk.bind (stir_ok hz) fun seed s0=>?_
 rw [cut_drop (by decide)]
 generalize hcs:ns.drop (Int.toNat 2)=cs
 have cl:cs.length≤63:=by rw [← hcs,List.length_drop]; omega
 have cb:∀ z∈cs,z.natAbs.log2≤1048576:=fun z hz=>hb z (by rw [← hcs] at hz; exact List.mem_of_mem_drop hz)
 rw [rng3P_ok m0 (by omega) (by decide) (by decide) (by omega) (by omega),bind_ok]
 have cut2:∀ {e c:List (List Nat)} {a b:Int} {k:Nat} {s:List Stp},Mde k e c s→0≤a→a≤40→0≤b→b≤40→okP (cutL e none (some a),cutL c none (some b)):=fun {e c a b k s} h a0 a1 b0 b1=>by
  have h1:=cut_to e a0
  have h2:=cut_to c b0
  exact ⟨by simp only; omega,by simp only; omega,fun w hw=>h.e2 w (cut_mem hw),fun w hw=>h.c2 w (cut_mem hw)⟩
 have sl:(stepI 0 (cs.length:Int) many).length≤63:=by
  have:=stepI_len (j:=(cs.length:Int)) m0 (by omega)
  omega
 refine Rk.bind (P:=fun ps=>ps.length≤64∧∀ p∈ps,okP p) (Rk.for (fun k ps=>ps.length=k+1∧∀ p∈ps,okP p) ⟨rfl,fun p hp=>?_⟩ (fun k x ps hx hi=>?_) fun s hs=>⟨by omega,hs.2⟩) fun ps hp=>?_
 ·rw [List.mem_singleton] at hp; rw [hp]; exact ⟨by simp,by simp,fun _ h=>by simp at h,fun _ h=>by simp at h⟩
 ·obtain ⟨x0,x1⟩:=stepI_mem m0 (by omega) (List.mem_of_getElem? hx)
  have hk:=(List.getElem?_eq_some_iff.mp hx).1
  have hcl:=cut_len cs (some x) (some (x+many))
  refine Rk.bind (pair_ok s0 (fun z hz=>cb z (cut_mem hz)) (by omega)) fun p hp=>?_
  have one:∀ q,okP q→∀ p∈ps++[q],okP p:=fun q hq p hp=>by
   rcases List.mem_append.mp hp with hp | hp
   ·exact hi.2 p hp
   ·rw [List.mem_singleton] at hp; rw [hp]; exact hq
  refine Rk.bok (appR_ok (by omega)) (Rk.bok (ixR_gt x0 x1) (Rk.itd (fun _=>?_) fun _=>Rk.ok ⟨by simp; omega,one _ (cut2 hp (by decide) (by decide) (by decide) (by decide))⟩))
  rw [setR_last,bind_ok]
  refine Rk.ok ⟨by simp; omega,one _ ?_⟩
  obtain ⟨a1,a2,a3,a4,a5⟩:=hp
  exact cut2 ⟨a1,by rw [List.length_reverse]; exact a2,a3,a4,fun w hw=>a5 w (List.mem_reverse.mp hw)⟩ (by decide) (by decide) (by decide) (by decide)
 ·refine Rk.bind (cell_at_ok ns (by decide) hb) fun z hz=>?_
  have hc2:=cut_len cs none (some 24)
  have end':∀ {r:Res (List (List (List Nat)×List (List Nat)))},Rk r (fun ps=>∀ p∈ps,okP p)→Rk (r.bind fun s=>Res.ok s) fun ps=>∀ p∈ps,okP p:=fun h=>Rk.bind h fun s hs=>Rk.ok hs
  refine end' (Rk.itd (fun _=>?_) fun _=>Rk.ok hp.2)
  refine Rk.bind (pair_ok s0 (fun z hz=>cb z (cut_mem hz)) (by omega)) fun p hq=>?_
  refine Rk.bind (cell_at_ok ns (by decide) hb) fun z2 hz2=>?_
  refine Rk.bind (P:=fun (c:Int×Int)=>(0≤c.1∧c.1≤40)∧0≤c.2∧c.2≤40) ?_ fun c hc=>?_
  ·have a0:=Int.emod_nonneg (z2 / 4) (show (2:Int) ≠ 0 by decide)
   have a1:=Int.emod_lt_of_pos (z2 / 4) (show (0:Int) < 2 by decide)
   generalize z2 / 4 % 2=y at *
   have:y=0 ∨ y=1:=by omega
   rcases this with rfl | rfl
   ·exact Rk.of (x:=(40,3)) rfl (by decide)
   ·exact Rk.of (x:=(3,40)) rfl (by decide)
  ·refine Rk.bok (appR_ok (by omega)) (Rk.ok fun p hp'=>?_)
   rcases List.mem_append.mp hp' with hp' | hp'
   ·exact hp.2 p hp'
   ·rw [List.mem_singleton] at hp'; rw [hp']; exact cut2 hq hc.1.1 hc.1.2 hc.2.1 hc.2.2
end Vm
end
section
set_option linter.all false
set_option maxHeartbeats 1000000
set_option maxRecDepth 10000
namespace Vm
def okL(s:Int):Prop:=0≤s∧s < 170141183460469231731687303715884105727
theorem stir2{cell:Int}(h:cell.natAbs.log2≤1048576):Rk (f_law_stir cell) okL:=by
 unfold f_law_stir
 simp only [bind_assoc,bind_ok]
 refine Rk.bok (mulR_big (n:=127) (by omega) (by decide) (by decide)) (Rk.ok ⟨Int.emod_nonneg _ (by decide),Int.emod_lt_of_pos _ (by decide)⟩)
theorem next_ok{s:Int}(h:okL s):Rk (f_law_next s) okL:=by
 unfold f_law_next
 simp only [bind_assoc,bind_ok]
 obtain ⟨a,b⟩:=h
 refine Rk.bok (mulR_ok (m:=128) (n:=127) (by omega) (by decide) (by decide)) (Rk.ok ⟨Int.emod_nonneg _ (by decide),Int.emod_lt_of_pos _ (by decide)⟩)
theorem prices_ok{cell:Int}(h:cell.natAbs.log2≤1048576):Rk (f_law_prices cell) fun l=>l.length=7∧∀ x∈l,0≤x:=by
 unfold f_law_prices
 refine Rk.bind (stir2 h) fun s hs=>?_
 show Rk (Res.bind (Res.bind _ _) _) _
 rw [rngR_int (by decide) (by decide),bind_ok]
 refine Rk.bind (P:=fun (s:Int×List Int)=>s.2.length=7∧∀ x∈s.2,0≤x) (Rk.for (fun k s=>okL s.1∧s.2.length=k∧∀ x∈s.2,0≤x) ⟨hs,rfl,fun _ h=>by simp at h⟩ (fun k x s hx hi=>?_) fun l h=>h.2) fun l h=>Rk.ok h
 have hk7:k < 7:=(List.getElem?_eq_some_iff.mp hx).1
 obtain ⟨rfl,_⟩:=rngN_get hx
 obtain ⟨i0,i1,i2⟩:=hi
 refine Rk.bind (P:=fun z=>0≤z) (Rk.itd (fun _=>Rk.ok (Int.emod_nonneg _ (by decide))) fun _=>Rk.ok (Int.emod_nonneg _ (by decide))) fun z hz=>?_
 refine Rk.bind (P:=fun z=>0≤z) ?_ fun w hw=>?_
 ·refine Rk.and (fun _=>?_) fun _=>Rk.ok hz
  rw [bind_ok]
  refine Rk.itd (fun _=>?_) fun _=>Rk.ok hz
  simp only [bind_assoc]
  refine Rk.bok (fdivR_ok (by omega) (Int.lt_trans (show (k:Int)+1 < 8 by omega) (by decide))) (Rk.bok (modR_ok (by decide)) (Rk.ok (Int.emod_nonneg _ (by decide))))
 ·refine Rk.bok (appR_ok (by omega)) (Rk.bind (next_ok i0) fun n hn=>Rk.ok ⟨hn,by simp [i1],fun y hy=>?_⟩)
  rcases List.mem_append.mp hy with hy | hy
  ·exact i2 y hy
  ·rw [List.mem_singleton] at hy; rw [hy]; exact hw
theorem seven{l:List Int}(h:l.length=7)(h0:∀ x∈l,0≤x):∃ p:P7,l=l7 p∧p.ok:=by
 match l,h,h0 with
 | [a,b,c,d,e,f,g],_,h0=>exact ⟨(a,b,c,d,e,f,g),rfl,h0 _ (by simp),h0 _ (by simp),h0 _ (by simp),h0 _ (by simp),h0 _ (by simp),h0 _ (by simp),h0 _ (by simp)⟩
theorem okP.r1{p:Row×Row}(h:okP p):okR p.1:=⟨by have:=h.l1; omega,fun w hw=>by have:=(h.w1 w hw).l2; omega⟩
theorem okP.r2{p:Row×Row}(h:okP p):okR p.2:=⟨by have:=h.l2; omega,fun w hw=>by have:=(h.w2 w hw).l2; omega⟩
end Vm
end
section
set_option linter.all false
set_option maxHeartbeats 1000000
set_option maxRecDepth 10000
namespace Vm
abbrev Ch:=Stp×Int×Int
def tight(e c:Row)(p:P7)(i j:Int)(z:Zd):Bool:=decide (z.2.2+rest e c p z.2.1.1 z.2.1.2=rest e c p i j)
def goods(e c:Row)(p:P7)(i j:Int):List Zd:=(endsAt e c p i j).filter (tight e c p i j)
def cheap(e c:Row)(p:P7)(i j:Int):List Ch:=(goods e c p i j).map fun z=>(z.1,z.2.1)
theorem restT_ix{e c:Row}{p:P7}{i j:Int}(k:kn e c i j):ixR (restT e c p) i = .ok ((rngN (c.length+1)).map fun j=>some (rest e c p i j))∧ixR ((rngN (c.length+1)).map fun j=>some (rest e c p i j)) j = .ok (some (rest e c p i j)):=by
 obtain ⟨k0,k1,k2,k3⟩:=k
 exact ⟨tab_ix k0 (by omega),row_ix k2 (by omega)⟩
theorem cheap_ok{e c:Row}{p:P7}{i j:Int}(he:okR e)(hc:okR c)(k:kn e c i j):f_cheapest_ends e c i j (l7 p) (restT e c p) = .ok (cheap e c p i j):=by
 have hel:=he.l
 have hel2:(endsAt e c p i j).length≤e.length+5:=by unfold endsAt; rw [List.length_map]; exact stepsAt_le e c i j k.i0
 refine Rk.eq ?_
 unfold f_cheapest_ends
 rw [priced_ok he hc k]
 simp only [bind_assoc,bind_ok]
 refine Rk.lcb (tight e c p i j) (fun z=>(z.1,z.2.1)) (fun z hz=>⟨?_,fun _=>rfl⟩) (by omega) (Rk.ok rfl)
 have o:=(ends_onw k hz).k
 simp only [(restT_ix o).1,(restT_ix o).2,(restT_ix k).1,(restT_ix k).2,getO_s,bind_ok]
 simp [tight]
def manyN(e c:Row)(p:P7):Nat→Int→Int→Int
 | 0,_,_=>0
 | n+1,i,j=>if i=e.length∧j=c.length then 1 else ((goods e c p i j).map fun z=>manyN e c p n z.2.1.1 z.2.1.2).sum
def many(e c:Row)(p:P7)(i j:Int):Int:=manyN e c p ((e.length:Int) - i+((c.length:Int) - j)+1).toNat i j
theorem mem_goods{e c:Row}{p:P7}{i j:Int}{z:Zd}(h:z∈goods e c p i j):z∈endsAt e c p i j:=(List.mem_filter.mp h).1
theorem manyN_eq{e c:Row}{p:P7}:∀ (n:Nat) {i j:Int},kn e c i j→(e.length:Int) - i+((c.length:Int) - j) < n→manyN e c p n i j=many e c p i j:=by
 intro n
 induction n using Nat.strongRecOn with
 | _ n ih =>
  intro i j k h
  have hk:=k
  obtain ⟨k0,k1,k2,k3⟩:=hk
  unfold many
  cases n with
  | zero=>omega
  | succ n =>
   obtain ⟨m,hm⟩:∃ m,((e.length:Int) - i+((c.length:Int) - j)+1).toNat=m+1:=⟨((e.length:Int) - i+((c.length:Int) - j)).toNat,by omega⟩
   rw [hm,manyN,manyN]
   by_cases hl:i=e.length∧j=c.length
   ·rw [if_pos hl,if_pos hl]
   ·rw [if_neg hl,if_neg hl]
    congr 1
    refine List.map_congr_left fun z hz=>?_
    have o:=ends_onw k (mem_goods hz)
    have:=o.n
    by_cases hmn:m+1≤n+1
    ·rw [ih n (by omega) o.k (by omega)]
     by_cases hl:m < n+1
     ·rw [ih m (by omega) o.k (by omega)]
     ·omega
    ·omega
theorem many_eq{e c:Row}{p:P7}{i j:Int}(k:kn e c i j):many e c p i j=if i=e.length∧j=c.length then 1 else ((goods e c p i j).map fun z=>many e c p z.2.1.1 z.2.1.2).sum:=by
 have hk:=k
 obtain ⟨k0,k1,k2,k3⟩:=hk
 rw [← manyN_eq (((e.length:Int) - i+((c.length:Int) - j)).toNat+1) k (by omega),manyN]
 by_cases hl:i=e.length∧j=c.length
 ·rw [if_pos hl,if_pos hl]
 ·rw [if_neg hl,if_neg hl]
  congr 1
  refine List.map_congr_left fun z hz=>?_
  have o:=ends_onw k (mem_goods hz)
  have:=o.n
  rw [manyN_eq _ o.k (by omega)]
def manyT(e c:Row)(p:P7):List (List (Option Int)):=tab (e.length+1) (c.length+1) fun a b=>some (many e c p a b)
theorem manyfrom_ok{e c:Row}{p:P7}(he:okR e)(hc:okR c):f_many_from e c (l7 p) (restT e c p) = .ok (manyT e c p):=by
 have hel:=he.l
 have hcl:=hc.l
 refine Rk.eq ?_
 unfold f_many_from
 rw [empty_ok he hc]
 simp only [bind_ok]
 rw [empty_none]
 generalize hN:e.length+1=N
 generalize hM:c.length+1=M
 rw [show ((e.length:Int)+1)=(N:Int) by omega,show ((c.length:Int)+1)=(M:Int) by omega,rrngR_nat (by omega),rrngR_nat (by omega)]
 simp only [bind_ok]
 refine Rk.bind (Rk.for (Q:=fun t=>t=manyT e c p) (fun k t=>∃ f,t=tab N M f∧∀ a b,kn e c a b→(N:Int) - k≤a→f a b=some (many e c p a b)) ⟨_,rfl,fun a b ha h=>?_⟩ (fun k i t hx hi=>?_) fun t h=>?_) fun t ht=>?_
 ·have:=ha.i1; omega
 ·obtain ⟨rfl,hk⟩:=rev_get hx
  obtain ⟨f,rfl,hf⟩:=hi
  refine Rk.bind (Rk.for (Q:=fun t=>∃ f,t=tab N M f∧∀ a b,kn e c a b→(N:Int) - (k+1:Nat)≤a→f a b=some (many e c p a b)) (fun k' t=>∃ f,t=tab N M f∧∀ a b,kn e c a b→(N:Int) - k≤a ∨ (a=(N:Int) - 1 - k∧(M:Int) - k'≤b)→f a b=some (many e c p a b)) ⟨f,rfl,fun a b ha h=>?_⟩ (fun k' j t hy hj=>?_) fun t h=>?_) fun t ht=>Rk.ok ht
  ·rcases h with h | h
   ·exact hf a b ha h
   ·have:=ha.j1; omega
  ·obtain ⟨rfl,hk'⟩:=rev_get hy
   obtain ⟨f,rfl,hf⟩:=hj
   have kk:kn e c ((N:Int) - 1 - k) ((M:Int) - 1 - k'):=⟨by omega,by omega,by omega,by omega⟩
   generalize hI:(N:Int) - 1 - k=I at *
   generalize hJ:(M:Int) - 1 - k'=J at *
   rw [cheap_ok he hc kk,bind_ok]
   have hel2:(cheap e c p I J).length≤e.length+5:=by
    unfold cheap goods; rw [List.length_map]
    refine Nat.le_trans (List.length_filter_le _ _) ?_
    unfold endsAt; rw [List.length_map]; exact stepsAt_le e c I J kk.i0
   rw [mapR_sz (fun z=>many e c p z.2.1 z.2.2) (fun z hz=>by
    obtain ⟨y,hy,rfl⟩:=List.mem_map.mp hz
    have o:=ends_onw kk (mem_goods hy)
    have h1:=o.k.i0
    have h2:=o.k.i1
    have h3:=o.k.j0
    have h4:=o.k.j1
    have:=o.ii
    have:=o.jj
    have:=o.n
    rw [tab_ix h1 (by omega),bind_ok,row_ix h3 (by omega),bind_ok,hf _ _ o.k (by omega),getO_s]) (by omega)]
   have hsum:((cheap e c p I J).map fun z=>many e c p z.2.1 z.2.2).sum=((goods e c p I J).map fun z=>many e c p z.2.1.1 z.2.1.2).sum:=by unfold cheap; rw [List.map_map]; rfl
   rw [bind_ok,bind_ok,bind_ok,hsum,tab_set _ kk.i0 (by omega) kk.j0 (by omega),bind_ok]
   have fin:∀ v,v=many e c p I J→∃ g,tab N M (upd f I J (some v))=tab N M g∧∀ a b,kn e c a b→(N:Int) - k≤a ∨ (a=I∧(M:Int) - (k' + 1:Nat)≤b)→g a b=some (many e c p a b):=fun v hv=>⟨_,rfl,fun a b ha h=>by
    by_cases hab:a=I∧b=J
    ·obtain ⟨rfl,rfl⟩:=hab; rw [upd_at,hv]
    ·rw [upd_ne _ hab]
     exact hf a b ha (by omega)⟩
   refine Rk.and (fun h1=>?_) fun h1=>?_
   ·rw [bind_ok]
    refine Rk.itd (fun h2=>?_) fun h2=>?_
    ·rw [tab_set _ kk.i0 (by omega) kk.j0 (by omega),bind_ok]
     have hu:upd (upd f I J (some ((goods e c p I J).map fun z=>many e c p z.2.1.1 z.2.1.2).sum)) I J (some 1)=upd f I J (some 1):=by
      funext a b; unfold upd; split <;> simp_all
     rw [hu]
     exact Rk.ok (fin 1 (by rw [many_eq kk,if_pos ⟨h1,h2⟩]))
    ·exact Rk.ok (fin _ (by rw [many_eq kk,if_neg fun h=>h2 h.2]))
   ·rw [if_neg (by decide)]
    exact Rk.ok (fin _ (by rw [many_eq kk,if_neg fun h=>h1 h.1]))
  ·obtain ⟨f,rfl,hf⟩:=h
   refine ⟨f,rfl,fun a b ha h=>hf a b ha ?_⟩
   rw [List.length_reverse,rngN_length]
   have:=ha.j0
   omega
 ·obtain ⟨f,rfl,hf⟩:=h
  unfold manyT
  rw [hN,hM]
  refine tab_ext fun a b a0 a1 b0 b1=>hf a b ⟨a0,by omega,b0,by omega⟩ ?_
  rw [List.length_reverse,rngN_length]
  omega
 ·exact Rk.ok ht
theorem goods_ne{e c:Row}{p:P7}{i j:Int}(k:kn e c i j)(h:¬ (i=e.length∧j=c.length)):goods e c p i j ≠ []:=by
 obtain ⟨z,h1,h2⟩:=rest_some (p:=p) k h
 intro h0
 have:z∈goods e c p i j:=List.mem_filter.mpr ⟨h1,decide_eq_true h2.symm⟩
 rw [h0] at this; simp at this
end Vm
end
section
set_option linter.all false
set_option maxHeartbeats 1000000
set_option maxRecDepth 10000
namespace Vm
def remK(e c:Row)(i j:Int):Int:=(e.length:Int) - i+((c.length:Int) - j)
def recF(G:Int→Int→(Int→Int→Int)→Int):Nat→Int→Int→Int
 | 0,_,_=>0
 | n+1,i,j=>G i j (recF G n)
def recK(e c:Row)(G:Int→Int→(Int→Int→Int)→Int)(i j:Int):Int:=recF G (remK e c i j+1).toNat i j
def Loc(e c:Row)(p:P7)(G:Int→Int→(Int→Int→Int)→Int):Prop:=∀ i j,kn e c i j→∀ f g:Int→Int→Int,(∀ z∈endsAt e c p i j,f z.2.1.1 z.2.1.2=g z.2.1.1 z.2.1.2)→G i j f=G i j g
theorem recF_eq{e c:Row}{p:P7}{G}(hG:Loc e c p G):∀ (n:Nat) {i j:Int},kn e c i j→remK e c i j < n→recF G n i j=recK e c G i j:=by
 intro n
 induction n using Nat.strongRecOn with
 | _ n ih =>
  intro i j k h
  have hk:=k
  obtain ⟨k0,k1,k2,k3⟩:=hk
  unfold recK
  unfold remK at *
  cases n with
  | zero=>omega
  | succ n =>
   obtain ⟨m,hm⟩:∃ m,((e.length:Int) - i+((c.length:Int) - j)+1).toNat=m+1:=⟨((e.length:Int) - i+((c.length:Int) - j)).toNat,by omega⟩
   rw [hm,recF,recF]
   refine hG i j k _ _ fun z hz=>?_
   have o:=ends_onw k hz
   have:=o.n
   by_cases hmn:m+1≤n+1
   ·rw [ih n (by omega) o.k (by omega)]
    by_cases hl:m < n+1
    ·rw [ih m (by omega) o.k (by omega)]
    ·omega
   ·omega
theorem recK_eq{e c:Row}{p:P7}{G}(hG:Loc e c p G){i j:Int}(k:kn e c i j):recK e c G i j=G i j (recK e c G):=by
 have hk:=k
 obtain ⟨k0,k1,k2,k3⟩:=hk
 rw [← recF_eq hG ((remK e c i j).toNat+1) k (by unfold remK; omega),recF]
 refine hG i j k _ _ fun z hz=>?_
 have o:=ends_onw k hz
 have:=o.n
 exact recF_eq hG _ o.k (by unfold remK; omega)
theorem kn_ind{e c:Row}(p:P7){P:Int→Int→Prop}(h:∀ i j,kn e c i j→(∀ z∈endsAt e c p i j,P z.2.1.1 z.2.1.2)→P i j):∀ i j,kn e c i j→P i j:=by
 have key:∀ (n:Nat) i j,kn e c i j→remK e c i j < n→P i j:=by
  intro n
  induction n with
  | zero=>intro i j k h0; have:=k.i1; have:=k.j1; unfold remK at h0; omega
  | succ n ih =>
   intro i j k h0
   refine h i j k fun z hz=>?_
   have o:=ends_onw k hz
   have:=o.n
   exact ih _ _ o.k (by unfold remK at *; omega)
 intro i j k
 have:=k.i1; have:=k.j1
 exact key ((remK e c i j).toNat+1) i j k (by unfold remK; omega)
def okz(b:Option Kn)(k:Kn)(z:Zd):Bool:=!decide (z.1 = .keep) || !decide (some k=b)
def rbG(e c:Row)(p:P7)(b:Option Kn)(i j:Int)(f:Int→Int→Int):Int:=(minI (((endsAt e c p i j).filter (okz b (i,j))).map fun z=>z.2.2+f z.2.1.1 z.2.1.2)).getD 0
def avG(e c:Row)(p:P7)(b:Option Kn)(i j:Int)(f:Int→Int→Int):Int:=if i=e.length∧j=c.length then 1 else (((goods e c p i j).filter (okz b (i,j))).map fun z=>f z.2.1.1 z.2.1.2).sum
def toG(e c:Row)(p:P7)(x:Kn)(i j:Int)(f:Int→Int→Int):Int:=if (i,j)=x then 1 else ((goods e c p i j).map fun z=>f z.2.1.1 z.2.1.2).sum
theorem rbG_loc{e c:Row}{p:P7}(b:Option Kn):Loc e c p (rbG e c p b):=fun i j k f g h=>by
 unfold rbG
 congr 2
 exact List.map_congr_left fun z hz=>by rw [h z (List.mem_filter.mp hz).1]
theorem avG_loc{e c:Row}{p:P7}(b:Option Kn):Loc e c p (avG e c p b):=fun i j k f g h=>by
 unfold avG
 congr 2
 exact List.map_congr_left fun z hz=>by rw [h z (mem_goods (List.mem_filter.mp hz).1)]
theorem toG_loc{e c:Row}{p:P7}(x:Kn):Loc e c p (toG e c p x):=fun i j k f g h=>by
 unfold toG
 congr 2
 exact List.map_congr_left fun z hz=>by rw [h z (mem_goods hz)]
def rb(e c:Row)(p:P7)(b:Option Kn):Int→Int→Int:=recK e c (rbG e c p b)
def av(e c:Row)(p:P7)(b:Option Kn):Int→Int→Int:=recK e c (avG e c p b)
def wto(e c:Row)(p:P7)(x:Kn):Int→Int→Int:=recK e c (toG e c p x)
section
variable {e c:Row} {p:P7} {i j:Int}
theorem rb_eq{b}(k:kn e c i j):rb e c p b i j=least (((endsAt e c p i j).filter (okz b (i,j))).map fun z=>z.2.2+rb e c p b z.2.1.1 z.2.1.2):=recK_eq (rbG_loc (p:=p) b) k
theorem av_eq{b}(k:kn e c i j):av e c p b i j=if i=e.length∧j=c.length then 1 else (((goods e c p i j).filter (okz b (i,j))).map fun z=>av e c p b z.2.1.1 z.2.1.2).sum:=recK_eq (avG_loc (p:=p) b) k
theorem wto_eq{x}(k:kn e c i j):wto e c p x i j=if (i,j)=x then 1 else ((goods e c p i j).map fun z=>wto e c p x z.2.1.1 z.2.1.2).sum:=recK_eq (toG_loc (p:=p) x) k
theorem okz_ne{x k:Kn}(z:Zd)(h:k ≠ x):okz (some x) k z=true:=by unfold okz; simp [h]
theorem okz_at{x:Kn}(z:Zd):okz (some x) x z = !decide (z.1 = .keep):=by unfold okz; simp
theorem filter_all{α:Type}{q:α→Bool}{l:List α}(h:∀ x∈l,q x=true):l.filter q=l:=List.filter_eq_self.mpr h
theorem ends_nk{b:Option Kn}(k:kn e c i j)(h:¬ (i=e.length∧j=c.length)):(endsAt e c p i j).filter (okz b (i,j)) ≠ []:=by
 obtain ⟨k0,k1,k2,k3⟩:=k
 intro h0
 have h1:=List.filter_eq_nil_iff.mp h0
 have key:∀ s∈stepsAt e c i j,s ≠ .keep→False:=fun s hs hk=>by
  have:=h1 _ (List.mem_map_of_mem (f:=fun s=>(s,endS i j s,costS e p i s)) hs)
  unfold okz at this
  simp [hk] at this
 by_cases hi:i < e.length
 ·exact key .lose (by unfold stepsAt loseS; simp [hi]) (by simp)
 ·have hj:j < c.length:=by omega
  exact key (.add (gt c j)) (by unfold stepsAt addS; simp [hj]) (by simp)
theorem rb_le{b}{z:Zd}(k:kn e c i j)(hz:z∈endsAt e c p i j)(ho:okz b (i,j) z=true):rb e c p b i j≤z.2.2+rb e c p b z.2.1.1 z.2.1.2:=by
 rw [rb_eq k]
 exact least_le (List.mem_map_of_mem (f:=fun (z:Zd)=>z.2.2+rb e c p b z.2.1.1 z.2.1.2) (List.mem_filter.mpr ⟨hz,ho⟩))
theorem rb_some{b}(k:kn e c i j)(h:¬ (i=e.length∧j=c.length)):∃ z∈endsAt e c p i j,okz b (i,j) z=true∧rb e c p b i j=z.2.2+rb e c p b z.2.1.1 z.2.1.2:=by
 have:=least_mem (l:=((endsAt e c p i j).filter (okz b (i,j))).map fun z=>z.2.2+rb e c p b z.2.1.1 z.2.1.2) (by simpa using ends_nk (p:=p) (b:=b) k h)
 obtain ⟨z,hz,h2⟩:=List.mem_map.mp this
 obtain ⟨h3,h4⟩:=List.mem_filter.mp hz
 exact ⟨z,h3,h4,by rw [rb_eq k]; exact h2.symm⟩
theorem last_eq{b:Option Kn}:rb e c p b e.length c.length=0:=by
 rw [rb_eq ⟨by omega,by omega,by omega,by omega⟩,ends_last]; rfl
theorem rest_rb{b}:∀ i j,kn e c i j→rest e c p i j≤rb e c p b i j:=kn_ind p fun i j k ih=>by
 by_cases hl:i=e.length∧j=c.length
 ·rw [hl.1,hl.2,last_eq,rest_last]; omega
 ·obtain ⟨z,h1,h2,h3⟩:=rb_some (p:=p) (b:=b) k hl
  have:=ih z h1
  have:=rest_le k h1
  omega
theorem sum_nn{l:List Int}(h:∀ x∈l,0≤x):0≤l.sum:=by
 induction l with
 | nil=>simp
 | cons x l ih =>
  rw [List.sum_cons]
  have:=h x (by simp)
  have:=ih fun y hy=>h y (by simp [hy])
  omega
theorem sum_mem{l:List Int}(h:∀ x∈l,0≤x){x:Int}(hx:x∈l):x≤l.sum:=by
 induction l with
 | nil=>cases hx
 | cons y l ih =>
  rw [List.sum_cons]
  have h1:=h y (by simp)
  have h2:=sum_nn fun z hz=>h z (List.mem_cons_of_mem _ hz)
  rcases List.mem_cons.mp hx with e | hx
  ·omega
  ·have:=ih (fun z hz=>h z (by simp [hz])) hx; omega
theorem sum_pos{l:List Int}(h:0 < l.sum):∃ x∈l,0 < x:=by
 induction l with
 | nil=>simp at h
 | cons y l ih =>
  rw [List.sum_cons] at h
  by_cases hy:0 < y
  ·exact ⟨y,by simp,hy⟩
  ·obtain ⟨x,h1,h2⟩:=ih (by omega)
   exact ⟨x,by simp [h1],h2⟩
theorem av_nn{b}:∀ i j,kn e c i j→0≤av e c p b i j:=kn_ind p fun i j k ih=>by
 rw [av_eq k]
 split
 ·omega
 ·refine sum_nn fun x hx=>?_
  obtain ⟨z,hz,rfl⟩:=List.mem_map.mp hx
  exact ih z (mem_goods (List.mem_filter.mp hz).1)
theorem av_rb{b}:∀ i j,kn e c i j→(0 < av e c p b i j ↔ rb e c p b i j=rest e c p i j):=kn_ind p fun i j k ih=>by
 by_cases hl:i=e.length∧j=c.length
 ·rw [av_eq k,if_pos hl]
  rw [hl.1,hl.2,last_eq,rest_last]; simp
 ·rw [av_eq k,if_neg hl]
  have nn:∀ x∈(((goods e c p i j).filter (okz b (i,j))).map fun z=>av e c p b z.2.1.1 z.2.1.2),0≤x:=fun x hx=>by
   obtain ⟨z,hz,rfl⟩:=List.mem_map.mp hx
   exact av_nn _ _ (ends_onw k (mem_goods (List.mem_filter.mp hz).1)).k
  constructor
  ·intro h
   obtain ⟨x,hx,h0⟩:=sum_pos h
   obtain ⟨z,hz,rfl⟩:=List.mem_map.mp hx
   obtain ⟨h1,h2⟩:=List.mem_filter.mp hz
   have h3:=(ih z (mem_goods h1)).mp h0
   have h4:z.2.2+rest e c p z.2.1.1 z.2.1.2=rest e c p i j:=of_decide_eq_true (List.mem_filter.mp h1).2
   have:=rb_le (b:=b) k (mem_goods h1) h2
   have:=rest_rb (p:=p) (b:=b) i j k
   omega
  ·intro h
   obtain ⟨z,h1,h2,h3⟩:=rb_some (p:=p) (b:=b) k hl
   have h4:=rest_rb (p:=p) (b:=b) _ _ (ends_onw k h1).k
   have h5:=rest_le k h1
   have h6:=(ih z h1).mpr (by omega)
   have h7:z∈(goods e c p i j).filter (okz b (i,j)):=List.mem_filter.mpr ⟨List.mem_filter.mpr ⟨h1,decide_eq_true (by omega)⟩,h2⟩
   have:=sum_mem nn (List.mem_map_of_mem (f:=fun (z:Zd)=>av e c p b z.2.1.1 z.2.1.2) h7)
   omega
theorem many_pos:∀ i j,kn e c i j→0 < many e c p i j:=kn_ind p fun i j k ih=>by
 rw [many_eq k]
 by_cases hl:i=e.length∧j=c.length
 ·rw [if_pos hl]; omega
 ·rw [if_neg hl]
  have hne:=goods_ne (p:=p) k hl
  obtain ⟨z,hz⟩:=List.exists_mem_of_ne_nil _ hne
  have:=sum_mem (l:=(goods e c p i j).map fun z=>many e c p z.2.1.1 z.2.1.2) (fun x hx=>by
   obtain ⟨y,hy,rfl⟩:=List.mem_map.mp hx
   have:=ih y (mem_goods hy); omega) (List.mem_map_of_mem (f:=fun (z:Zd)=>many e c p z.2.1.1 z.2.1.2) hz)
  have:=ih z (mem_goods hz)
  omega
def Har(e c:Row)(p:P7)(h:Int→Int→Int)(y:Kn):Prop:=h y.1 y.2=((goods e c p y.1 y.2).map fun z=>h z.2.1.1 z.2.1.2).sum
theorem goods_last:goods e c p e.length c.length=[]:=by unfold goods; rw [ends_last]; rfl
theorem sum_sub{α:Type}(f g:α→Int)(l:List α):(l.map fun x=>f x - g x).sum=(l.map f).sum - (l.map g).sum:=by
 induction l with
 | nil=>simp
 | cons x l ih=>simp only [List.map_cons,List.sum_cons,ih]; omega
def hx(e c:Row)(p:P7)(x:Kn)(i j:Int):Int:=many e c p i j - av e c p (some x) i j
theorem hx_har{x y:Kn}(k:kn e c y.1 y.2)(h:y ≠ x):Har e c p (hx e c p x) y:=by
 unfold Har hx
 rw [many_eq k,av_eq k,filter_all fun z _=>okz_ne z h]
 by_cases hl:y.1=e.length∧y.2=c.length
 ·rw [if_pos hl,if_pos hl,hl.1,hl.2,goods_last]; rfl
 ·rw [if_neg hl,if_neg hl,sum_sub]
theorem lex_tr{a b d:Kn}(h:lexlt a b)(g:lexlt b d):lexlt a d:=by unfold lexlt at *; omega
theorem lex_ne{a b:Kn}(h:lexlt a b):b ≠ a:=fun e=>by rw [e] at h; unfold lexlt at h; omega
theorem hx_zero{x:Kn}:∀ i j,kn e c i j→lexlt x (i,j)→hx e c p x i j=0:=kn_ind p fun i j k ih hl=>by
 have:=hx_har (p:=p) (y:=(i,j)) k (lex_ne hl)
 unfold Har at this
 rw [this]
 have:((goods e c p i j).map fun z=>hx e c p x z.2.1.1 z.2.1.2)=(goods e c p i j).map fun _=>0:=List.map_congr_left fun z hz=>ih z (mem_goods hz) (lex_tr hl (ends_later (k:=(i,j)) k (mem_goods hz)))
 rw [this]
 generalize goods e c p i j=l
 induction l with
 | nil=>rfl
 | cons z l ih=>rw [List.map_cons,List.sum_cons,ih]; rfl
theorem sum_split{α:Type}(q:α→Bool)(f:α→Int)(l:List α):(l.map f).sum=((l.filter q).map f).sum+((l.filter fun x=>!q x).map f).sum:=by
 induction l with
 | nil=>simp
 | cons x l ih =>
  cases h:q x with
  | true=>rw [List.filter_cons_of_pos h,List.filter_cons_of_neg (by simp [h])]; simp only [List.map_cons,List.sum_cons,ih]; omega
  | false=>rw [List.filter_cons_of_neg (by simp [h]),List.filter_cons_of_pos (by simp [h])]; simp only [List.map_cons,List.sum_cons,ih]; omega
theorem steps_keep{x:Kn}(h1:x.1 < e.length)(h2:x.2 < c.length)(h:gt e x.1=gt c x.2):(stepsAt e c x.1 x.2).filter (fun s=>decide (s = .keep))=[.keep]:=by
 unfold stepsAt
 have e1:headS e c x.1 x.2=[.keep]:=by unfold headS; rw [if_pos ⟨h1,h2⟩,if_pos h]
 rw [e1]
 simp only [List.filter_append]
 have n1:(loseS e x.1).filter (fun s=>decide (s = .keep))=[]:=by unfold loseS; split <;> simp
 have n2:(addS c x.2).filter (fun s=>decide (s = .keep))=[]:=by unfold addS; split <;> simp
 have n3:(twiceS c x.2).filter (fun s=>decide (s = .keep))=[]:=by unfold twiceS; split <;> simp
 have n4:(swapS e c x.1 x.2).filter (fun s=>decide (s = .keep))=[]:=by unfold swapS; split <;> simp
 have n5:(skipS e x.1).filter (fun s=>decide (s = .keep))=[]:=by
  refine List.filter_eq_nil_iff.mpr fun s hs=>?_
  obtain ⟨k,rfl,_⟩:=mem_skipS hs
  simp
 rw [n1,n2,n3,n4,n5]; rfl
def tk(e c:Row)(p:P7)(x:Kn):Prop:=rest e c p (x.1+1) (x.2+1)=rest e c p x.1 x.2
instance (e c p x):Decidable (tk e c p x):=by unfold tk; infer_instance
theorem goods_keep{x:Kn}(h1:x.1 < e.length)(h2:x.2 < c.length)(h:gt e x.1=gt c x.2):(goods e c p x.1 x.2).filter (fun z=>decide (z.1 = .keep))=if tk e c p x then [(.keep,(x.1+1,x.2+1),0)] else []:=by
 unfold goods endsAt
 rw [List.filter_filter,show (fun (z:Zd)=>decide (z.1 = .keep) && tight e c p x.1 x.2 z)=fun z=>tight e c p x.1 x.2 z && decide (z.1 = .keep) from funext fun z=>Bool.and_comm _ _,← List.filter_filter,List.filter_map]
 have:((fun (z:Zd)=>decide (z.1 = .keep)) ∘ fun s=>(s,endS x.1 x.2 s,costS e p x.1 s))=fun s=>decide (s = .keep):=rfl
 rw [this,steps_keep h1 h2 h]
 by_cases ht:tk e c p x
 ·have:tight e c p x.1 x.2 (Stp.keep,endS x.1 x.2 .keep,costS e p x.1 .keep)=true:=decide_eq_true (by unfold tk at ht; show (0:Int)+rest e c p (x.1+1) (x.2+1)=_; omega)
  rw [if_pos ht,List.map_singleton,List.filter_cons_of_pos this]; rfl
 ·have:¬ tight e c p x.1 x.2 (Stp.keep,endS x.1 x.2 .keep,costS e p x.1 .keep)=true:=fun q=>ht (by
   have:(0:Int)+rest e c p (x.1+1) (x.2+1)=rest e c p x.1 x.2:=of_decide_eq_true q
   unfold tk; omega)
  rw [if_neg ht,List.map_singleton,List.filter_cons_of_neg this]; rfl
theorem hx_at{x:Kn}(k:kn e c x.1 x.2)(h1:x.1 < e.length)(h2:x.2 < c.length)(h:gt e x.1=gt c x.2):hx e c p x x.1 x.2=if tk e c p x then many e c p (x.1+1) (x.2+1) else 0:=by
 unfold hx
 have hl:¬ (x.1=e.length∧x.2=c.length):=fun q=>by omega
 rw [many_eq k,av_eq k,if_neg hl,if_neg hl,sum_split (fun (z:Zd)=>decide (z.1 = .keep)),goods_keep h1 h2 h]
 have e1:(goods e c p x.1 x.2).filter (okz (some x) (x.1,x.2))=(goods e c p x.1 x.2).filter (fun z=>!decide (z.1 = .keep)):=by
  congr 1; funext z; exact okz_at z
 rw [e1]
 have e2:(((goods e c p x.1 x.2).filter fun z=>!decide (z.1 = .keep)).map fun z=>many e c p z.2.1.1 z.2.1.2)=((goods e c p x.1 x.2).filter fun z=>!decide (z.1 = .keep)).map fun z=>av e c p (some x) z.2.1.1 z.2.1.2:=List.map_congr_left fun z hz=>by
  have hg:=(List.mem_filter.mp hz).1
  have:=hx_zero (p:=p) (x:=x) _ _ (ends_onw k (mem_goods hg)).k (ends_later (k:=x) k (mem_goods hg))
  unfold hx at this; omega
 rw [e2]
 split
 ·simp only [List.map_cons,List.map_nil,List.sum_cons,List.sum_nil]; omega
 ·simp only [List.map_nil,List.sum_nil]; omega
theorem wto_har{x y:Kn}(k:kn e c y.1 y.2)(h:y ≠ x):Har e c p (wto e c p x) y:=by
 unfold Har
 rw [wto_eq k,if_neg h]
theorem wto_at{x:Kn}(k:kn e c x.1 x.2):wto e c p x x.1 x.2=1:=by rw [wto_eq k,if_pos rfl]
theorem sum_zero{α:Type}{f:α→Int}{l:List α}(h:∀ x∈l,f x=0):(l.map f).sum=0:=by
 induction l with
 | nil=>rfl
 | cons x l ih=>rw [List.map_cons,List.sum_cons,ih fun y hy=>h y (by simp [hy]),h x (by simp)]; rfl
theorem wto_zero{x:Kn}:∀ i j,kn e c i j→lexlt x (i,j)→wto e c p x i j=0:=kn_ind p fun i j k ih hl=>by
 rw [wto_eq k,if_neg (lex_ne hl)]
 exact sum_zero fun z hz=>ih z (mem_goods hz) (lex_tr hl (ends_later (k:=(i,j)) k (mem_goods hz)))
theorem sum_bd{l:List Int}{B:Int}{n:Nat}(h:∀ x∈l,0≤x∧x≤B)(hl:l.length≤n)(hB:0≤B):l.sum≤n * B:=by
 induction l generalizing n with
 | nil=>simp; exact Int.mul_nonneg (by omega) hB
 | cons x l ih =>
  cases n with
  | zero=>simp at hl
  | succ n =>
   rw [List.sum_cons]
   have:=ih (n:=n) (fun y hy=>h y (by simp [hy])) (by simp at hl; omega)
   have:=(h x (by simp)).2
   rw [show ((n+1:Nat):Int) * B=n * B+B by rw [Int.natCast_add,Int.add_mul]; simp]
   omega
theorem cnt_bd{f:Int→Int→Int}(hf:∀ i j,kn e c i j→f i j=0 ∨ f i j=1 ∨ f i j=((goods e c p i j).map fun z=>f z.2.1.1 z.2.1.2).sum):∀ (n:Nat) i j,kn e c i j→remK e c i j≤n→0≤f i j∧f i j≤((e.length+5) ^ n:Nat):=by
 intro n
 induction n with
 | zero =>
  intro i j k h
  have:=k.i1; have:=k.j1
  unfold remK at h
  have hi:i=e.length:=by omega
  have hj:j=c.length:=by omega
  subst hi; subst hj
  rcases hf _ _ k with h | h | h
  ·rw [h]; simp
  ·rw [h]; simp
  ·rw [h,goods_last]; simp
 | succ n ih =>
  intro i j k h
  have hp:0 < (e.length+5) ^ (n+1):=Nat.pow_pos (by omega)
  rcases hf _ _ k with h | h | q
  ·rw [h]; omega
  ·rw [h]; omega
  ·have hb:∀ x∈(goods e c p i j).map fun z=>f z.2.1.1 z.2.1.2,0≤x∧x≤((e.length+5) ^ n:Nat):=fun x hx=>by
    obtain ⟨z,hz,rfl⟩:=List.mem_map.mp hx
    have o:=ends_onw k (mem_goods hz)
    have:=o.n
    exact ih _ _ o.k (by unfold remK at *; omega)
   have hl:((goods e c p i j).map fun z=>f z.2.1.1 z.2.1.2).length≤e.length+5:=by
    rw [List.length_map]; unfold goods
    refine Nat.le_trans (List.length_filter_le _ _) ?_
    unfold endsAt; rw [List.length_map]; exact stepsAt_le e c i j k.i0
   rw [q]
   refine ⟨sum_nn fun x hx=>(hb x hx).1,?_⟩
   have:=sum_bd hb hl (by omega)
   rw [Nat.pow_succ,Nat.mul_comm,Int.natCast_mul]
   exact this
end
end Vm
end
section
set_option linter.all false
set_option maxHeartbeats 1000000
set_option maxRecDepth 10000
namespace Vm
instance (a b:Kn):Decidable (lexlt a b):=by unfold lexlt; infer_instance
def vO(o:Option Int):Int:=o.getD 0
abbrev Tf:=Int→Int→Option Int
section
variable {e c:Row} {p:P7}
theorem sum_at{w w':Kn→Int}{x:Kn}:∀ {L:List Kn},L.Pairwise lexlt→x∈L→(∀ y∈L,y ≠ x→w' y=w y)→(L.map w').sum=(L.map w).sum+(w' x - w x)
 | [],_,h,_=>by cases h
 | y :: L,hp,hx,h=>by
  obtain ⟨h1,h2⟩:=List.pairwise_cons.mp hp
  simp only [List.map_cons,List.sum_cons]
  by_cases hy:y=x
  ·subst hy
   have:L.map w'=L.map w:=List.map_congr_left fun z hz=>h z (by simp [hz]) (lex_ne (h1 z hz))
   rw [this]; omega
  ·have hx':x∈L:=(List.mem_cons.mp hx).resolve_left fun q=>hy q.symm
   rw [sum_at h2 hx' fun z hz hzx=>h z (by simp [hz]) hzx,h y (by simp) hy]; omega
def Wt(e c:Row)(f:Tf)(h:Int→Int→Int)(pos:Kn):Int:=((knL e c).map fun y=>if lexlt y pos then 0 else vO (f y.1 y.2) * h y.1 y.2).sum
structure Fl (e c:Row) (p:P7) (f:Tf) (pos:Kn):Prop where
 a:∀ h:Int→Int→Int,(∀ y∈knL e c,lexlt y pos→Har e c p h y)→h 0 0=Wt e c f h pos
 b:∀ x∈knL e c,lexlt x pos→∀ h:Int→Int→Int,(∀ y∈knL e c,lexlt y x→Har e c p h y)→(∀ y∈knL e c,lexlt x y→h y.1 y.2=0)→h 0 0=vO (f x.1 x.2) * h x.1 x.2
theorem lex_tri{a b:Kn}:a=b ∨ lexlt a b ∨ lexlt b a:=by
 by_cases h:a=b
 ·exact .inl h
 ·have:¬ (a.1=b.1∧a.2=b.2):=fun q=>h (Prod.ext q.1 q.2)
  unfold lexlt; omega
theorem Fl.move{f:Tf}{pos pos':Kn}(h:Fl e c p f pos)(m:∀ y∈knL e c,lexlt y pos' ↔ lexlt y pos):Fl e c p f pos':=by
 refine ⟨fun g hg=>?_,fun x hx hl=>h.b x hx ((m x hx).mp hl)⟩
 rw [h.a g fun y hy hl=>hg y hy ((m y hy).mpr hl)]
 unfold Wt
 congr 1
 refine List.map_congr_left fun y hy=>?_
 by_cases q:lexlt y pos
 ·rw [if_pos q,if_pos ((m y hy).mpr q)]
 ·rw [if_neg q,if_neg fun r=>q ((m y hy).mp r)]
structure Sgo (e c:Row) (f g:Tf) (x:Kn) (zs:List Zd):Prop where
 s:∀ y,¬ lexlt x y→g y.1 y.2=f y.1 y.2
 w:∀ h,Wt e c g h x=Wt e c f h x+vO (f x.1 x.2) * (zs.map fun z=>h z.2.1.1 z.2.1.2).sum
theorem Fl.step{f g:Tf}{x pos':Kn}(hx:x∈knL e c)(h:Fl e c p f x)(hs:Sgo e c f g x (goods e c p x.1 x.2))(m:∀ y∈knL e c,lexlt y pos' ↔ lexlt y x ∨ y=x):Fl e c p g pos':=by
 have hgx:=hs.s x fun q=>by unfold lexlt at q; omega
 refine ⟨fun u hu=>?_,fun x0 hx0 hl u hu hz=>?_⟩
 ·have h1:=h.a u fun y hy hl=>hu y hy ((m y hy).mpr (.inl hl))
  have h2:Har e c p u x:=hu x hx ((m x hx).mpr (.inr rfl))
  have h3:=hs.w u
  unfold Har at h2
  rw [← h2] at h3
  have h4:Wt e c g u pos'=Wt e c g u x+(0 - vO (g x.1 x.2) * u x.1 x.2):=by
   unfold Wt
   rw [sum_at (w:=fun y=>if lexlt y x then 0 else vO (g y.1 y.2) * u y.1 y.2) (knL_lex e c) hx fun y hy hne=>?_]
   ·rw [if_pos ((m x hx).mpr (.inr rfl)),if_neg fun q=>by unfold lexlt at q; omega]
   ·by_cases q:lexlt y x
    ·rw [if_pos q,if_pos ((m y hy).mpr (.inl q))]
    ·rw [if_neg q,if_neg fun r=>((m y hy).mp r).elim q hne]
  rw [h4,h3,hgx]; omega
 ·rcases (m x0 hx0).mp hl with hl | rfl
  ·rw [hs.s x0 fun q=>lex_ne (lex_tr hl q) rfl]
   exact h.b x0 hx0 hl u hu hz
  ·rw [hgx,h.a u hu]
   unfold Wt
   rw [sum_at (w:=fun _=>0) (knL_lex e c) hx0 fun y hy hne=>?_,if_neg fun q=>by unfold lexlt at q; omega]
   ·rw [sum_zero (f:=fun _=>0) fun _ _=>rfl]; omega
   ·rcases lex_tri (a:=y) (b:=x0) with q | q | q
    ·exact absurd q hne
    ·rw [if_pos q]
    ·rw [hz y hy q]; simp
theorem Sgo.refl(f:Tf)(x:Kn):Sgo e c f f x []:=⟨fun _ _=>rfl,fun h=>by simp⟩
theorem Sgo.none{f:Tf}{x:Kn}(zs)(h:f x.1 x.2=none):Sgo e c f f x zs:=⟨fun _ _=>rfl,fun u=>by rw [h]; show _=_+0 * _; omega⟩
theorem Sgo.arm{f g:Tf}{x:Kn}{zs:List Zd}{z:Zd}(h:Sgo e c f g x zs)(k:kn e c z.2.1.1 z.2.1.2)(hl:lexlt x z.2.1):Sgo e c f (upd g z.2.1.1 z.2.1.2 (some (vO (g z.2.1.1 z.2.1.2)+vO (f x.1 x.2)))) x (zs++[z]):=by
 refine ⟨fun y hy=>?_,fun u=>?_⟩
 ·rw [upd_ne _ fun q=>hy (by rw [show y=z.2.1 from Prod.ext q.1 q.2]; exact hl)]
  exact h.s y hy
 ·have h2:=h.w u
  have nl:¬ lexlt z.2.1 x:=fun q=>lex_ne (lex_tr hl q) rfl
  unfold Wt at *
  rw [sum_at (w:=fun y=>if lexlt y x then 0 else vO (g y.1 y.2) * u y.1 y.2) (x:=z.2.1) (knL_lex e c) (mem_knL.mpr k) fun y hy hne=>by
   rw [upd_ne _ fun q=>hne (Prod.ext q.1 q.2)],h2,if_neg nl,if_neg nl,upd_at,List.map_append,List.sum_append]
  simp only [List.map_cons,List.map_nil,List.sum_cons,List.sum_nil]
  show _+_+((vO (g z.2.1.1 z.2.1.2)+vO (f x.1 x.2)) * _ - _)=_
  rw [Int.add_mul,Int.mul_add,Int.add_zero]; omega
def f0:Tf:=upd (fun _ _=>none) 0 0 (some 1)
theorem Fl.start:Fl e c p f0 (0,0):=by
 have h0:((0:Int),(0:Int))∈knL e c:=mem_knL.mpr ⟨by simp,by simp,by simp,by simp⟩
 have no:∀ y∈knL e c,¬ lexlt y (0,0):=fun y hy q=>by
  have k:=mem_knL.mp hy
  have:=k.i0; have:=k.j0
  unfold lexlt at q; simp only at q; omega
 refine ⟨fun u _=>?_,fun x hx hl=>absurd hl (no x hx)⟩
 unfold Wt
 rw [sum_at (w:=fun _=>0) (x:=((0:Int),(0:Int))) (knL_lex e c) h0 fun y hy hne=>?_,if_neg (no _ h0),sum_zero (f:=fun _=>0) fun _ _=>rfl]
 ·show u 0 0=0+(vO (upd _ 0 0 _ 0 0) * u 0 0 - 0)
  rw [upd_at]; show u 0 0=0+(1 * u 0 0 - 0); omega
 ·rw [if_neg (no y hy)]
  unfold f0
  rw [upd_ne _ fun q=>hne (Prod.ext q.1 q.2)]
  show (0:Int) * _=0; simp
def Told(e c:Row)(p:P7)(f:Tf):Prop:=∀ x∈knL e c,∀ h:Int→Int→Int,(∀ y∈knL e c,lexlt y x→Har e c p h y)→(∀ y∈knL e c,lexlt x y→h y.1 y.2=0)→h 0 0=vO (f x.1 x.2) * h x.1 x.2
theorem to_ok(he:okR e)(hc:okR c):Rk (f_many_to e c (l7 p) (restT e c p)) fun t=>∃ f,t=tab (e.length+1) (c.length+1) f∧Told e c p f:=by
 have hel:=he.l
 have hcl:=hc.l
 unfold f_many_to
 rw [empty_ok he hc]
 simp only [bind_ok]
 rw [empty_none]
 generalize hN:e.length+1=N
 generalize hM:c.length+1=M
 rw [show ((e.length:Int)+1)=(N:Int) by omega,show ((c.length:Int)+1)=(M:Int) by omega]
 rw [tab_set (some 1) (by decide) (by omega) (by decide) (by omega),bind_ok,rngR_nat (by omega),bind_ok]
 refine Rk.bind (P:=fun t=>∃ f,t=tab N M f∧Told e c p f) (Rk.for (fun k t=>∃ f,t=tab N M f∧Fl e c p f ((k:Int),0)) ⟨f0,rfl,Fl.start⟩ (fun k i t hx hi=>?_) fun t h=>?_) fun t ht=>Rk.ok ht
 ·obtain ⟨rfl,hk⟩:=rngN_get hx
  obtain ⟨f,rfl,hf⟩:=hi
  rw [rngR_nat (by omega),bind_ok]
  refine Rk.bind (P:=fun t=>∃ f,t=tab N M f∧Fl e c p f (((k+1:Nat):Int),0)) (Rk.for (fun k' t=>∃ f,t=tab N M f∧Fl e c p f ((k:Int),(k':Int))) ⟨f,rfl,hf⟩ (fun k' j t hy hj=>?_) fun t h=>?_) fun t ht=>Rk.ok ht
  ·obtain ⟨rfl,hk'⟩:=rngN_get hy
   obtain ⟨f,rfl,hf⟩:=hj
   have kk:kn e c (k:Int) (k':Int):=⟨by omega,by omega,by omega,by omega⟩
   have km:((k:Int),(k':Int))∈knL e c:=mem_knL.mpr kk
   have mv:∀ y∈knL e c,lexlt y ((k:Int),((k' + 1:Nat):Int)) ↔ lexlt y ((k:Int),(k':Int)) ∨ y=((k:Int),(k':Int)):=fun y _=>by
    constructor
    ·intro q
     by_cases r:y=((k:Int),(k':Int))
     ·exact .inr r
     ·have:¬ (y.1=(k:Int)∧y.2=(k':Int)):=fun q=>r (Prod.ext q.1 q.2)
      have:y.1 < (k:Int) ∨ (y.1=(k:Int)∧y.2 < ((k' + 1:Nat):Int)):=q
      refine .inl ?_
      show y.1 < (k:Int) ∨ (y.1=(k:Int)∧y.2 < (k':Int))
      omega
    ·rintro (q | q)
     ·have:y.1 < (k:Int) ∨ (y.1=(k:Int)∧y.2 < (k':Int)):=q
      show y.1 < (k:Int) ∨ (y.1=(k:Int)∧y.2 < ((k' + 1:Nat):Int))
      omega
     ·rw [q]
      show (k:Int) < (k:Int) ∨ ((k:Int)=(k:Int)∧(k':Int) < ((k' + 1:Nat):Int))
      omega
   rw [tab_ix (by omega) (by omega),bind_ok,row_ix (by omega) (by omega),bind_ok,bind_ok]
   refine Rk.itb (fun hs=>?_) fun hs=>Rk.ok ⟨f,rfl,Fl.step km hf (Sgo.none _ (by simpa using hs)) mv⟩
   obtain ⟨v,hv⟩:=Option.isSome_iff_exists.mp hs
   rw [cheap_ok he hc kk,bind_ok]
   refine Rk.bind (P:=fun t=>∃ g,t=tab N M g∧Sgo e c f g ((k:Int),(k':Int)) (goods e c p k k')) (Rk.for (fun q t=>∃ g,t=tab N M g∧Sgo e c f g ((k:Int),(k':Int)) ((goods e c p k k').take q)) ⟨f,rfl,Sgo.refl _ _⟩ (fun q y t hy hq=>?_) fun t h=>?_) fun t ht=>?_
   ·obtain ⟨g,rfl,hg⟩:=hq
    unfold cheap at hy
    rw [List.getElem?_map] at hy
    obtain ⟨z,hz,rfl⟩:=Option.map_eq_some_iff.mp hy
    have hzm:=mem_goods (List.mem_of_getElem? hz)
    have o:=(ends_onw kk hzm).k
    have hl:=ends_later (k:=((k:Int),(k':Int))) kk hzm
    have h1:=o.i0
    have h2:=o.i1
    have h3:=o.j0
    have h4:=o.j1
    have hgx:g k k'=f k k':=hg.s ((k:Int),(k':Int)) fun q=>by unfold lexlt at q; omega
    rw [tab_ix h1 (by omega),bind_ok,row_ix h3 (by omega),bind_ok]
    have hw:∀ o:Option Int,(if decide (o.getD 0=0)=true then Res.ok (0:Int) else Res.ok (o.getD 0))=Res.ok (vO o):=fun o=>by
     by_cases q:o.getD 0=0
     ·rw [if_pos (decide_eq_true q)]; unfold vO; rw [q]
     ·rw [if_neg (by simpa using q)]; rfl
    rw [hw,bind_ok,tab_ix (i:=(k:Int)) (by omega) (by omega),bind_ok,row_ix (j:=(k':Int)) (by omega) (by omega),bind_ok,hgx,hv,getO_s,bind_ok,bind_ok,bind_ok,tab_set _ h1 (by omega) h3 (by omega),bind_ok]
    refine Rk.ok ⟨_,rfl,?_⟩
    rw [List.take_add_one,hz]
    have:=hg.arm (z:=z) o hl
    rw [show vO (f ((k:Int),(k':Int)).1 ((k:Int),(k':Int)).2)=v by show vO (f k k')=v; rw [hv]; rfl] at this
    exact this
   ·obtain ⟨g,rfl,hg⟩:=h
    refine ⟨g,rfl,?_⟩
    rw [show (cheap e c p (k:Int) (k':Int)).length=(goods e c p k k').length by unfold cheap; rw [List.length_map],List.take_length] at hg
    exact hg
   ·obtain ⟨g,rfl,hg⟩:=ht
    exact Rk.ok ⟨g,rfl,Fl.step km hf hg mv⟩
  ·obtain ⟨f,rfl,hf⟩:=h
   refine ⟨f,rfl,hf.move fun y hy=>?_⟩
   rw [rngN_length]
   have:=(mem_knL.mp hy).j1
   have:=(mem_knL.mp hy).j0
   unfold lexlt; simp only; omega
 ·obtain ⟨f,rfl,hf⟩:=h
  rw [rngN_length] at hf
  refine ⟨f,rfl,fun x hx=>hf.b x hx ?_⟩
  have:=(mem_knL.mp hx).i1
  unfold lexlt; simp only; omega
theorem told_hx{f:Tf}(h:Told e c p f){x:Kn}(k:kn e c x.1 x.2):hx e c p x 0 0=vO (f x.1 x.2) * hx e c p x x.1 x.2:=h x (mem_knL.mpr k) _ (fun y hy hl=>hx_har (mem_knL.mp hy) fun q=>lex_ne hl q.symm) fun y hy hl=>hx_zero _ _ (mem_knL.mp hy) hl
theorem told_wto{f:Tf}(h:Told e c p f){x:Kn}(k:kn e c x.1 x.2):wto e c p x 0 0=vO (f x.1 x.2):=by
 have:=h x (mem_knL.mpr k) (wto e c p x) (fun y hy hl=>wto_har (mem_knL.mp hy) fun q=>lex_ne hl q.symm) fun y hy hl=>wto_zero _ _ (mem_knL.mp hy) hl
 rw [this,wto_at k]; omega
end
end Vm
end
section
set_option linter.all false
set_option maxHeartbeats 1000000
set_option maxRecDepth 10000
namespace Vm
section
variable {e c:Row} {p:P7}
theorem stpN_keep(s:Stp):stpN s=[107,101,101,112] ↔ s = .keep:=by
 cases s <;> simp [stpN]
def sureB(e c:Row)(p:P7)(x:Kn):Bool:=decide (gt e x.1=gt c x.2) && decide (rest e c p 0 0 < rb e c p (some x) 0 0)
def sures(e c:Row)(p:P7):List Kn:=((rngN e.length).map fun i=>((rngN c.length).map fun j=>((i,j):Kn)).filter (sureB e c p)).flatten
theorem sure_iff{f:Tf}(hf:Told e c p f){x:Kn}(k0:kn e c 0 0)(k:kn e c x.1 x.2)(h1:x.1 < e.length)(h2:x.2 < c.length)(h:gt e x.1=gt c x.2):rest e c p 0 0 < rb e c p (some x) 0 0 ↔ tk e c p x∧vO (f x.1 x.2) * many e c p (x.1+1) (x.2+1)=many e c p 0 0:=by
 have a1:=rest_rb (p:=p) (b:=some x) 0 0 k0
 have a2:=av_rb (p:=p) (b:=some x) 0 0 k0
 have a3:=av_nn (p:=p) (b:=some x) 0 0 k0
 have a4:=told_hx hf k
 have a5:=many_pos (p:=p) 0 0 k0
 rw [hx_at k h1 h2 h] at a4
 unfold hx at a4
 by_cases t:tk e c p x
 ·rw [if_pos t] at a4
  constructor
  ·intro q
   refine ⟨t,?_⟩
   have:¬ 0 < av e c p (some x) 0 0:=fun r=>by have:=a2.mp r; omega
   omega
  ·rintro ⟨_,q⟩
   have:¬ 0 < av e c p (some x) 0 0:=by omega
   have:rb e c p (some x) 0 0 ≠ rest e c p 0 0:=fun r=>this (a2.mpr r)
   omega
 ·rw [if_neg t] at a4
  simp only [Int.mul_zero] at a4
  constructor
  ·intro q
   have:=a2.mp (by omega)
   omega
  ·rintro ⟨q,_⟩; exact absurd q t
end
end Vm
end
section
set_option linter.all false
set_option maxHeartbeats 1000000
set_option maxRecDepth 10000
namespace Vm
def gd:Nat→PV→Prop
 | 0,_=>False
 | n+1,.tup l=>l.length≤100000∧∀ p∈l,gd n p
 | n+1,.int _=>True
 | n+1,.str _=>True
 | n+1,.non=>True
 | n+1,_=>False
theorem same_refl:∀ (n:Nat) (p:PV),gd n p→d_law_same n [p,p] = .ok (.fz,.bl true)
 | 0,p,h=>h.elim
 | n+1,.int i,_=>by simp [d_law_same,runFn,kindIs]
 | n+1,.str w,_=>by simp [d_law_same,runFn,kindIs]
 | n+1,.non,_=>by simp [d_law_same,runFn,kindIs]
 | n+1,.bl _,h=>h.elim
 | n+1,.lst _,h=>h.elim
 | n+1,.dic _ _,h=>h.elim
 | n+1,.tup l,⟨h0,h⟩=>by
  have key:forL (Pat.v 2) [2]
    (dIf (xNot (xVal (eCall (d_law_same n) (eCons (eIdx (eVar 0) (eVar 2)) (eCons (eIdx (eVar 1) (eVar 2)) eNil))))) (dRet (eC (PV.bl false))) dNil)
    ((rngL 0 (l.length:Int)).map fun p=>(Tg.fz,p)) [some (Tg.fz,PV.tup l),some (Tg.fz,PV.tup l),none] = .nx [some (Tg.fz,PV.tup l),some (Tg.fz,PV.tup l),none]:=by
   rw [rng0_eq']
   exact forL_same _ _ (fun k hk=>by
    have hk:k < l.length:=by simpa using hk
    have hv:=vAt_int (xs:=l) (i:=(k:Int)) (by omega) (by omega)
    simp only [Int.toNat_natCast] at hv
    have ih:=same_refl n l[k] (h _ (List.getElem_mem _))
    simp [hv,ih])
  have hr:rngOk (l.length:Int)=true:=rngOk_of (by omega) (by omega)
  simp [d_law_same,runFn,kindIs,hr,-List.map_map]
  rw [key]
theorem same_ok{p:PV}(h:gd 8 p):f_law_same 8 p p = .ok true:=by
 unfold f_law_same
 simp only [kV]
 rw [same_refl 8 p h]; rfl
end Vm
end
section
set_option linter.all false
set_option maxHeartbeats 1000000
set_option maxRecDepth 10000
namespace Vm
section
variable {e c:Row} {p:P7}
theorem pick_ok{n m:Nat}(hn:n≤1000)(hm:m≤1000)(q:Kn→Bool){G:List Kn→Int→Int→Res (List Kn)}(hG:∀ (s:List Kn) (i j:Int),0≤i→i < n→0≤j→j < m→s.length≤2000000→G s i j = .ok (if q (i,j) then s++[(i,j)] else s)):Rk (forS (fun (s:List Kn) (i:Int)=>((rngR (m:Int)).bind fun x=>forS (fun (s:List Kn) (j:Int)=>G s i j) x s).bind fun (s:List Kn)=>Res.ok s) (rngN n) []) fun r=>r=((rngN n).map fun i=>((rngN m).map fun j=>((i,j):Kn)).filter q).flatten:=by
 refine Rk.mono (Rk.for (fun k s=>s=(((rngN n).take k).map fun i=>((rngN m).map fun j=>((i,j):Kn)).filter q).flatten∧s.length≤m * k) ⟨rfl,by simp⟩ (fun k i s hx hs=>?_) fun s hs=>hs) fun s hs=>by rw [hs.1,List.take_length]
 obtain ⟨s1,s2⟩:=hs
 have hxx:=hx
 obtain ⟨rfl,hk⟩:=rngN_get hx
 have hmk:m * k≤1000 * 1000:=Nat.mul_le_mul hm (by omega)
 rw [rngR_nat (by omega),bind_ok]
 refine Rk.bind (P:=fun t=>t=s++((rngN m).map fun j=>(((k:Int),j):Kn)).filter q∧t.length≤s.length+m) (Rk.for (fun k' t=>t=s++(((rngN m).take k').map fun j=>(((k:Int),j):Kn)).filter q∧t.length≤s.length+k') ⟨by simp,by omega⟩ (fun k' j t hy ht=>?_) fun t ht=>⟨by rw [ht.1,List.take_length],by have:=ht.2; rw [rngN_length] at this; exact this⟩) fun t ht=>Rk.ok ⟨?_,?_⟩
 ·have hyy:=hy
  obtain ⟨rfl,hk'⟩:=rngN_get hy
  obtain ⟨t1,t2⟩:=ht
  rw [hG t k k' (by omega) (by omega) (by omega) (by omega) (by omega)]
  have htk:(((rngN m).take (k' + 1)).map fun j=>(((k:Int),j):Kn)).filter q=(((rngN m).take k').map fun j=>(((k:Int),j):Kn)).filter q++if q ((k:Int),(k':Int)) then [((k:Int),(k':Int))] else []:=by
   rw [List.take_add_one,hyy]
   simp only [Option.toList_some,List.map_append,List.map_cons,List.map_nil,List.filter_append]
   congr 1
   by_cases h:q ((k:Int),(k':Int))=true
   ·rw [if_pos h,List.filter_cons_of_pos h]; rfl
   ·rw [if_neg h,List.filter_cons_of_neg h]; rfl
  refine Rk.ok ⟨?_,?_⟩
  ·rw [htk,← List.append_assoc,← t1]
   split <;> simp
  ·split
   ·rw [List.length_append,List.length_singleton]; omega
   ·omega
 ·rw [ht.1,s1,List.take_add_one,hxx]
  simp
 ·have:=ht.2
  rw [Nat.mul_add]; omega
theorem sure_len:(sures e c p).length≤e.length * c.length:=by
 unfold sures
 have:∀ l:List Int,((l.map fun i=>((rngN c.length).map fun j=>((i,j):Kn)).filter (sureB e c p)).flatten).length≤l.length * c.length:=fun l=>by
  induction l with
  | nil=>simp
  | cons x l ih =>
   rw [List.map_cons,List.flatten_cons,List.length_append,List.length_cons,Nat.add_mul]
   have:(((rngN c.length).map fun j=>((x,j):Kn)).filter (sureB e c p)).length≤c.length:=Nat.le_trans (List.length_filter_le _ _) (by simp)
   omega
 have:=this (rngN e.length)
 rw [rngN_length] at this
 exact this
theorem many_bd{i j:Int}(k:kn e c i j)(he:e.length≤5)(hc:c.length≤5):0≤many e c p i j∧many e c p i j≤10000000000:=by
 have h:=cnt_bd (p:=p) (f:=many e c p) (fun i j k=>by
  rw [many_eq k]
  split
  ·exact .inr (.inl rfl)
  ·exact .inr (.inr rfl)) 10 i j k (by have:=k.i0; have:=k.j0; unfold remK; omega)
 have:(e.length+5) ^ 10≤10 ^ 10:=Nat.pow_le_pow_left (by omega) _
 refine ⟨h.1,Int.le_trans h.2 ?_⟩
 exact Int.le_trans (Int.ofNat_le.mpr this) (by decide)
theorem wto_bd{x:Kn}{i j:Int}(k:kn e c i j)(he:e.length≤5)(hc:c.length≤5):0≤wto e c p x i j∧wto e c p x i j≤10000000000:=by
 have h:=cnt_bd (p:=p) (f:=wto e c p x) (fun i j k=>by
  rw [wto_eq k]
  split
  ·exact .inr (.inl rfl)
  ·exact .inr (.inr rfl)) 10 i j k (by have:=k.i0; have:=k.j0; unfold remK; omega)
 have:(e.length+5) ^ 10≤10 ^ 10:=Nat.pow_le_pow_left (by omega) _
 refine ⟨h.1,Int.le_trans h.2 ?_⟩
 exact Int.le_trans (Int.ofNat_le.mpr this) (by decide)
theorem surepairs_ok(he:okR e)(hc:okR c)(h5:e.length≤5)(c5:c.length≤5):Rk (f_sure_pairs e c (l7 p)) (· = sures e c p):=by
 have k0:kn e c 0 0:=⟨by omega,by omega,by omega,by omega⟩
 unfold f_sure_pairs
 rw [rest_ok he hc,bind_ok]
 refine Rk.bind (to_ok he hc) fun t ht=>?_
 obtain ⟨f,rfl,hf⟩:=ht
 rw [manyfrom_ok he hc,bind_ok,rngR_nat (by omega)]
 simp only [bind_ok]
 refine Rk.bind (pick_ok (by omega) (by omega) (sureB e c p) fun s i j i0 i1 j0 j1 hs=>?_) fun r hr=>Rk.ok hr
 have kk:kn e c i j:=⟨i0,by omega,j0,by omega⟩
 have kk1:kn e c (i+1) (j+1):=⟨by omega,by omega,by omega,by omega⟩
 have hw:=told_wto hf (x:=(i,j)) kk
 have hsure:=sure_iff (p:=p) hf (x:=(i,j)) k0 kk i1 j1
 rw [ixR_gt i0 i1,bind_ok,ixR_gt j0 j1,bind_ok,bind_ok]
 have tw:∀ g:Int→Int→Option Int,(∀ {a b:Int},kn e c a b→((ixR (tab (e.length+1) (c.length+1) g) a).bind fun x=>ixR x b) = .ok (g a b)):=fun g a b k=>by
  obtain ⟨a0,a1,a2,a3⟩:=k
  rw [tab_ix a0 (by omega),bind_ok,row_ix a2 (by omega)]
 refine Rk.eq ?_
 by_cases h:gt e i=gt c j
 ·rw [if_pos (decide_eq_true h)]
  have hT:∀ {a b:Int},kn e c a b→((ixR (restT e c p) a).bind fun x=>ixR x b) = .ok (some (rest e c p a b)):=tw _
  have hMt:∀ {a b:Int},kn e c a b→((ixR (manyT e c p) a).bind fun x=>ixR x b) = .ok (some (many e c p a b)):=tw _
  rw [hT kk1,bind_ok,hT kk,bind_ok,bind_ok]
  by_cases t:tk e c p (i,j)
  ·have t':(some (rest e c p (i+1) (j+1)):Option Int)=some (rest e c p i j):=congrArg some t
   rw [if_pos (decide_eq_true t'),tw f kk,bind_ok]
   rw [bind_ok]
   cases hfv:f i j with
   | none =>
    rw [if_neg (by simp),bind_ok,if_neg (by decide)]
    have hv:vO (f i j)=0:=by rw [hfv]; rfl
    have hn:=(hsure h).mp
    rw [hv] at hn
    have:=many_pos (p:=p) 0 0 k0
    have:¬ sureB e c p (i,j)=true:=fun q=>by
     unfold sureB at q
     rw [Bool.and_eq_true,decide_eq_true_eq,decide_eq_true_eq] at q
     have:=(hn q.2).2
     omega
    rw [if_neg this]
    exact Rk.ok rfl
   | some v =>
    have hv:vO (f i j)=v:=by rw [hfv]; rfl
    have hb1:=wto_bd (p:=p) (x:=(i,j)) k0 h5 c5
    have hb2:=many_bd (p:=p) kk1 h5 c5
    rw [hw,hv] at hb1
    rw [hv] at hsure
    have hmul:mulR v (many e c p (i+1) (j+1)) = .ok (v * many e c p (i+1) (j+1)):=mulR_ok (m:=40) (n:=40) (by omega) (by omega) (by decide)
    rw [if_pos (show (some v).isSome=true from rfl),bind_ok,getO_s,bind_ok,hMt kk1,bind_ok,getO_s,bind_ok,hmul,bind_ok,bind_ok,hMt k0,bind_ok,bind_ok]
    by_cases q:v * many e c p (i+1) (j+1)=many e c p 0 0
    ·rw [if_pos (decide_eq_true (congrArg some q)),appR_ok (by omega),bind_ok]
     have:sureB e c p (i,j)=true:=by
      unfold sureB
      rw [Bool.and_eq_true,decide_eq_true_eq,decide_eq_true_eq]
      exact ⟨h,(hsure h).mpr ⟨t,q⟩⟩
     rw [if_pos this]
     exact Rk.ok rfl
    ·rw [if_neg (by simp [q])]
     have:¬ sureB e c p (i,j)=true:=fun q'=>by
      unfold sureB at q'
      rw [Bool.and_eq_true,decide_eq_true_eq,decide_eq_true_eq] at q'
      exact q ((hsure h).mp q'.2).2
     rw [if_neg this]
     exact Rk.ok rfl
  ·have t':¬ (some (rest e c p (i+1) (j+1)):Option Int)=some (rest e c p i j):=fun q=>t (Option.some.inj q)
   rw [if_neg (by simpa using t'),bind_ok,if_neg (by decide)]
   have:¬ sureB e c p (i,j)=true:=fun q'=>by
    unfold sureB at q'
    rw [Bool.and_eq_true,decide_eq_true_eq,decide_eq_true_eq] at q'
    exact t ((hsure h).mp q'.2).1
   rw [if_neg this]
   exact Rk.ok rfl
 ·rw [if_neg (by simpa using h),bind_ok,if_neg (by decide),bind_ok,if_neg (by decide)]
  have:¬ sureB e c p (i,j)=true:=fun q'=>by
   unfold sureB at q'
   rw [Bool.and_eq_true,decide_eq_true_eq] at q'
   exact h q'.1
  rw [if_neg this]
  exact Rk.ok rfl
end
theorem cmany_ok{e c:Row}{p:P7}(he:okR e)(hc:okR c):f_cheapest_many e c (l7 p) = .ok (some (many e c p 0 0)):=by
 unfold f_cheapest_many
 rw [rest_ok he hc,bind_ok,manyfrom_ok he hc,bind_ok]
 unfold manyT
 rw [tab_ix (by decide) (by omega),bind_ok,row_ix (by decide) (by omega),bind_ok]
end Vm
end
section
set_option linter.all false
set_option maxHeartbeats 1000000
set_option maxRecDepth 10000
namespace Vm.Td
theorem Rk.wh{σ ρ:Type}{t:σ→Res Bool}{F:σ→Res (Ctl σ ρ)}(I:σ→Prop)(μ:σ→Nat)(h:∀ s,I s→∃ b,t s = .ok b∧(b=true→Rk (F s) fun c=>∃ s',c = .nx s'∧I s'∧μ s' < μ s)){s:σ}(h0:I s):Rk (whR t F s) fun c=>∃ s',c = .nx s'∧I s'∧t s' = .ok false:=by
 have go:∀ (n:Nat) (s:σ),I s→μ s < n→∃ s',whT t F (n+1) s=some (.ok (.nx s'))∧I s'∧t s' = .ok false:=by
  intro n
  induction n with
  | zero=>intro s _ hm; omega
  | succ n ih =>
   intro s hs hm
   obtain ⟨b,h1,h2⟩:=h s hs
   cases b with
   | false=>exact ⟨s,by rw [whT,h1],hs,h1⟩
   | true =>
    obtain ⟨c,h3,s',rfl,h4,h5⟩:=h2 rfl
    obtain ⟨s2,h6,h7,h8⟩:=ih s' h4 (by omega)
    exact ⟨s2,by rw [whT,h1]; simp only; rw [h3]; exact h6,h7,h8⟩
 obtain ⟨s',h1,h2,h3⟩:=go (μ s+1) s h0 (by omega)
 exact ⟨_,whR_eq h1,s',rfl,h2,h3⟩
abbrev Ch:=Stp×Int×Int
def cheap(e c:Row)(p:P7)(i j:Int):List Ch:=((endsAt e c p i j).filter fun z=>decide (z.2.2+rest e c p z.2.1.1 z.2.1.2=rest e c p i j)).map fun z=>(z.1,z.2.1)
theorem mem_cheap{e c:Row}{p:P7}{i j:Int}{z:Ch}(h:z∈cheap e c p i j):(z.1,z.2,costS e p i z.1)∈endsAt e c p i j∧costS e p i z.1+rest e c p z.2.1 z.2.2=rest e c p i j∧z.1∈stepsAt e c i j∧z.2=endS i j z.1:=by
 obtain ⟨y,hy,rfl⟩:=List.mem_map.mp h
 obtain ⟨h1,h2⟩:=List.mem_filter.mp hy
 obtain ⟨h3,h4,h5⟩:=mem_ends h1
 have h2:=of_decide_eq_true h2
 refine ⟨?_,by rw [← h5]; exact h2,h3,h4⟩
 rw [← h5]; exact h1
theorem cheap_ne{e c:Row}{p:P7}{i j:Int}(k:kn e c i j)(h:¬ (i=e.length∧j=c.length)):cheap e c p i j ≠ []:=by
 obtain ⟨z,h1,h2⟩:=rest_some (p:=p) k h
 intro h0
 have:(z.1,z.2.1)∈cheap e c p i j:=List.mem_map.mpr ⟨z,List.mem_filter.mpr ⟨h1,decide_eq_true h2.symm⟩,rfl⟩
 rw [h0] at this; simp at this
theorem restT_ix{e c:Row}{p:P7}{i j:Int}(k:kn e c i j):ixR (restT e c p) i = .ok ((rngN (c.length+1)).map fun j=>some (rest e c p i j))∧ixR ((rngN (c.length+1)).map fun j=>some (rest e c p i j)) j = .ok (some (rest e c p i j)):=by
 obtain ⟨k0,k1,k2,k3⟩:=k
 exact ⟨tab_ix k0 (by omega),row_ix k2 (by omega)⟩
theorem cheap_ok{e c:Row}{p:P7}{i j:Int}(he:okR e)(hc:okR c)(k:kn e c i j):f_cheapest_ends e c i j (l7 p) (restT e c p) = .ok (cheap e c p i j):=by
 have hel:=he.l
 have hel2:(endsAt e c p i j).length≤e.length+5:=by unfold endsAt; rw [List.length_map]; exact stepsAt_le e c i j k.i0
 refine Rk.eq ?_
 unfold f_cheapest_ends
 rw [priced_ok he hc k]
 simp only [bind_assoc,bind_ok]
 refine Rk.lcb (fun z=>decide (z.2.2+rest e c p z.2.1.1 z.2.1.2=rest e c p i j)) (fun z=>(z.1,z.2.1)) (fun z hz=>⟨?_,fun _=>rfl⟩) (by omega) (Rk.ok rfl)
 have o:=(ends_onw k hz).k
 simp only [(restT_ix o).1,(restT_ix o).2,(restT_ix k).1,(restT_ix k).2,getO_s,bind_ok]
 simp
inductive Told (e c:Row) (p:P7):Int→Int→List Stp→Prop
 | nil:Told e c p e.length c.length []
 | cons {i j:Int} {z:Ch} {l:List Stp} (k:kn e c i j) (n:¬ (i=e.length∧j=c.length)) (h:(cheap e c p i j).head? = some z) (t:Told e c p z.2.1 z.2.2 l):Told e c p i j (z.1 :: l)
theorem head_ix{α:Type}{l:List α}{x:α}(h:l.head? = some x):ixR l 0 = .ok x:=by
 cases l with
 | nil=>cases h
 | cons y l =>
  cases h
  haveI:Inhabited α:=⟨x⟩
  exact ixR_gt (l:=x :: l) (by decide) (by simp)
theorem least_ok{e c:Row}{p:P7}(he:okR e)(hc:okR c):Rk (f_least_slips e c (l7 p)) fun r=>r.1=some (rest e c p 0 0)∧Told e c p 0 0 r.2.1∧r.2.1.length≤e.length+c.length∧∃ t,r.2.2=tab (e.length+1) (c.length+1) (fun a b=>some (t a b))∧Fwd e c p t:=by
 have hel:=he.l
 have hcl:=hc.l
 have k0:kn e c 0 0:=⟨by omega,by omega,by omega,by omega⟩
 unfold f_least_slips
 rw [rest_ok he hc]
 simp only [bind_ok]
 refine Rk.bind (Rk.wh (I:=fun (s:List Stp×Int×Int)=>kn e c s.2.1 s.2.2∧(s.1.length:Int)≤s.2.1+s.2.2∧∀ l,Told e c p s.2.1 s.2.2 l→Told e c p 0 0 (s.1++l)) (fun s=>((e.length:Int)+c.length - (s.2.1+s.2.2)).toNat) (fun s hs=>⟨_,rfl,fun hb=>?_⟩) ⟨k0,by simp,fun l h=>h⟩) fun r hr=>?_
 ·obtain ⟨kk,h1,h2⟩:=hs
  have hn:¬ (s.2.1=e.length∧s.2.2=c.length):=fun h=>by
   have:s.2=((e.length:Int),(c.length:Int)):=Prod.ext h.1 h.2
   rw [this] at hb; simp at hb
  rw [cheap_ok he hc kk,bind_ok]
  have hne:=cheap_ne (p:=p) kk hn
  cases hq:cheap e c p s.2.1 s.2.2 with
  | nil=>exact absurd hq hne
  | cons z zs =>
   have hz:=mem_cheap (z:=z) (by rw [hq]; simp)
   have o:=ends_onw kk hz.1
   have o1:=o.n
   have o2:=kk.i1
   have o3:=kk.j1
   have o4:=o.k.i1
   have o5:=o.k.j1
   simp only at o1 o4 o5
   refine Rk.bok (head_ix (l:=z :: zs) rfl) (Rk.bok (appR_ok (by omega)) (Rk.ok ⟨_,rfl,⟨o.k,?_,fun l hl=>?_⟩,?_⟩))
   ·simp only [List.length_append,List.length_cons,List.length_nil]; omega
   ·rw [List.append_assoc]
    exact h2 _ (.cons kk hn (by rw [hq]; rfl) hl)
   ·simp only; omega
 ·obtain ⟨s,rfl,⟨kk,h1,h2⟩,h3⟩:=hr
  rw [then_nx',(restT_ix k0).1,bind_ok,(restT_ix k0).2,bind_ok]
  have hs:s.2=((e.length:Int),(c.length:Int)):=by simpa using h3
  refine Rk.bind (Rk.bind (price_ok he hc) fun T hT=>Rk.ok (P:=fun (r:Option Int×List Stp×List (List (Option Int)))=>r.1=some (rest e c p 0 0)∧Told e c p 0 0 r.2.1∧r.2.1.length≤e.length+c.length∧∃ t,r.2.2=tab (e.length+1) (c.length+1) (fun a b=>some (t a b))∧Fwd e c p t) ⟨rfl,?_,?_,hT⟩) fun r hr=>Rk.ok hr
  ·have:=h2 [] (by rw [hs]; exact .nil)
   simpa using this
  ·rw [hs] at h1
   simp only at h1 ⊢
   omega
end Vm.Td
end
section
set_option linter.all false
set_option maxHeartbeats 1000000
set_option maxRecDepth 10000
namespace Vm
structure Lin {α:Type} (lt:α→α→Bool):Prop where
 irr:∀ a,lt a a=false
 tr:∀ a b c,lt a b=true→lt b c=true→lt a c=true
 tri:∀ a b,a=b ∨ lt a b=true ∨ lt b a=true
theorem nodup_perm{α:Type}{l m:List α}(h1:l.Nodup)(h2:m.Nodup)(h:∀ a,a∈l ↔ a∈m):l.Perm m:=(List.perm_ext_iff_of_nodup h1 h2).mpr h
end Vm
end
section
set_option linter.all false
set_option maxHeartbeats 1000000
set_option maxRecDepth 10000
namespace Vm
abbrev Rw1:=Int×List Stp×List Kn
def kp(k:Kn)(z:Zd):List Kn:=if z.1 = .keep then [k] else []
def extR(k:Kn)(z:Zd)(r:Rw1):Rw1:=(z.2.2+r.1,[z.1]++r.2.1,kp k z++r.2.2)
section
variable {e c:Row} {p:P7}
def rwN(e c:Row)(p:P7):Nat→Int→Int→List Rw1
 | 0,_,_=>[]
 | n+1,i,j=>if i=e.length∧j=c.length then [(0,[],[])] else ((endsAt e c p i j).map fun z=>(rwN e c p n z.2.1.1 z.2.1.2).map (extR (i,j) z)).flatten
def rwF(e c:Row)(p:P7)(i j:Int):List Rw1:=rwN e c p (remK e c i j+1).toNat i j
theorem rwN_same:∀ (n m:Nat) {i j:Int},kn e c i j→remK e c i j < n→remK e c i j < m→rwN e c p n i j=rwN e c p m i j:=by
 intro n
 induction n with
 | zero=>intro m i j k h; have:=k.i1; have:=k.j1; unfold remK at h; omega
 | succ n ih =>
  intro m i j k h h'
  cases m with
  | zero=>have:=k.i1; have:=k.j1; unfold remK at h'; omega
  | succ m =>
   unfold rwN
   by_cases hl:i=e.length∧j=c.length
   ·rw [if_pos hl,if_pos hl]
   ·rw [if_neg hl,if_neg hl]
    congr 1
    refine List.map_congr_left fun z hz=>?_
    have o:=ends_onw k hz
    have:=o.n
    rw [ih m o.k (by unfold remK at *; omega) (by unfold remK at *; omega)]
theorem rwF_eq{i j:Int}(k:kn e c i j):rwF e c p i j=if i=e.length∧j=c.length then [(0,[],[])] else ((endsAt e c p i j).map fun z=>(rwF e c p z.2.1.1 z.2.1.2).map (extR (i,j) z)).flatten:=by
 have:=k.i1; have:=k.j1
 have h0:rwF e c p i j=rwN e c p ((remK e c i j).toNat+1) i j:=rwN_same _ _ k (by unfold remK; omega) (by unfold remK; omega)
 rw [h0,rwN]
 by_cases hl:i=e.length∧j=c.length
 ·rw [if_pos hl,if_pos hl]
 ·rw [if_neg hl,if_neg hl]
  congr 1
  refine List.map_congr_left fun z hz=>?_
  have o:=ends_onw k hz
  have:=o.n
  rw [show rwF e c p z.2.1.1 z.2.1.2=rwN e c p (remK e c i j).toNat z.2.1.1 z.2.1.2 from rwN_same _ _ o.k (by have:=o.k.i1; have:=o.k.j1; unfold remK; omega) (by unfold remK; omega)]
theorem rwF_last:rwF e c p e.length c.length=[(0,[],[])]:=by
 rw [rwF_eq ⟨by omega,by omega,by omega,by omega⟩,if_pos ⟨rfl,rfl⟩]
theorem flat_len{α β:Type}(f:α→List β)(B:Nat):∀ l:List α,(∀ x∈l,(f x).length≤B)→(l.map f).flatten.length≤l.length * B
 | [],_=>by simp
 | x :: l,h=>by
  rw [List.map_cons,List.flatten_cons,List.length_append,List.length_cons,Nat.add_mul]
  have:=flat_len f B l fun y hy=>h y (by simp [hy])
  have:=h x (by simp)
  omega
theorem rw_len:∀ (n:Nat) i j,kn e c i j→remK e c i j≤n→(rwF e c p i j).length≤(e.length+5) ^ n:=by
 intro n
 induction n with
 | zero =>
  intro i j k h
  have:=k.i1; have:=k.j1
  unfold remK at h
  rw [rwF_eq k,if_pos ⟨by omega,by omega⟩]; simp
 | succ n ih =>
  intro i j k h
  rw [rwF_eq k]
  split
  ·exact Nat.pow_pos (by omega)
  ·refine Nat.le_trans (flat_len _ ((e.length+5) ^ n) _ fun z hz=>?_) ?_
   ·rw [List.length_map]
    have o:=ends_onw k hz
    have:=o.n
    exact ih _ _ o.k (by unfold remK at *; omega)
   ·rw [Nat.pow_succ,Nat.mul_comm]
    refine Nat.mul_le_mul_left _ ?_
    unfold endsAt; rw [List.length_map]; exact stepsAt_le e c i j k.i0
theorem mem_rw{i j:Int}(k:kn e c i j)(hl:¬ (i=e.length∧j=c.length)){r:Rw1}:r∈rwF e c p i j ↔ ∃ z∈endsAt e c p i j,∃ r'∈rwF e c p z.2.1.1 z.2.1.2,extR (i,j) z r'=r:=by
 rw [rwF_eq k,if_neg hl]
 simp only [List.mem_flatten,List.mem_map]
 constructor
 ·rintro ⟨l,⟨z,hz,rfl⟩,h⟩
  obtain ⟨r',h1,h2⟩:=List.mem_map.mp h
  exact ⟨z,hz,r',h1,h2⟩
 ·rintro ⟨z,hz,r',h1,h2⟩
  exact ⟨_,⟨z,hz,rfl⟩,List.mem_map.mpr ⟨r',h1,h2⟩⟩
theorem rw_steps:∀ i j,kn e c i j→∀ r∈rwF e c p i j,(r.2.1.length:Int)≤remK e c i j∧(r.2.2.length:Int)≤remK e c i j:=kn_ind p fun i j k ih r hr=>by
 by_cases hl:i=e.length∧j=c.length
 ·rw [rwF_eq k,if_pos hl,List.mem_singleton] at hr
  subst hr
  have:=k.i1; have:=k.j1
  unfold remK; simp; omega
 ·obtain ⟨z,hz,r',h1,rfl⟩:=(mem_rw k hl).mp hr
  obtain ⟨h2,h3⟩:=ih z hz r' h1
  have o:=ends_onw k hz
  have:=o.n
  have hk:(kp (i,j) z).length≤1:=by unfold kp; split <;> simp
  unfold remK at *
  constructor
  ·show (([z.1]++r'.2.1).length:Int)≤_
   rw [List.length_append,List.length_singleton]; omega
  ·show ((kp (i,j) z++r'.2.2).length:Int)≤_
   rw [List.length_append]; omega
theorem rw_rest:∀ i j,kn e c i j→∀ r∈rwF e c p i j,rest e c p i j≤r.1:=kn_ind p fun i j k ih r hr=>by
 by_cases hl:i=e.length∧j=c.length
 ·rw [rwF_eq k,if_pos hl,List.mem_singleton] at hr
  subst hr
  rw [hl.1,hl.2,rest_last]; exact Int.le_refl _
 ·obtain ⟨z,hz,r',h1,rfl⟩:=(mem_rw k hl).mp hr
  have:=ih z hz r' h1
  have:=rest_le k hz
  show _≤z.2.2+r'.1
  omega
def gd1(e c:Row)(p:P7)(i j:Int):List Rw1:=(rwF e c p i j).filter fun r=>decide (r.1=rest e c p i j)
theorem gd1_eq{i j:Int}(k:kn e c i j):gd1 e c p i j=if i=e.length∧j=c.length then [(0,[],[])] else ((goods e c p i j).map fun z=>(gd1 e c p z.2.1.1 z.2.1.2).map (extR (i,j) z)).flatten:=by
 unfold gd1
 rw [rwF_eq k]
 by_cases hl:i=e.length∧j=c.length
 ·rw [if_pos hl,if_pos hl,hl.1,hl.2,rest_last]; rfl
 ·rw [if_neg hl,if_neg hl]
  unfold goods
  have key:∀ l:List Zd,(∀ z∈l,z∈endsAt e c p i j)→((l.map fun z=>(rwF e c p z.2.1.1 z.2.1.2).map (extR (i,j) z)).flatten).filter (fun r=>decide (r.1=rest e c p i j))=((l.filter (tight e c p i j)).map fun z=>((rwF e c p z.2.1.1 z.2.1.2).filter fun r=>decide (r.1=rest e c p z.2.1.1 z.2.1.2)).map (extR (i,j) z)).flatten:=by
   intro l
   induction l with
   | nil=>intro _; rfl
   | cons z l ih =>
    intro h
    have hz:=h z (by simp)
    have o:=ends_onw k hz
    rw [List.map_cons,List.flatten_cons,List.filter_append,ih fun y hy=>h y (by simp [hy])]
    have hr:=rest_le k hz
    by_cases t:tight e c p i j z=true
    ·rw [List.filter_cons_of_pos t,List.map_cons,List.flatten_cons]
     congr 1
     rw [List.filter_map]
     congr 1
     refine List.filter_congr fun r hr'=>?_
     have ht:z.2.2+rest e c p z.2.1.1 z.2.1.2=rest e c p i j:=of_decide_eq_true t
     show decide (z.2.2+r.1=rest e c p i j)=_
     exact decide_eq_decide.mpr ⟨fun q=>by omega,fun q=>by omega⟩
    ·rw [List.filter_cons_of_neg t]
     have:((rwF e c p z.2.1.1 z.2.1.2).map (extR (i,j) z)).filter (fun r=>decide (r.1=rest e c p i j))=[]:=by
      rw [List.filter_eq_nil_iff]
      intro r hr'
      obtain ⟨r',h1,rfl⟩:=List.mem_map.mp hr'
      have h2:=rw_rest _ _ o.k r' h1
      have ht:¬ z.2.2+rest e c p z.2.1.1 z.2.1.2=rest e c p i j:=fun q=>t (decide_eq_true q)
      show ¬ decide (z.2.2+r'.1=rest e c p i j)=true
      rw [decide_eq_true_eq]; omega
     rw [this,List.nil_append]
  exact key _ fun z hz=>hz
theorem flat_sum{α β:Type}(f:α→List β):∀ l:List α,((l.map f).flatten.length:Int)=(l.map fun x=>((f x).length:Int)).sum
 | []=>rfl
 | x :: l=>by rw [List.map_cons,List.flatten_cons,List.length_append,List.map_cons,List.sum_cons,← flat_sum f l]; omega
theorem gd1_many:∀ i j,kn e c i j→((gd1 e c p i j).length:Int)=many e c p i j:=kn_ind p fun i j k ih=>by
 rw [gd1_eq k,many_eq k]
 split
 ·rfl
 ·rw [flat_sum]
  congr 1
  exact List.map_congr_left fun z hz=>by rw [List.length_map,ih z (mem_goods hz)]
theorem gd1_av(x:Kn):∀ i j,kn e c i j→(((gd1 e c p i j).filter fun r=>!memB x r.2.2).length:Int)=av e c p (some x) i j:=kn_ind p fun i j k ih=>by
 rw [gd1_eq k,av_eq k]
 split
 ·rfl
 ·have key:∀ l:List Zd,(∀ z∈l,z∈goods e c p i j)→((((l.map fun z=>(gd1 e c p z.2.1.1 z.2.1.2).map (extR (i,j) z)).flatten).filter fun r=>!memB x r.2.2).length:Int)=((l.filter (okz (some x) (i,j))).map fun z=>av e c p (some x) z.2.1.1 z.2.1.2).sum:=by
   intro l
   induction l with
   | nil=>intro _; rfl
   | cons z l ihl =>
    intro h
    have hz:=h z (by simp)
    have h1:=ihl fun y hy=>h y (by simp [hy])
    have h2:=ih z (mem_goods hz)
    rw [List.map_cons,List.flatten_cons,List.filter_append,List.length_append,Int.natCast_add,h1,List.filter_map,List.length_map]
    by_cases ho:okz (some x) (i,j) z=true
    ·rw [List.filter_cons_of_pos ho,List.map_cons,List.sum_cons,← h2]
     congr 3
     refine List.filter_congr fun r hr=>?_
     show (!memB x (kp (i,j) z++r.2.2))=_
     have:memB x (kp (i,j) z++r.2.2)=memB x r.2.2:=by
      unfold kp
      split
      ·rename_i hk
       unfold okz at ho
       simp only [hk,decide_true,Bool.not_true,Bool.false_or,Bool.not_eq_true',decide_eq_false_iff_not] at ho
       unfold memB
       simp only [List.cons_append,List.nil_append,List.mem_cons,decide_eq_decide]
       exact ⟨fun q=>q.elim (fun q=>absurd (congrArg some q.symm) ho) id,.inr⟩
      ·rfl
     rw [this]
    ·rw [List.filter_cons_of_neg ho]
     have:(gd1 e c p z.2.1.1 z.2.1.2).filter ((fun r:Rw1=>!memB x r.2.2) ∘ extR (i,j) z)=[]:=by
      rw [List.filter_eq_nil_iff]
      intro r hr
      show ¬ (!memB x (kp (i,j) z++r.2.2))=true
      unfold okz at ho
      simp only [Bool.or_eq_true,Bool.not_eq_true',decide_eq_false_iff_not,not_or,Classical.not_not] at ho
      obtain ⟨o1,o2⟩:=ho
      have o2:(i,j)=x:=Option.some.inj o2
      unfold kp memB
      rw [if_pos o1,o2]
      simp
     rw [this]; simp
  exact key _ fun z hz=>hz
theorem gd1_head:∀ i j,kn e c i j→∃ r l,gd1 e c p i j=r :: l∧Td.Told e c p i j r.2.1:=kn_ind p fun i j k ih=>by
 by_cases hl:i=e.length∧j=c.length
 ·refine ⟨(0,[],[]),[],by rw [gd1_eq k,if_pos hl],?_⟩
  rw [hl.1,hl.2]; exact .nil
 ·have hne:=goods_ne (p:=p) k hl
  cases hg:goods e c p i j with
  | nil=>exact absurd hg hne
  | cons z zs =>
   obtain ⟨r,l,h1,h2⟩:=ih z (mem_goods (by rw [hg]; simp))
   refine ⟨extR (i,j) z r,l.map (extR (i,j) z)++((zs.map fun z=>(gd1 e c p z.2.1.1 z.2.1.2).map (extR (i,j) z)).flatten),by rw [gd1_eq k,if_neg hl,hg,List.map_cons,List.flatten_cons,h1]; rfl,?_⟩
   refine Td.Told.cons (z:=(z.1,z.2.1)) k hl ?_ h2
   show ((goods e c p i j).map fun z=>(z.1,z.2.1)).head? = _
   rw [hg]; rfl
theorem rw_kept:∀ i j,kn e c i j→∀ r∈rwF e c p i j,r.2.2.Pairwise lexlt∧∀ x∈r.2.2,(x=(i,j) ∨ lexlt (i,j) x)∧0≤x.1∧x.1 < e.length∧0≤x.2∧x.2 < c.length∧gt e x.1=gt c x.2:=kn_ind p fun i j k ih r hr=>by
 by_cases hl:i=e.length∧j=c.length
 ·rw [rwF_eq k,if_pos hl,List.mem_singleton] at hr
  subst hr
  exact ⟨.nil,fun _ h=>nomatch h⟩
 ·obtain ⟨z,hz,r',h1,rfl⟩:=(mem_rw k hl).mp hr
  obtain ⟨h2,h3⟩:=ih z hz r' h1
  have hlt:lexlt (i,j) z.2.1:=ends_later (k:=(i,j)) k hz
  have low:∀ x∈r'.2.2,lexlt (i,j) x:=fun x hx=>by
   rcases (h3 x hx).1 with q | q
   ·rw [q]; exact hlt
   ·exact lex_tr hlt q
  show (kp (i,j) z++r'.2.2).Pairwise lexlt∧∀ x∈kp (i,j) z++r'.2.2,_
  unfold kp
  split
  ·rename_i hk
   refine ⟨List.pairwise_cons.mpr ⟨low,h2⟩,fun x hx=>?_⟩
   rcases List.mem_cons.mp hx with q | q
   ·subst q
    obtain ⟨hs,he,_⟩:=mem_ends hz
    rw [hk] at hs
    refine ⟨.inl rfl,k.i0,?_⟩
    rcases mem_stepsAt hs with ⟨q,h⟩ | ⟨q,h⟩ | ⟨q,h⟩ | ⟨q,h⟩ | ⟨q,h⟩ | ⟨q,h⟩ | ⟨_,q,h⟩ <;> first | (cases q; done) | skip
    obtain ⟨a,b⟩:=h
    refine ⟨?_,k.j0,?_,?_⟩ <;> simp_all
   ·exact ⟨.inr (low x q),(h3 x q).2⟩
  ·exact ⟨h2,fun x hx=>⟨.inr (low x hx),(h3 x hx).2⟩⟩
end
end Vm
end
section
set_option linter.all false
set_option maxHeartbeats 1000000
set_option maxRecDepth 10000
namespace Vm
section
variable {e c:Row} {p:P7}
abbrev RD:=List (Kn×List Rw1)
theorem lex_irr{a:Kn}:¬ lexlt a a:=fun h=>by unfold lexlt at h; omega
theorem mapR_g{α β:Type}{f:α→Res β}(g:α→β):∀ {l:List α},(∀ x∈l,f x = .ok (g x))→mapR f l = .ok (l.map g)
 | [],_=>rfl
 | x :: l,h=>by
  unfold mapR
  rw [h x (by simp),bind_ok,mapR_g g fun y hy=>h y (by simp [hy])]
  rfl
theorem rw_bd{i j:Int}(k:kn e c i j)(h3:e.length≤3)(c3:c.length≤3):(rwF e c p i j).length≤262144:=by
 have:=k.i0; have:=k.j0
 refine Nat.le_trans (rw_len 6 i j k (by unfold remK; omega)) ?_
 have:(e.length+5) ^ 6≤8 ^ 6:=Nat.pow_le_pow_left (by omega) _
 exact Nat.le_trans this (by decide)
theorem arm_ok{k:Kn}(kk:kn e c k.1 k.2)(h3:e.length≤3)(c3:c.length≤3){z:Zd}(hz:z∈endsAt e c p k.1 k.2){d:RD}{part:List Rw1}(h1:dfind d z.2.1=some (rwF e c p z.2.1.1 z.2.1.2))(h2:dfind d k=some part)(hl:part.length≤2097152) :
  ((if decide (stpN z.1=([107,101,101,112]:List Nat)) then (let s41:List (((Int)×Int)):=([k]:List (((Int)×Int))); Res.ok s41) else (Res.ok ([]:List Kn))).bind fun s37=>(forAppR d z.2.1 k (fun (x42:Rw1)=>(catR (([z.1]:List (Stp))) x42.2.1).bind fun x48=>(catR s37 x42.2.2).bind fun x49=>Res.ok (((z.2.2+x42.1,x48,x49):((Int)×(List (Stp))×List (((Int)×Int))))))).bind fun (s50:RD)=>Res.ok s50) = .ok (dput d k (part++(rwF e c p z.2.1.1 z.2.1.2).map (extR k z))):=by
 have o:=ends_onw kk hz
 have hkp:(if decide (stpN z.1=([107,101,101,112]:List Nat)) then (let s41:List (((Int)×Int)):=([k]:List (((Int)×Int))); Res.ok s41) else (Res.ok ([]:List Kn))) = .ok (kp k z):=by
  unfold kp
  by_cases q:stpN z.1=([107,101,101,112]:List Nat)
  ·rw [if_pos (decide_eq_true q),if_pos ((stpN_keep _).mp q)]
  ·rw [if_neg (by simpa using q),if_neg fun w=>q ((stpN_keep _).mpr w)]
 rw [hkp,bind_ok]
 have hne:¬ z.2.1=k:=fun q=>lex_irr (a:=k) (by have:=ends_later kk hz; rw [q] at this; exact this)
 unfold forAppR
 rw [if_neg hne,dix_of h1,bind_ok,dix_of h2,bind_ok]
 have hm:mapR (fun (x42:Rw1)=>(catR (([z.1]:List (Stp))) x42.2.1).bind fun x48=>(catR (kp k z) x42.2.2).bind fun x49=>Res.ok (((z.2.2+x42.1,x48,x49):((Int)×(List (Stp))×List (((Int)×Int)))))) (rwF e c p z.2.1.1 z.2.1.2) = .ok ((rwF e c p z.2.1.1 z.2.1.2).map (extR k z)):=mapR_g (extR k z) fun r hr=>by
  obtain ⟨a,b⟩:=rw_steps _ _ o.k r hr
  have:=o.k.i0; have:=o.k.j0
  unfold remK at a b
  have hk:(kp k z).length≤1:=by unfold kp; split <;> simp
  rw [catR_ok (by rw [List.length_singleton]; omega),bind_ok,catR_ok (by omega),bind_ok]
  rfl
 have hb:=rw_bd (p:=p) o.k h3 c3
 rw [hm]
 show ((Res.ok ((rwF e c p z.2.1.1 z.2.1.2).map (extR k z))).bind fun ps=>if part.length+ps.length≤16777216 then Res.ok (dput d k (part++ps)) else .bad).bind _=_
 rw [bind_ok,if_pos (by rw [List.length_map]; omega)]
 rfl
theorem knL_at{n:Nat}{k:Kn}(hk:(knL e c).reverse[n]? = some k):kn e c k.1 k.2∧k ∉ (knL e c).reverse.take n:=by
 refine ⟨mem_knL.mp (List.mem_reverse.mp (List.mem_of_getElem? hk)),fun hm=>?_⟩
 have hp:(knL e c).reverse.Pairwise fun a b=>lexlt b a:=List.pairwise_reverse.mpr (knL_lex e c)
 obtain ⟨m,hm'⟩:=List.mem_iff_getElem?.mp hm
 rw [List.getElem?_take] at hm'
 split at hm'
 ·rename_i hlt
  obtain ⟨h1,e1⟩:=List.getElem?_eq_some_iff.mp hk
  obtain ⟨h2,e2⟩:=List.getElem?_eq_some_iff.mp hm'
  have:=List.pairwise_iff_getElem.mp hp m n h2 h1 hlt
  rw [e1,e2] at this
  exact lex_irr this
 ·cases hm'
structure IA (e c:Row) (p:P7) (n:Nat) (s:RD):Prop where
 a:∀ k∈(knL e c).reverse.take n,dfind s k=some (rwF e c p k.1 k.2)
 b:∀ k,k ∉ (knL e c).reverse.take n→dfind s k=if k=((e.length:Int),(c.length:Int)) then some [(0,[],[])] else none
 l:s.length≤1+10 * n
theorem allrows_ok(he:okR e)(hc:okR c)(h3:e.length≤3)(c3:c.length≤3):Rk (f_law_all_rows e c (l7 p)) (· = rwF e c p 0 0):=by
 have k0:kn e c 0 0:=⟨by omega,by omega,by omega,by omega⟩
 have hkl:(knL e c).length≤16:=by
  rw [knL_len]
  exact Nat.le_trans (Nat.mul_le_mul (Nat.add_le_add_right h3 1) (Nat.add_le_add_right c3 1)) (by decide)
 unfold f_law_all_rows
 rw [knots_ok he hc]
 simp only [bind_ok]
 refine Rk.bind (Rk.for (IA e c p) ⟨fun k hk=>by simp at hk,fun k _=>?_,by simp⟩ (fun n k s hk hs=>?_) fun s hs=>hs) fun s hs=>?_
 ·by_cases q:k=((e.length:Int),(c.length:Int))
  ·rw [if_pos q]; unfold dfind; rw [List.find?_cons_of_pos (by simpa using q.symm)]; rfl
  ·rw [if_neg q]; unfold dfind; rw [List.find?_cons_of_neg (by simpa using fun w=>q w.symm)]; rfl
 ·obtain ⟨kk,hout⟩:=knL_at hk
  have hn:n < 16:=by
   have:=(List.getElem?_eq_some_iff.mp hk).1
   rw [List.length_reverse] at this; omega
  have htk:(knL e c).reverse.take (n+1)=(knL e c).reverse.take n++[k]:=by rw [List.take_succ,hk]; rfl
  have hb:=hs.b k hout
  by_cases hlast:k=((e.length:Int),(c.length:Int))
  ·rw [if_pos hlast] at hb
   rw [hb,if_neg (by simp),bind_ok,arms_ok he hc kk,bind_ok]
   have he0:endsAt e c p k.1 k.2=[]:=by rw [hlast]; exact ends_last
   rw [he0]
   refine Rk.ok ⟨fun k' hk'=>?_,fun k' hk'=>?_,by have:=hs.l; omega⟩
   ·rw [htk] at hk'
    rcases List.mem_append.mp hk' with q | q
    ·exact hs.a k' q
    ·rw [List.mem_singleton] at q; rw [q,hb,hlast,rwF_last]
   ·rw [htk] at hk'
    exact hs.b k' fun q=>hk' (List.mem_append_left _ q)
  ·rw [if_neg hlast] at hb
   have hsl:=hs.l
   have hnew:dnewR s k = .ok (dput s k []):=by unfold dnewR; rw [if_pos ⟨by omega,by rw [hb]; rfl⟩]
   rw [hb,if_pos (by rfl),hnew,bind_ok,bind_ok,arms_ok he hc kk,bind_ok]
   have hnl:¬ (k.1=e.length∧k.2=c.length):=fun q=>hlast (Prod.ext q.1 q.2)
   have hel:(endsAt e c p k.1 k.2).length≤8:=by
    unfold endsAt; rw [List.length_map]
    exact Nat.le_trans (stepsAt_le e c k.1 k.2 kk.i0) (by omega)
   refine Rk.bind (P:=fun t=>(∀ k',dfind t k'=if k'=k then some (rwF e c p k.1 k.2) else dfind s k')∧t.length≤1+10 * (n+1)) (Rk.for (fun m t=>(∀ k',dfind t k'=if k'=k then some ((((endsAt e c p k.1 k.2).take m).map fun z=>(rwF e c p z.2.1.1 z.2.1.2).map (extR k z)).flatten) else dfind s k')∧t.length≤2+10 * n+m) ⟨fun k'=>dfind_put k k' [] s,by have:=dput_len (k:=k) (v:=([]:List Rw1)) s; omega⟩ (fun m z t hz ht=>?_) fun t ht=>⟨fun k'=>by rw [ht.1 k',List.take_length,rwF_eq kk,if_neg hnl],by have:=ht.2; omega⟩) fun t ht=>Rk.ok ⟨fun k' hk'=>?_,fun k' hk'=>?_,ht.2⟩
   ·have hze:=List.mem_of_getElem? hz
    obtain ⟨t1,t2⟩:=ht
    have o:=ends_onw kk hze
    have hlt:lexlt k z.2.1:=ends_later kk hze
    have hne:¬ z.2.1=k:=fun q=>lex_irr (a:=k) (by rw [q] at hlt; exact hlt)
    have hd1:dfind t z.2.1=some (rwF e c p z.2.1.1 z.2.1.2):=by
     rw [t1,if_neg hne]
     exact hs.a _ (later hk o.k hlt)
    have hd2:dfind t k=some ((((endsAt e c p k.1 k.2).take m).map fun z=>(rwF e c p z.2.1.1 z.2.1.2).map (extR k z)).flatten):=by rw [t1,if_pos rfl]
    have hpl:((((endsAt e c p k.1 k.2).take m).map fun z=>(rwF e c p z.2.1.1 z.2.1.2).map (extR k z)).flatten).length≤2097152:=by
     refine Nat.le_trans (flat_len _ 262144 _ fun y hy=>?_) ?_
     ·rw [List.length_map]
      exact rw_bd (ends_onw kk (List.mem_of_mem_take hy)).k h3 c3
     ·have:((endsAt e c p k.1 k.2).take m).length≤8:=Nat.le_trans (List.length_take_le' _ _) hel
      omega
    rw [arm_ok kk h3 c3 hze hd1 hd2 hpl]
    refine Rk.ok ⟨fun k'=>?_,?_⟩
    ·rw [dfind_put]
     by_cases q:k'=k
     ·rw [if_pos q,if_pos q,List.take_succ,hz]
      simp
     ·rw [if_neg q,if_neg q,t1,if_neg q]
    ·have:=dput_len (k:=k) (v:=((((endsAt e c p k.1 k.2).take m).map fun z=>(rwF e c p z.2.1.1 z.2.1.2).map (extR k z)).flatten)++(rwF e c p z.2.1.1 z.2.1.2).map (extR k z)) t
     omega
   ·rw [htk] at hk'
    rw [ht.1]
    by_cases q:k'=k
    ·rw [if_pos q,q]
    ·rw [if_neg q]
     rcases List.mem_append.mp hk' with w | w
     ·exact hs.a k' w
     ·rw [List.mem_singleton] at w; exact absurd w q
   ·rw [htk] at hk'
    have q:¬ k'=k:=fun q=>hk' (List.mem_append_right _ (by rw [q]; simp))
    rw [ht.1,if_neg q]
    exact hs.b k' fun w=>hk' (List.mem_append_left _ w)
 ·have h00:((0:Int),(0:Int))∈(knL e c).reverse.take (knL e c).reverse.length:=by
   rw [List.take_length,List.mem_reverse]
   exact mem_knL.mpr k0
  rw [dix_of (hs.a _ h00),bind_ok]
  exact Rk.ok rfl
end
end Vm
end
section
set_option linter.all false
set_option maxHeartbeats 1000000
set_option maxRecDepth 10000
namespace Vm
theorem Td.Told.uniq{e c:Row}{p:P7}{i j:Int}{l m:List Stp}(h:Td.Told e c p i j l):Td.Told e c p i j m→l=m:=by
 intro g
 induction h generalizing m with
 | nil =>
  cases g with
  | nil=>rfl
  | cons k n hz t=>exact absurd ⟨rfl,rfl⟩ n
 | @cons i j z l k n hz t ih =>
  cases g with
  | nil=>exact absurd ⟨rfl,rfl⟩ n
  | @cons _ _ z' l' k' n' hz' t' =>
   rw [hz] at hz'
   cases hz'
   rw [ih t']
section
variable {e c:Row} {p:P7}
def inAll(e c:Row)(p:P7):List Kn:=match gd1 e c p 0 0 with
 | []=>[]
 | r :: _=>r.2.2.filter fun x=>decide (((gd1 e c p 0 0).filter fun y=>memB x y.2.2).length=(gd1 e c p 0 0).length)
theorem gd1_sub{i j:Int}{r:Rw1}(h:r∈gd1 e c p i j):r∈rwF e c p i j:=(List.mem_filter.mp h).1
theorem len_all{α:Type}{q:α→Bool}{l:List α}:(l.filter q).length=l.length ↔ ∀ x∈l,q x=true:=List.length_filter_eq_length_iff
theorem sures_lex:(sures e c p).Pairwise lexlt:=by
 unfold sures
 refine List.pairwise_flatten.mpr ⟨fun l hl=>?_,?_⟩
 ·obtain ⟨i,_,rfl⟩:=List.mem_map.mp hl
  exact (List.pairwise_map.mpr ((rngN_lt _).imp fun h=>.inr ⟨rfl,h⟩)).filter _
 ·refine List.pairwise_map.mpr ((rngN_lt _).imp fun {a b} h x hx y hy=>?_)
  obtain ⟨_,_,rfl⟩:=List.mem_map.mp (List.mem_filter.mp hx).1
  obtain ⟨_,_,rfl⟩:=List.mem_map.mp (List.mem_filter.mp hy).1
  exact .inl h
theorem mem_sures{x:Kn}:x∈sures e c p ↔ (0≤x.1∧x.1 < e.length∧0≤x.2∧x.2 < c.length)∧sureB e c p x=true:=by
 unfold sures
 simp only [List.mem_flatten,List.mem_map]
 constructor
 ·rintro ⟨l,⟨i,hi,rfl⟩,h⟩
  obtain ⟨h1,h2⟩:=List.mem_filter.mp h
  obtain ⟨j,hj,rfl⟩:=List.mem_map.mp h1
  have a:=mem_rngN.mp hi
  have b:=mem_rngN.mp hj
  exact ⟨⟨a.1,a.2,b.1,b.2⟩,h2⟩
 ·rintro ⟨⟨a,b,d,f⟩,h⟩
  exact ⟨_,⟨x.1,mem_rngN.mpr ⟨a,b⟩,rfl⟩,List.mem_filter.mpr ⟨List.mem_map.mpr ⟨x.2,mem_rngN.mpr ⟨d,f⟩,rfl⟩,h⟩⟩
theorem all_sure(k0:kn e c 0 0)(x:Kn):(∀ r∈gd1 e c p 0 0,memB x r.2.2=true) ↔ rest e c p 0 0 < rb e c p (some x) 0 0:=by
 have h1:=gd1_av (p:=p) x 0 0 k0
 have h2:=av_rb (p:=p) (b:=some x) 0 0 k0
 have h3:=av_nn (p:=p) (b:=some x) 0 0 k0
 have h4:=rest_rb (p:=p) (b:=some x) 0 0 k0
 constructor
 ·intro h
  have:(gd1 e c p 0 0).filter (fun r=>!memB x r.2.2)=[]:=by
   rw [List.filter_eq_nil_iff]
   intro r hr
   rw [h r hr]; decide
  rw [this] at h1
  have h1:(0:Int)=_:=h1
  have:¬ rb e c p (some x) 0 0=rest e c p 0 0:=fun q=>by have:=h2.mpr q; omega
  omega
 ·intro h r hr
  have:¬ 0 < av e c p (some x) 0 0:=fun q=>by have:=h2.mp q; omega
  have h5:((gd1 e c p 0 0).filter fun r=>!memB x r.2.2).length=0:=by omega
  rw [List.length_eq_zero_iff,List.filter_eq_nil_iff] at h5
  have:=h5 r hr
  simpa using this
theorem inAll_eq(k0:kn e c 0 0):inAll e c p=sures e c p:=by
 obtain ⟨r,l,h1,_⟩:=gd1_head (p:=p) 0 0 k0
 have hr:r∈gd1 e c p 0 0:=by rw [h1]; simp
 obtain ⟨hp,hm⟩:=rw_kept 0 0 k0 r (gd1_sub hr)
 have hi:inAll e c p=r.2.2.filter fun x=>decide (((gd1 e c p 0 0).filter fun y=>memB x y.2.2).length=(gd1 e c p 0 0).length):=by
  unfold inAll
  rw [h1]
 have hlx:(inAll e c p).Pairwise lexlt:=by rw [hi]; exact hp.filter _
 have hmem:∀ x,x∈inAll e c p ↔ x∈sures e c p:=fun x=>by
  rw [hi,List.mem_filter,decide_eq_true_eq,len_all,all_sure k0,mem_sures]
  unfold sureB
  rw [Bool.and_eq_true,decide_eq_true_eq,decide_eq_true_eq]
  constructor
  ·rintro ⟨a,b⟩
   obtain ⟨_,q1,q2,q3,q4,q5⟩:=hm x a
   exact ⟨⟨q1,q2,q3,q4⟩,q5,b⟩
  ·rintro ⟨_,_,b⟩
   have:=(all_sure k0 x).mpr b r hr
   exact ⟨by unfold memB at this; simpa using this,b⟩
 have n1:(inAll e c p).Nodup:=by unfold List.Nodup; exact hlx.imp fun h=>(lex_ne h).symm
 have n2:(sures e c p).Nodup:=by unfold List.Nodup; exact sures_lex.imp fun h=>(lex_ne h).symm
 refine List.Perm.eq_of_pairwise (le:=lexlt) (fun a b _ _ h1 h2=>?_) hlx sures_lex (nodup_perm n1 n2 hmem)
 exact absurd (lex_tr h1 h2) lex_irr
theorem sort_lex{l:List Kn}(h:l.Pairwise lexlt):sortB (Ordk.lt (kP2 kI kI)) l=l:=by
 unfold sortB
 refine List.mergeSort_of_pairwise (h.imp fun {a b} q=>?_)
 show (!(decide (b.1 < a.1) || (decide (b.1=a.1) && decide (b.2 < a.2))))=true
 unfold lexlt at q
 rcases q with q | ⟨q1,q2⟩
 ·have h1:¬ b.1 < a.1:=by omega
  have h2:¬ b.1=a.1:=by omega
  simp [h1,h2]
 ·have h1:¬ b.1 < a.1:=by omega
  have h2:¬ b.2 < a.2:=by omega
  simp [h1,h2]
theorem inall_ok(k0:kn e c 0 0)(h3:e.length≤3)(c3:c.length≤3)(hb:(rwF e c p 0 0).length≤262144):f_law_in_all (gd1 e c p 0 0) = .ok (inAll e c p):=by
 obtain ⟨r,l,h1,_⟩:=gd1_head (p:=p) 0 0 k0
 have hr:r∈gd1 e c p 0 0:=by rw [h1]; simp
 have hgl:(gd1 e c p 0 0).length≤262144:=Nat.le_trans (List.length_filter_le _ _) hb
 have hst:=(rw_steps 0 0 k0 r (gd1_sub hr)).2
 have hrm:r.2.2.length≤1000000:=by unfold remK at hst; omega
 unfold f_law_in_all
 have h0:ixR (gd1 e c p 0 0) (0:Int) = .ok r:=Td.head_ix (by rw [h1]; rfl)
 rw [h0,bind_ok,bind_ok]
 have inner:∀ x:Kn,((noExc (lcR (fun (z13:Rw1)=>Res.ok (memB x z13.2.2)) (fun (z13:Rw1)=>Res.ok (z13)) (gd1 e c p 0 0))).bind szR) = .ok ((gd1 e c p 0 0).filter fun y=>memB x y.2.2):=fun x=>by
  rw [lcR_sz (fun y:Rw1=>memB x y.2.2) (fun y=>y) (fun y _=>⟨rfl,fun _=>rfl⟩) (by omega),List.map_id']
 simp only [inner,bind_ok]
 rw [lcR_sz (fun x:Kn=>decide ((((gd1 e c p 0 0).filter fun y=>memB x y.2.2).length:Int)=((gd1 e c p 0 0).length:Int))) (fun x=>x) (fun y _=>⟨rfl,fun _=>rfl⟩) (by omega),List.map_id',bind_ok]
 unfold inAll
 rw [h1]
 simp only
 congr 1
 refine List.filter_congr fun x _=>?_
 exact decide_eq_decide.mpr ⟨fun q=>by omega,fun q=>by omega⟩
end
theorem m_law(ns:List Int)(hl:ns.length≤63)(hb:∀ z∈ns,z.natAbs.log2≤1048576):f_law_v64 ns = .ok true:=by
 refine Rk.eq ?_
 unfold f_law_v64
 simp only [bind_assoc]
 refine Rk.bind (cell_at_ok ns (by decide) hb) fun z hz=>Rk.bind (prices_ok hz) fun l hl7=>?_
 obtain ⟨p,rfl,hpo⟩:=seven hl7.1 hl7.2
 refine Rk.bind (pairs_ok ns hl hb (by decide) (by decide)) fun ps hps=>?_
 refine Rk.bok (Rk.forU fun x hx=>?_) (Rk.ok rfl)
 have hok:=hps x hx
 have hr1:=hok.r1
 have hr2:=hok.r2
 have cut3:∀ (r:Row),okR r→okR (cutL r none (some (3:Int)))∧(cutL r none (some (3:Int))).length≤3:=fun r h=>by
  rw [cut_take (by decide)]
  exact ⟨⟨by rw [List.length_take]; have:=h.l; omega,fun w hw=>h.w w (List.mem_of_mem_take hw)⟩,by rw [List.length_take]; exact Nat.min_le_left _ _⟩
 obtain ⟨he,h3⟩:=cut3 x.1 hr1
 obtain ⟨hc,c3⟩:=cut3 x.2 hr2
 show Rk (Res.bind (f_law_all_rows (cutL x.1 none (some (3:Int))) (cutL x.2 none (some (3:Int))) (l7 p)) _) _
 generalize cutL x.1 none (some (3:Int))=e at *
 generalize cutL x.2 none (some (3:Int))=c at *
 have k0:kn e c 0 0:=⟨by omega,by omega,by omega,by omega⟩
 have hbd:=rw_bd (p:=p) k0 h3 c3
 rw [(allrows_ok he hc h3 c3).eq,bind_ok]
 obtain ⟨r,gl,g1,g2⟩:=gd1_head (p:=p) 0 0 k0
 have hr:r∈gd1 e c p 0 0:=by rw [g1]; simp
 have hmin:minR ((rwF e c p 0 0).map fun z=>z.1) = .ok (rest e c p 0 0):=by
  unfold minR
  rw [minI_is' (x:=rest e c p 0 0) (List.mem_map.mpr ⟨r,gd1_sub hr,of_decide_eq_true (List.mem_filter.mp hr).2⟩) fun y hy=>by
   obtain ⟨q,hq,rfl⟩:=List.mem_map.mp hy
   exact rw_rest 0 0 k0 q hq]
 have hprices:(noExc (mapR (fun (z18:Rw1)=>Res.ok (z18.1)) (rwF e c p 0 0))).bind szR = .ok ((rwF e c p 0 0).map fun z=>z.1):=mapR_sz (fun z:Rw1=>z.1) (fun y _=>rfl) (by omega)
 have hgood:(noExc (lcR (fun (z21:Rw1)=>Res.ok (decide (z21.1=rest e c p 0 0))) (fun (z21:Rw1)=>Res.ok (z21)) (rwF e c p 0 0))).bind szR = .ok (gd1 e c p 0 0):=by
  rw [lcR_sz (fun y:Rw1=>decide (y.1=rest e c p 0 0)) (fun y=>y) (fun y _=>⟨rfl,fun _=>rfl⟩) (by omega),List.map_id']
  rfl
 rw [← bind_assoc,hprices,bind_ok,hmin,bind_ok,← bind_assoc,hgood,bind_ok]
 obtain ⟨R,q1,q2,q3,q4,_⟩:=Td.least_ok (p:=p) he hc
 rw [q1,bind_ok]
 have h0:ixR (gd1 e c p 0 0) (0:Int) = .ok r:=Td.head_ix (by rw [g1]; rfl)
 rw [h0,bind_ok,bind_ok,bind_ok,bind_ok]
 have hst:R.2.1=r.2.1:=q3.uniq g2
 have e1:(kP2 (kO kI) (kT kStp)) (((R.1,R.2.1):((Option (Int))×List (Stp))))=(kP2 kI (kT kStp)) (rest e c p 0 0,r.2.1):=by
  rw [q2,hst]; rfl
 have hrl:=(rw_steps 0 0 k0 r (gd1_sub hr)).1
 have hrl':r.2.1.length≤100000:=by unfold remK at hrl; omega
 have s1:f_law_same 8 ((kP2 kI (kT kStp)) (rest e c p 0 0,r.2.1)) ((kP2 kI (kT kStp)) (rest e c p 0 0,r.2.1)) = .ok true:=same_ok (by
  refine ⟨by show (2:Nat)≤100000; decide,fun q hq=>?_⟩
  rcases List.mem_cons.mp hq with rfl | hq
  ·trivial
  ·rw [List.mem_singleton] at hq
   subst hq
   refine ⟨by rw [List.length_map]; exact hrl',fun q hq=>?_⟩
   obtain ⟨s,_,rfl⟩:=List.mem_map.mp hq
   cases s <;> simp [kStp,gd])
 rw [e1,s1,bind_ok,bind_ok,if_neg (by decide),cmany_ok he hc,bind_ok,bind_ok]
 have e2:kO kI (some (many e c p 0 0))=kI (((gd1 e c p 0 0).length:Int)):=by rw [gd1_many 0 0 k0]; rfl
 have s2:f_law_same 8 (kI (((gd1 e c p 0 0).length:Int))) (kI (((gd1 e c p 0 0).length:Int))) = .ok true:=same_ok trivial
 rw [e2,s2,bind_ok,bind_ok,if_neg (by decide),(surepairs_ok he hc (by omega) (by omega)).eq,bind_ok,bind_ok,inall_ok k0 h3 c3 hbd,bind_ok,inAll_eq k0]
 have hsl:=sure_len (e:=e) (c:=c) (p:=p)
 have hsl2:e.length * c.length≤3 * 3:=Nat.mul_le_mul h3 c3
 have hso:sortR (Ordk.lt (kP2 kI kI)) (sures e c p) = .ok (sures e c p):=by
  unfold sortR
  rw [if_pos (by omega),sort_lex sures_lex]
 rw [hso,bind_ok,bind_ok,same_ok,bind_ok,bind_ok,if_neg (by decide)]
 ·exact Rk.ok rfl
 ·refine ⟨by rw [List.length_map]; omega,fun q hq=>?_⟩
  obtain ⟨y,hy,rfl⟩:=List.mem_map.mp hq
  refine ⟨by show (2:Nat)≤100000; decide,fun z hz=>?_⟩
  simp only [List.mem_cons,List.not_mem_nil,or_false] at hz
  rcases hz with rfl | rfl <;> trivial
end Vm
end
section
set_option Elab.async false
set_option linter.all false
set_option maxRecDepth 100000
set_option maxHeartbeats 4000000
namespace Vm
theorem t_looks_alike(v_one:List Nat)(v_two:List Nat):RefG (tv .fz kB) (d_looks_alike [kS v_one,kS v_two]) (f_looks_alike v_one v_two) :=
 (tFn (gIfD (xV (rNe (rLenS (rV .fz kS v_one)) (rLenS (rV .fz kS v_two)))) (gRetS (rV .fz kB false) (fun (r1:Bool)=>gOk (s:=r1) (.inl ⟨_,rfl⟩)) trivial) (gNil (gRet (rEq (rLenL (rLC (iZip (rV .fz kS v_one) (rV .fz kS v_two) sqS sqS) (fun (z9:((List Nat)×List Nat))=>⟨_,rfl,xV (rNe (rV .fz kS z9.1) (rV .fz kS z9.2)),rV .fz kI (1:Int)⟩))) (rV .fz kI (1:Int))) (fun (r12:Bool)=>gOk (s:=r12) (.inl ⟨_,rfl⟩)) trivial)) trivial):RefG (tv .fz kB) (d_looks_alike [kS v_one,kS v_two]) _)
theorem t_step_price(v_elder:List (List Nat))(v_done:Int)(v_step:Stp)(v_prices:List (Int)):RefG (tv .fz kI) (d_step_price [(kT kS) v_elder,kI v_done,kStp v_step,(kT kI) v_prices]) (f_step_price v_elder v_done v_step v_prices) :=
 (tFn (gPrim (pSetU [4,5,6,7,8,9,10] un7 (rV .fz (kT kI) v_prices) trivial (hb_un7 fun _=>rfl) hx_un7) (fun (s1:((Int)×(Int)×(Int)×(Int)×(Int)×(Int)×Int))=>gPrim (pSet 11 (rStp0 (rV .fz kStp v_step)) trivial) (fun (s2:List Nat)=>gIfD (xV (rEq (rV .fz kS s2) (rV .fz kS ([116,117,114,110]:List Nat)))) (gAssoc (gIfD (xV (argsC (rIxT (rV .fz (kT kS) v_elder) (rV .fz kI v_done)) (fun (y3:List Nat)=>argsC (rDecS (rStp1 (rV .fz kStp v_step))) (fun (y4:List Nat)=>argsN (rCallB [kS y3,kS y4] (t_looks_alike y3 y4)))))) (gRetVS 4 rfl (gOk (s:=s1.1) (.inl ⟨_,rfl⟩))) (gNil (gRetVS 5 rfl (gOk (s:=s1.2.1) (.inl ⟨_,rfl⟩)))) trivial)) (gNil (gDispRet (ka:=kI) (argsC (rV .fz kI (0:Int)) (fun (y8:Int)=>argsC (rV .fz kI s1.2.2.1) (fun (y9:Int)=>argsC (rV .fz kI s1.2.2.2.1) (fun (y10:Int)=>argsC (rV .fz kI s1.2.2.2.2.1) (fun (y11:Int)=>argsC (rV .fz kI s1.2.2.2.2.2.1) (fun (y12:Int)=>argsC (rV .fz kI s1.2.2.2.2.2.2) (fun (y13:Int)=>argsE (List.map kI) ([y8,y9,y10,y11,y12,y13]:List (Int)) rfl))))))) (RefG.co (f':=id) (c:=(tv .fz kS)) (rV .fz kS s2) (fun _=>rfl)) (fun (r14:Int)=>gOk (s:=r14) (.inl ⟨_,rfl⟩)) trivial)) trivial))):RefG (tv .fz kI) (d_step_price [(kT kS) v_elder,kI v_done,kStp v_step,(kT kI) v_prices]) _)
theorem t_skips_at(v_elder:List (List Nat))(v_i:Int):RefG (tv (.ow 1) (kL kStp)) (d_skips_at [(kT kS) v_elder,kI v_i]) (f_skips_at v_elder v_i) :=
 (tFn (gIfD (xV (rEq (rV .fz kI v_i) (rV .fz kI (0:Int)))) (gRetS (rV (.ow 1) (kL kStp) ([]:List (Stp))) (fun (r1:List (Stp))=>gOk (s:=r1) (.inl ⟨_,rfl⟩)) trivial) (gNil (gRet (rLC (iRng2 (rV .fz kI (1:Int)) (rAddI (rSub (rLenT (rV .fz (kT kS) v_elder)) (rV .fz kI v_i)) (rV .fz kI (1:Int)))) (fun (z7:Int)=>⟨_,rfl,xV (rEq (rIxT (rV .fz (kT kS) v_elder) (rSub (rAddI (rV .fz kI v_i) (rV .fz kI z7)) (rV .fz kI (1:Int)))) (rIxT (rV .fz (kT kS) v_elder) (rSub (rV .fz kI v_i) (rV .fz kI (1:Int))))),argsK (.fz,.str [115,107,105,112]) (argsC (rV .fz kI z7) (fun (y8:Int)=>argsE (tv .fz kStp) (Stp.skip y8) rfl))⟩)) (fun (r12:List (Stp))=>gOk (s:=r12) (.inl ⟨_,rfl⟩)) trivial)) trivial):RefG (tv (.ow 1) (kL kStp)) (d_skips_at [(kT kS) v_elder,kI v_i]) _)
theorem t_swaps_at(v_elder:List (List Nat))(v_copy:List (List Nat))(v_i:Int)(v_j:Int):RefG (tv (.ow 1) (kL kStp)) (d_swaps_at [(kT kS) v_elder,(kT kS) v_copy,kI v_i,kI v_j]) (f_swaps_at v_elder v_copy v_i v_j) :=
 (tFn (gIfD (xO (xV (rGe (rAddI (rV .fz kI v_i) (rV .fz kI (1:Int))) (rLenT (rV .fz (kT kS) v_elder)))) (xO (xV (rGe (rAddI (rV .fz kI v_j) (rV .fz kI (1:Int))) (rLenT (rV .fz (kT kS) v_copy)))) (xV (rEq (rIxT (rV .fz (kT kS) v_elder) (rV .fz kI v_i)) (rIxT (rV .fz (kT kS) v_elder) (rAddI (rV .fz kI v_i) (rV .fz kI (1:Int)))))))) (gRetS (rV (.ow 1) (kL kStp) ([]:List (Stp))) (fun (r3:List (Stp))=>gOk (s:=r3) (.inl ⟨_,rfl⟩)) trivial) (gNil (gIfD (xA (xV (rEq (rIxT (rV .fz (kT kS) v_copy) (rV .fz kI v_j)) (rIxT (rV .fz (kT kS) v_elder) (rAddI (rV .fz kI v_i) (rV .fz kI (1:Int)))))) (xV (rEq (rIxT (rV .fz (kT kS) v_copy) (rAddI (rV .fz kI v_j) (rV .fz kI (1:Int)))) (rIxT (rV .fz (kT kS) v_elder) (rV .fz kI v_i))))) (gRetS (argsC (rV .fz kStp Stp.swap) (fun (y10:Stp)=>argsE (tv (.ow 1) (kL kStp)) ([y10]:List (Stp)) rfl)) (fun (r11:List (Stp))=>gOk (s:=r11) (.inl ⟨_,rfl⟩)) trivial) (gNil (gRet (rV (.ow 1) (kL kStp) ([]:List (Stp))) (fun (r12:List (Stp))=>gOk (s:=r12) (.inl ⟨_,rfl⟩)) trivial)) trivial)) trivial):RefG (tv (.ow 1) (kL kStp)) (d_swaps_at [(kT kS) v_elder,(kT kS) v_copy,kI v_i,kI v_j]) _)
theorem t_knot_steps(v_elder:List (List Nat))(v_copy:List (List Nat))(v_i:Int)(v_j:Int):RefG (tv .fz (kT kStp)) (d_knot_steps [(kT kS) v_elder,(kT kS) v_copy,kI v_i,kI v_j]) (f_knot_steps v_elder v_copy v_i v_j) :=
 (tFn (gPrim (pSetO 4 (rV (.ow 1) (kL kStp) ([]:List (Stp))) trivial) (fun (s1:List (Stp))=>gPrim (u':=fun (s12:((List (Stp))))=>[some (.fz,(kT kS) v_elder),some (.fz,(kT kS) v_copy),some (.fz,kI v_i),some (.fz,kI v_j),some (.ow 1,(kL kStp) s12)]) (gIf (β:=((List (Stp)))) (Post:=NxP (fun (s12:((List (Stp)))) Γ'=>Γ'=[some (.fz,(kT kS) v_elder),some (.fz,(kT kS) v_copy),some (.fz,kI v_i),some (.fz,kI v_j),some (.ow 1,(kL kStp) s12)])) (xA (xV (rLt (rV .fz kI v_i) (rLenT (rV .fz (kT kS) v_elder)))) (xV (rLt (rV .fz kI v_j) (rLenT (rV .fz (kT kS) v_copy))))) (gIf (xV (rEq (rIxT (rV .fz (kT kS) v_elder) (rV .fz kI v_i)) (rIxT (rV .fz (kT kS) v_copy) (rV .fz kI v_j)))) (gPrim1 (pApp 4 (l:=s1) (rV .fz kStp Stp.keep) trivial rfl) (fun (s16:List (Stp))=>gOk (s:=s16) ⟨_,rfl,rfl⟩)) (gPrim1 (pApp 4 (l:=s1) (argsK (.fz,.str [116,117,114,110]) (argsC (rIxT (rV .fz (kT kS) v_copy) (rV .fz kI v_j)) (fun (y19:List Nat)=>argsE (tv .fz kStp) (Stp.turn y19) rfl))) trivial rfl) (fun (s22:List (Stp))=>gOk (s:=s22) ⟨_,rfl,rfl⟩)) trivial) (gNil1 (gOk (s:=s1) ⟨_,rfl,rfl⟩)) trivial) (fun s12=>gPrim (u':=fun (s25:((List (Stp))))=>[some (.fz,(kT kS) v_elder),some (.fz,(kT kS) v_copy),some (.fz,kI v_i),some (.fz,kI v_j),some (.ow 1,(kL kStp) s25)]) (gIf (β:=((List (Stp)))) (Post:=NxP (fun (s25:((List (Stp)))) Γ'=>Γ'=[some (.fz,(kT kS) v_elder),some (.fz,(kT kS) v_copy),some (.fz,kI v_i),some (.fz,kI v_j),some (.ow 1,(kL kStp) s25)])) (xV (rLt (rV .fz kI v_i) (rLenT (rV .fz (kT kS) v_elder)))) (gPrim1 (pApp 4 (l:=s12) (rV .fz kStp Stp.lose) trivial rfl) (fun (s27:List (Stp))=>gOk (s:=s27) ⟨_,rfl,rfl⟩)) (gNil1 (gOk (s:=s12) ⟨_,rfl,rfl⟩)) trivial) (fun s25=>gPrim (u':=fun (s38:((List (Stp))))=>[some (.fz,(kT kS) v_elder),some (.fz,(kT kS) v_copy),some (.fz,kI v_i),some (.fz,kI v_j),some (.ow 1,(kL kStp) s38)]) (gIf (β:=((List (Stp)))) (Post:=NxP (fun (s38:((List (Stp)))) Γ'=>Γ'=[some (.fz,(kT kS) v_elder),some (.fz,(kT kS) v_copy),some (.fz,kI v_i),some (.fz,kI v_j),some (.ow 1,(kL kStp) s38)])) (xV (rLt (rV .fz kI v_j) (rLenT (rV .fz (kT kS) v_copy)))) (gPrim (pApp 4 (l:=s25) (argsK (.fz,.str [97,100,100]) (argsC (rIxT (rV .fz (kT kS) v_copy) (rV .fz kI v_j)) (fun (y42:List Nat)=>argsE (tv .fz kStp) (Stp.add y42) rfl))) trivial rfl) (fun (s45:List (Stp))=>gIf (xA (xV (rGt (rV .fz kI v_j) (rV .fz kI (0:Int)))) (xV (rEq (rIxT (rV .fz (kT kS) v_copy) (rSub (rV .fz kI v_j) (rV .fz kI (1:Int)))) (rIxT (rV .fz (kT kS) v_copy) (rV .fz kI v_j))))) (gPrim1 (pApp 4 (l:=s45) (rV .fz kStp Stp.twice) trivial rfl) (fun (s48:List (Stp))=>gOk (s:=s48) ⟨_,rfl,rfl⟩)) (gNil1 (gOk (s:=s45) ⟨_,rfl,rfl⟩)) trivial)) (gNil1 (gOk (s:=s25) ⟨_,rfl,rfl⟩)) trivial) (fun s38=>gRet (rTupL (rAddL (rAddL (rV (.bw 1) (kL kStp) s38) (argsC (rV .fz (kT kS) v_elder) (fun (y89:List (List Nat))=>argsC (rV .fz (kT kS) v_copy) (fun (y90:List (List Nat))=>argsC (rV .fz kI v_i) (fun (y91:Int)=>argsC (rV .fz kI v_j) (fun (y92:Int)=>argsN (rCallB [(kT kS) y89,(kT kS) y90,kI y91,kI y92] (t_swaps_at y89 y90 y91 y92)))))))) (argsC (rV .fz (kT kS) v_elder) (fun (y94:List (List Nat))=>argsC (rV .fz kI v_i) (fun (y95:Int)=>argsN (rCallB [(kT kS) y94,kI y95] (t_skips_at y94 y95))))))) (fun (r98:List (Stp))=>gOk (s:=r98) (.inl ⟨_,rfl⟩)) trivial))))):RefG (tv .fz (kT kStp)) (d_knot_steps [(kT kS) v_elder,(kT kS) v_copy,kI v_i,kI v_j]) _)
theorem t_step_end(v_i:Int)(v_j:Int)(v_step:Stp):RefG (tv .fz (kP2 kI kI)) (d_step_end [kI v_i,kI v_j,kStp v_step]) (f_step_end v_i v_j v_step) :=
 (tFn (gIfD (xO (xV (rEq (rStp0 (rV .fz kStp v_step)) (rV .fz kS ([107,101,101,112]:List Nat)))) (xV (rEq (rStp0 (rV .fz kStp v_step)) (rV .fz kS ([116,117,114,110]:List Nat))))) (gRetS (argsC (rAddI (rV .fz kI v_i) (rV .fz kI (1:Int))) (fun (y3:Int)=>argsC (rAddI (rV .fz kI v_j) (rV .fz kI (1:Int))) (fun (y4:Int)=>argsE (tv .fz (kP2 kI kI)) ((y3,y4):((Int)×Int)) rfl))) (fun (r5:((Int)×Int))=>gOk (s:=r5) (.inl ⟨_,rfl⟩)) trivial) (gNil (gIfD (xV (rEq (rStp0 (rV .fz kStp v_step)) (rV .fz kS ([108,111,115,101]:List Nat)))) (gRetS (argsC (rAddI (rV .fz kI v_i) (rV .fz kI (1:Int))) (fun (y8:Int)=>argsC (rV .fz kI v_j) (fun (y9:Int)=>argsE (tv .fz (kP2 kI kI)) ((y8,y9):((Int)×Int)) rfl))) (fun (r10:((Int)×Int))=>gOk (s:=r10) (.inl ⟨_,rfl⟩)) trivial) (gNil (gIfD (xO (xV (rEq (rStp0 (rV .fz kStp v_step)) (rV .fz kS ([97,100,100]:List Nat)))) (xV (rEq (rStp0 (rV .fz kStp v_step)) (rV .fz kS ([116,119,105,99,101]:List Nat))))) (gRetS (argsC (rV .fz kI v_i) (fun (y13:Int)=>argsC (rAddI (rV .fz kI v_j) (rV .fz kI (1:Int))) (fun (y14:Int)=>argsE (tv .fz (kP2 kI kI)) ((y13,y14):((Int)×Int)) rfl))) (fun (r15:((Int)×Int))=>gOk (s:=r15) (.inl ⟨_,rfl⟩)) trivial) (gNil (gIfD (xV (rEq (rStp0 (rV .fz kStp v_step)) (rV .fz kS ([115,119,97,112]:List Nat)))) (gRetS (argsC (rAddI (rV .fz kI v_i) (rV .fz kI (2:Int))) (fun (y18:Int)=>argsC (rAddI (rV .fz kI v_j) (rV .fz kI (2:Int))) (fun (y19:Int)=>argsE (tv .fz (kP2 kI kI)) ((y18,y19):((Int)×Int)) rfl))) (fun (r20:((Int)×Int))=>gOk (s:=r20) (.inl ⟨_,rfl⟩)) trivial) (gNil (gRet (argsC (rAddI (rV .fz kI v_i) (rDecI (rStp1 (rV .fz kStp v_step)))) (fun (y26:Int)=>argsC (rV .fz kI v_j) (fun (y27:Int)=>argsE (tv .fz (kP2 kI kI)) ((y26,y27):((Int)×Int)) rfl))) (fun (r29:((Int)×Int))=>gOk (s:=r29) (.inl ⟨_,rfl⟩)) trivial)) trivial)) trivial)) trivial)) trivial):RefG (tv .fz (kP2 kI kI)) (d_step_end [kI v_i,kI v_j,kStp v_step]) _)
theorem t_priced_ends(v_elder:List (List Nat))(v_copy:List (List Nat))(v_i:Int)(v_j:Int)(v_prices:List (Int)):RefG (tv (.ow 1) (kL (kP3 kStp (kP2 kI kI) kI))) (d_priced_ends [(kT kS) v_elder,(kT kS) v_copy,kI v_i,kI v_j,(kT kI) v_prices]) (f_priced_ends v_elder v_copy v_i v_j v_prices) :=
 (tFn (gPrim (pSetO 5 (rV (.ow 1) (kL (kP3 kStp (kP2 kI kI) kI)) ([]:List (((Stp)×(((Int)×Int))×Int)))) trivial) (fun (s1:List (((Stp)×(((Int)×Int))×Int)))=>gPrim (pFor (fun (s2:((List (((Stp)×(((Int)×Int))×Int)))))=>[some (.fz,(kT kS) v_elder),some (.fz,(kT kS) v_copy),some (.fz,kI v_i),some (.fz,kI v_j),some (.fz,(kT kI) v_prices),some (.ow 1,(kL (kP3 kStp (kP2 kI kI) kI)) s2),none]) s1 (iSeqT (argsC (rV .fz (kT kS) v_elder) (fun (y3:List (List Nat))=>argsC (rV .fz (kT kS) v_copy) (fun (y4:List (List Nat))=>argsC (rV .fz kI v_i) (fun (y5:Int)=>argsC (rV .fz kI v_j) (fun (y6:Int)=>argsN (rCallB [(kT kS) y3,(kT kS) y4,kI y5,kI y6] (t_knot_steps y3 y4 y5 y6)))))))) rfl (fun (s2:((List (((Stp)×(((Int)×Int))×Int))))) (x7:Stp)=>⟨_,rfl,gPrim1 (pApp 5 (l:=s2) (argsC (rV .fz kStp x7) (fun (y27:Stp)=>argsC (argsC (rV .fz kI v_i) (fun (y20:Int)=>argsC (rV .fz kI v_j) (fun (y21:Int)=>argsC (rV .fz kStp x7) (fun (y22:Stp)=>argsN (rCallB [kI y20,kI y21,kStp y22] (t_step_end y20 y21 y22)))))) (fun (y28:((Int)×Int))=>argsC (argsC (rV .fz (kT kS) v_elder) (fun (y23:List (List Nat))=>argsC (rV .fz kI v_i) (fun (y24:Int)=>argsC (rV .fz kStp x7) (fun (y25:Stp)=>argsC (rV .fz (kT kI) v_prices) (fun (y26:List (Int))=>argsN (rCallB [(kT kS) y23,kI y24,kStp y25,(kT kI) y26] (t_step_price y23 y24 y25 y26))))))) (fun (y29:Int)=>argsE (tv .fz (kP3 kStp (kP2 kI kI) kI)) ((y27,y28,y29):((Stp)×(((Int)×Int))×Int)) rfl)))) trivial rfl) (fun (s33:List (((Stp)×(((Int)×Int))×Int)))=>gOk (s:=s33) ⟨_,.inl rfl,rfl⟩)⟩) trivial) (fun (s35:((List (((Stp)×(((Int)×Int))×Int)))))=>gRetV 5 rfl (gOk (s:=s35) (.inl ⟨_,rfl⟩))))):RefG (tv (.ow 1) (kL (kP3 kStp (kP2 kI kI) kI))) (d_priced_ends [(kT kS) v_elder,(kT kS) v_copy,kI v_i,kI v_j,(kT kI) v_prices]) _)
theorem t_empty_table(v_elder:List (List Nat))(v_copy:List (List Nat)):RefG (tv (.ow 2) (kL (kL kN))) (d_empty_table [(kT kS) v_elder,(kT kS) v_copy]) (f_empty_table v_elder v_copy) :=
 (tFn (gRet (rLMO (iRng (rAddI (rLenT (rV .fz (kT kS) v_elder)) (rV .fz kI (1:Int)))) (fun (z5:Int)=>⟨_,rfl,rLM (iRng (rAddI (rLenT (rV .fz (kT kS) v_copy)) (rV .fz kI (1:Int)))) (fun (z6:Int)=>⟨_,rfl,rV .fz kN ()⟩)⟩)) (fun (r9:List (List (Unit)))=>gOk (s:=r9) (.inl ⟨_,rfl⟩)) trivial):RefG (tv (.ow 2) (kL (kL kN))) (d_empty_table [(kT kS) v_elder,(kT kS) v_copy]) _)
theorem t_kept_table(v_table:List (List (Option (Int)))):RefG (tv .fz (kT (kT (kO kI)))) (d_kept_table [(kL (kL (kO kI))) v_table]) (f_kept_table v_table) :=
 (tFn (gRet (rTupL (rLM (iSeqL (rV .fz (kL (kL (kO kI))) v_table)) (fun (z2:List (Option (Int)))=>⟨_,rfl,rTupL (rV .fz (kL (kO kI)) z2)⟩))) (fun (r3:List (List (Option (Int))))=>gOk (s:=r3) (.inl ⟨_,rfl⟩)) trivial):RefG (tv .fz (kT (kT (kO kI)))) (d_kept_table [(kL (kL (kO kI))) v_table]) _)
theorem t_price_table(v_elder:List (List Nat))(v_copy:List (List Nat))(v_prices:List (Int)):RefG (tv .fz (kT (kT (kO kI)))) (d_price_table [(kT kS) v_elder,(kT kS) v_copy,(kT kI) v_prices]) (f_price_table v_elder v_copy v_prices) :=
 (tFn (gPrim (pSetO 3 (RefG.co (f':=tv (.ow 2) (kL (kL (kO kI)))) (c:=(List.map (List.map (fun _=>none)))) (argsC (rV .fz (kT kS) v_elder) (fun (y3:List (List Nat))=>argsC (rV .fz (kT kS) v_copy) (fun (y4:List (List Nat))=>argsN (rCallB [(kT kS) y3,(kT kS) y4] (t_empty_table y3 y4))))) (fun z=>congrArg (Prod.mk (Tg.ow 2)) ((coL (coL (fun _=>rfl)):∀ z,(kL (kL (kO kI))) ((List.map (List.map (fun _=>none))) z)=(kL (kL kN)) z) z))) trivial) (fun (s6:List (List (Option (Int))))=>gPrim (pSetIx2 3 (RefG.co (f':=tv .fz (kO kI)) (c:=some) (rV .fz kI (0:Int)) (fun _=>rfl)) (rV .fz kI (0:Int)) (rV .fz kI (0:Int)) trivial (l:=s6) rfl) (fun (s9:List (List (Option (Int))))=>gPrim (pFor (fun (s10:((List (List (Option (Int))))))=>[some (.fz,(kT kS) v_elder),some (.fz,(kT kS) v_copy),some (.fz,(kT kI) v_prices),some (.ow 2,(kL (kL (kO kI))) s10),none,none,none,none,none,none]) s9 (iRng (rAddI (rLenT (rV .fz (kT kS) v_elder)) (rV .fz kI (1:Int)))) rfl (fun (s10:((List (List (Option (Int)))))) (x11:Int)=>⟨_,rfl,gPrim1 (pFor (fun (s12:((List (List (Option (Int))))))=>[some (.fz,(kT kS) v_elder),some (.fz,(kT kS) v_copy),some (.fz,(kT kI) v_prices),some (.ow 2,(kL (kL (kO kI))) s12),some (.fz,kI x11),none,none,none,none,none]) s10 (iRng (rAddI (rLenT (rV .fz (kT kS) v_copy)) (rV .fz kI (1:Int)))) rfl (fun (s12:((List (List (Option (Int)))))) (x13:Int)=>⟨_,rfl,gPrim1 (pFor (fun (s14:((List (List (Option (Int))))))=>[some (.fz,(kT kS) v_elder),some (.fz,(kT kS) v_copy),some (.fz,(kT kI) v_prices),some (.ow 2,(kL (kL (kO kI))) s14),some (.fz,kI x11),some (.fz,kI x13),none,none,none,none]) s12 (iSeqL (argsC (rV .fz (kT kS) v_elder) (fun (y15:List (List Nat))=>argsC (rV .fz (kT kS) v_copy) (fun (y16:List (List Nat))=>argsC (rV .fz kI x11) (fun (y17:Int)=>argsC (rV .fz kI x13) (fun (y18:Int)=>argsC (rV .fz (kT kI) v_prices) (fun (y19:List (Int))=>argsN (rCallB [(kT kS) y15,(kT kS) y16,kI y17,kI y18,(kT kI) y19] (t_priced_ends y15 y16 y17 y18 y19))))))))) rfl (fun (s14:((List (List (Option (Int)))))) (x20:((Stp)×(((Int)×Int))×Int))=>⟨_,rfl,gPrim (pSet 9 (rIxL (rIxL (rV (.bw 2) (kL (kL (kO kI))) s14) (rIxP (kb:=kI) (pr:=fun (z:((Int)×Int))=>z.1) (rV .fz (kP2 kI kI) x20.2.1))) (rIxP (kb:=kI) (pr:=fun (z:((Int)×Int))=>z.2) (rV .fz (kP2 kI kI) x20.2.1))) trivial) (fun (s22:Option (Int))=>gIf (xO (xV (rIsN (rV .fz (kO kI) s22))) (xV (rLt (rAddI (rGetO (rIxL (rIxL (rV (.bw 2) (kL (kL (kO kI))) s14) (rV .fz kI x11)) (rV .fz kI x13))) (rV .fz kI x20.2.2)) (rGetO (rV .fz (kO kI) s22))))) (gPrim1 (pSetIx2 3 (RefG.co (f':=tv .fz (kO kI)) (c:=some) (rAddI (rGetO (rIxL (rIxL (rV (.bw 2) (kL (kL (kO kI))) s14) (rV .fz kI x11)) (rV .fz kI x13))) (rV .fz kI x20.2.2)) (fun _=>rfl)) (rIxP (kb:=kI) (pr:=fun (z:((Int)×Int))=>z.1) (rV .fz (kP2 kI kI) x20.2.1)) (rIxP (kb:=kI) (pr:=fun (z:((Int)×Int))=>z.2) (rV .fz (kP2 kI kI) x20.2.1)) trivial (l:=s14) rfl) (fun (s38:List (List (Option (Int))))=>gOk (s:=s38) ⟨_,.inl rfl,rfl⟩)) (gNil1 (gOk (s:=s14) ⟨_,.inl rfl,rfl⟩)) trivial)⟩) trivial) (fun (s41:((List (List (Option (Int))))))=>gOk (s:=s41) ⟨_,.inl rfl,rfl⟩)⟩) trivial) (fun (s43:((List (List (Option (Int))))))=>gOk (s:=s43) ⟨_,.inl rfl,rfl⟩)⟩) trivial) (fun (s45:((List (List (Option (Int))))))=>gRet (argsC (rV (.bw 2) (kL (kL (kO kI))) s45) (fun (y47:List (List (Option (Int))))=>argsN (rCallS [(kL (kL (kO kI))) y47] (t_kept_table y47) st_fz))) (fun (r48:List (List (Option (Int))))=>gOk (s:=r48) (.inl ⟨_,rfl⟩)) trivial)))):RefG (tv .fz (kT (kT (kO kI)))) (d_price_table [(kT kS) v_elder,(kT kS) v_copy,(kT kI) v_prices]) _)
theorem t_rest_table(v_elder:List (List Nat))(v_copy:List (List Nat))(v_prices:List (Int)):RefG (tv .fz (kT (kT (kO kI)))) (d_rest_table [(kT kS) v_elder,(kT kS) v_copy,(kT kI) v_prices]) (f_rest_table v_elder v_copy v_prices) :=
 (tFn (gPrim (pSetO 3 (RefG.co (f':=tv (.ow 2) (kL (kL (kO kI)))) (c:=(List.map (List.map (fun _=>none)))) (argsC (rV .fz (kT kS) v_elder) (fun (y3:List (List Nat))=>argsC (rV .fz (kT kS) v_copy) (fun (y4:List (List Nat))=>argsN (rCallB [(kT kS) y3,(kT kS) y4] (t_empty_table y3 y4))))) (fun z=>congrArg (Prod.mk (Tg.ow 2)) ((coL (coL (fun _=>rfl)):∀ z,(kL (kL (kO kI))) ((List.map (List.map (fun _=>none))) z)=(kL (kL kN)) z) z))) trivial) (fun (s6:List (List (Option (Int))))=>gPrim (pFor (fun (s7:((List (List (Option (Int))))))=>[some (.fz,(kT kS) v_elder),some (.fz,(kT kS) v_copy),some (.fz,(kT kI) v_prices),some (.ow 2,(kL (kL (kO kI))) s7),none,none,none,none,none,none]) s6 (iRevR (rAddI (rLenT (rV .fz (kT kS) v_elder)) (rV .fz kI (1:Int)))) rfl (fun (s7:((List (List (Option (Int)))))) (x8:Int)=>⟨_,rfl,gPrim1 (pFor (fun (s9:((List (List (Option (Int))))))=>[some (.fz,(kT kS) v_elder),some (.fz,(kT kS) v_copy),some (.fz,(kT kI) v_prices),some (.ow 2,(kL (kL (kO kI))) s9),some (.fz,kI x8),none,none,none,none,none]) s7 (iRevR (rAddI (rLenT (rV .fz (kT kS) v_copy)) (rV .fz kI (1:Int)))) rfl (fun (s9:((List (List (Option (Int)))))) (x10:Int)=>⟨_,rfl,gPrim (pSet 6 (argsC (rV .fz (kT kS) v_elder) (fun (y11:List (List Nat))=>argsC (rV .fz (kT kS) v_copy) (fun (y12:List (List Nat))=>argsC (rV .fz kI x8) (fun (y13:Int)=>argsC (rV .fz kI x10) (fun (y14:Int)=>argsC (rV .fz (kT kI) v_prices) (fun (y15:List (Int))=>argsN (rCallB [(kT kS) y11,(kT kS) y12,kI y13,kI y14,(kT kI) y15] (t_priced_ends y11 y12 y13 y14 y15)))))))) trivial) (fun (s16:List (((Stp)×(((Int)×Int))×Int)))=>gPrim1 (pSetIx2 3 (RefG.co (f':=tv .fz (kO kI)) (c:=some) (rMinDI (rLM (iSeqL (rV .fz (kL (kP3 kStp (kP2 kI kI) kI)) s16)) (fun (z30:((Stp)×(((Int)×Int))×Int))=>⟨_,rfl,rAddI (rV .fz kI z30.2.2) (rGetO (rIxL (rIxL (rV (.bw 2) (kL (kL (kO kI))) s9) (rIxP (kb:=kI) (pr:=fun (z:((Int)×Int))=>z.1) (rV .fz (kP2 kI kI) z30.2.1))) (rIxP (kb:=kI) (pr:=fun (z:((Int)×Int))=>z.2) (rV .fz (kP2 kI kI) z30.2.1))))⟩)) (rV .fz kI (0:Int)) imL) (fun _=>rfl)) (rV .fz kI x8) (rV .fz kI x10) trivial (l:=s9) rfl) (fun (s39:List (List (Option (Int))))=>gOk (s:=s39) ⟨_,.inl rfl,rfl⟩))⟩) trivial) (fun (s41:((List (List (Option (Int))))))=>gOk (s:=s41) ⟨_,.inl rfl,rfl⟩)⟩) trivial) (fun (s43:((List (List (Option (Int))))))=>gRet (argsC (rV (.bw 2) (kL (kL (kO kI))) s43) (fun (y45:List (List (Option (Int))))=>argsN (rCallS [(kL (kL (kO kI))) y45] (t_kept_table y45) st_fz))) (fun (r46:List (List (Option (Int))))=>gOk (s:=r46) (.inl ⟨_,rfl⟩)) trivial))):RefG (tv .fz (kT (kT (kO kI)))) (d_rest_table [(kT kS) v_elder,(kT kS) v_copy,(kT kI) v_prices]) _)
theorem t_cheapest_ends(v_elder:List (List Nat))(v_copy:List (List Nat))(v_i:Int)(v_j:Int)(v_prices:List (Int))(v_rest:List (List (Option (Int)))):RefG (tv (.ow 1) (kL (kP2 kStp (kP2 kI kI)))) (d_cheapest_ends [(kT kS) v_elder,(kT kS) v_copy,kI v_i,kI v_j,(kT kI) v_prices,(kT (kT (kO kI))) v_rest]) (f_cheapest_ends v_elder v_copy v_i v_j v_prices v_rest) :=
 (tFn (gPrim (pSet 6 (argsC (rV .fz (kT kS) v_elder) (fun (y1:List (List Nat))=>argsC (rV .fz (kT kS) v_copy) (fun (y2:List (List Nat))=>argsC (rV .fz kI v_i) (fun (y3:Int)=>argsC (rV .fz kI v_j) (fun (y4:Int)=>argsC (rV .fz (kT kI) v_prices) (fun (y5:List (Int))=>argsN (rCallB [(kT kS) y1,(kT kS) y2,kI y3,kI y4,(kT kI) y5] (t_priced_ends y1 y2 y3 y4 y5)))))))) trivial) (fun (s6:List (((Stp)×(((Int)×Int))×Int)))=>gRet (rLC (iSeqL (rV .fz (kL (kP3 kStp (kP2 kI kI) kI)) s6)) (fun (z21:((Stp)×(((Int)×Int))×Int))=>⟨_,rfl,xV (rEq (RefG.co (f':=tv .fz (kO kI)) (c:=some) (rAddI (rV .fz kI z21.2.2) (rGetO (rIxT (rIxT (rV .fz (kT (kT (kO kI))) v_rest) (rIxP (kb:=kI) (pr:=fun (z:((Int)×Int))=>z.1) (rV .fz (kP2 kI kI) z21.2.1))) (rIxP (kb:=kI) (pr:=fun (z:((Int)×Int))=>z.2) (rV .fz (kP2 kI kI) z21.2.1))))) (fun _=>rfl)) (rIxT (rIxT (rV .fz (kT (kT (kO kI))) v_rest) (rV .fz kI v_i)) (rV .fz kI v_j))),argsC (rV .fz kStp z21.1) (fun (y22:Stp)=>argsC (rV .fz (kP2 kI kI) z21.2.1) (fun (y23:((Int)×Int))=>argsE (tv .fz (kP2 kStp (kP2 kI kI))) ((y22,y23):((Stp)×((Int)×Int))) rfl))⟩)) (fun (r35:List (((Stp)×((Int)×Int))))=>gOk (s:=r35) (.inl ⟨_,rfl⟩)) trivial)):RefG (tv (.ow 1) (kL (kP2 kStp (kP2 kI kI)))) (d_cheapest_ends [(kT kS) v_elder,(kT kS) v_copy,kI v_i,kI v_j,(kT kI) v_prices,(kT (kT (kO kI))) v_rest]) _)
theorem t_least_slips(v_elder:List (List Nat))(v_copy:List (List Nat))(v_prices:List (Int)):RefG (tv .fz (kP3 (kO kI) (kT kStp) (kT (kT (kO kI))))) (d_least_slips [(kT kS) v_elder,(kT kS) v_copy,(kT kI) v_prices]) (f_least_slips v_elder v_copy v_prices) :=
 (tFn (gPrim (pSet 3 (argsC (rV .fz (kT kS) v_elder) (fun (y1:List (List Nat))=>argsC (rV .fz (kT kS) v_copy) (fun (y2:List (List Nat))=>argsC (rV .fz (kT kI) v_prices) (fun (y3:List (Int))=>argsN (rCallB [(kT kS) y1,(kT kS) y2,(kT kI) y3] (t_rest_table y1 y2 y3)))))) trivial) (fun (s4:List (List (Option (Int))))=>gPrim (pSetO 4 (rV (.ow 1) (kL kStp) ([]:List (Stp))) trivial) (fun (s5:List (Stp))=>gPrim (pSet 5 (argsC (rV .fz kI (0:Int)) (fun (y6:Int)=>argsC (rV .fz kI (0:Int)) (fun (y7:Int)=>argsE (tv .fz (kP2 kI kI)) ((y6,y7):((Int)×Int)) rfl))) trivial) (fun (s8:((Int)×Int))=>gCtl (ret:=(fun z=>nomatch z)) (gWhT (f:=(Empty.elim:Empty→TV)) (fun (s9:((List (Stp))×(((Int)×Int))))=>[some (.fz,(kT kS) v_elder),some (.fz,(kT kS) v_copy),some (.fz,(kT kI) v_prices),some (.fz,(kT (kT (kO kI))) s4),some (.ow 1,(kL kStp) s9.1),some (.fz,(kP2 kI kI) s9.2),none]) ((s5,s8)) rfl (fun (s9:((List (Stp))×(((Int)×Int))))=>xV (rNe (rV .fz (kP2 kI kI) s9.2) (argsC (rLenT (rV .fz (kT kS) v_elder)) (fun (y12:Int)=>argsC (rLenT (rV .fz (kT kS) v_copy)) (fun (y13:Int)=>argsE (tv .fz (kP2 kI kI)) ((y12,y13):((Int)×Int)) rfl))))) (fun (s9:((List (Stp))×(((Int)×Int))))=>gPrim (pSet 6 (rIxL (argsC (rV .fz (kT kS) v_elder) (fun (y14:List (List Nat))=>argsC (rV .fz (kT kS) v_copy) (fun (y15:List (List Nat))=>argsC (rIxP (kb:=kI) (pr:=fun (z:((Int)×Int))=>z.1) (rV .fz (kP2 kI kI) s9.2)) (fun (y16:Int)=>argsC (rIxP (kb:=kI) (pr:=fun (z:((Int)×Int))=>z.2) (rV .fz (kP2 kI kI) s9.2)) (fun (y17:Int)=>argsC (rV .fz (kT kI) v_prices) (fun (y18:List (Int))=>argsC (rV .fz (kT (kT (kO kI))) s4) (fun (y19:List (List (Option (Int))))=>argsN (rCallB [(kT kS) y14,(kT kS) y15,kI y16,kI y17,(kT kI) y18,(kT (kT (kO kI))) y19] (t_cheapest_ends y14 y15 y16 y17 y18 y19))))))))) (rV .fz kI (0:Int))) trivial) (fun (s21:((Stp)×((Int)×Int)))=>gPrim (pApp 4 (l:=s9.1) (rIxP (kb:=kStp) (pr:=fun (z:((Stp)×((Int)×Int)))=>z.1) (rV .fz (kP2 kStp (kP2 kI kI)) s21)) trivial rfl) (fun (s22:List (Stp))=>gPrim1 (pSet 5 (rIxP (kb:=(kP2 kI kI)) (pr:=fun (z:((Stp)×((Int)×Int)))=>z.2) (rV .fz (kP2 kStp (kP2 kI kI)) s21)) trivial) (fun (s23:((Int)×Int))=>gOk (s:=Ctl.nx ((s22,s23))) ⟨_,.inl rfl,rfl⟩)))) (fun _=>trivial)) (fun (s24:((List (Stp))×(((Int)×Int))))=>gRet (argsC (rIxT (rIxT (rV .fz (kT (kT (kO kI))) s4) (rV .fz kI (0:Int))) (rV .fz kI (0:Int))) (fun (y38:Option (Int))=>argsC (rTupL (rV (.bw 1) (kL kStp) s24.1)) (fun (y39:List (Stp))=>argsC (argsC (rV .fz (kT kS) v_elder) (fun (y35:List (List Nat))=>argsC (rV .fz (kT kS) v_copy) (fun (y36:List (List Nat))=>argsC (rV .fz (kT kI) v_prices) (fun (y37:List (Int))=>argsN (rCallB [(kT kS) y35,(kT kS) y36,(kT kI) y37] (t_price_table y35 y36 y37)))))) (fun (y40:List (List (Option (Int))))=>argsE (tv .fz (kP3 (kO kI) (kT kStp) (kT (kT (kO kI))))) ((y38,y39,y40):((Option (Int))×(List (Stp))×List (List (Option (Int))))) rfl)))) (fun (r43:((Option (Int))×(List (Stp))×List (List (Option (Int)))))=>gOk (s:=r43) (.inl ⟨_,rfl⟩)) trivial) (fun z=>nomatch z))))):RefG (tv .fz (kP3 (kO kI) (kT kStp) (kT (kT (kO kI))))) (d_least_slips [(kT kS) v_elder,(kT kS) v_copy,(kT kI) v_prices]) _)
theorem t_many_from(v_elder:List (List Nat))(v_copy:List (List Nat))(v_prices:List (Int))(v_rest:List (List (Option (Int)))):RefG (tv (.ow 2) (kL (kL (kO kI)))) (d_many_from [(kT kS) v_elder,(kT kS) v_copy,(kT kI) v_prices,(kT (kT (kO kI))) v_rest]) (f_many_from v_elder v_copy v_prices v_rest) :=
 (tFn (gPrim (pSetO 4 (RefG.co (f':=tv (.ow 2) (kL (kL (kO kI)))) (c:=(List.map (List.map (fun _=>none)))) (argsC (rV .fz (kT kS) v_elder) (fun (y3:List (List Nat))=>argsC (rV .fz (kT kS) v_copy) (fun (y4:List (List Nat))=>argsN (rCallB [(kT kS) y3,(kT kS) y4] (t_empty_table y3 y4))))) (fun z=>congrArg (Prod.mk (Tg.ow 2)) ((coL (coL (fun _=>rfl)):∀ z,(kL (kL (kO kI))) ((List.map (List.map (fun _=>none))) z)=(kL (kL kN)) z) z))) trivial) (fun (s6:List (List (Option (Int))))=>gPrim (pFor (fun (s7:((List (List (Option (Int))))))=>[some (.fz,(kT kS) v_elder),some (.fz,(kT kS) v_copy),some (.fz,(kT kI) v_prices),some (.fz,(kT (kT (kO kI))) v_rest),some (.ow 2,(kL (kL (kO kI))) s7),none,none,none,none,none]) s6 (iRevR (rAddI (rLenT (rV .fz (kT kS) v_elder)) (rV .fz kI (1:Int)))) rfl (fun (s7:((List (List (Option (Int)))))) (x8:Int)=>⟨_,rfl,gPrim1 (pFor (fun (s9:((List (List (Option (Int))))))=>[some (.fz,(kT kS) v_elder),some (.fz,(kT kS) v_copy),some (.fz,(kT kI) v_prices),some (.fz,(kT (kT (kO kI))) v_rest),some (.ow 2,(kL (kL (kO kI))) s9),some (.fz,kI x8),none,none,none,none]) s7 (iRevR (rAddI (rLenT (rV .fz (kT kS) v_copy)) (rV .fz kI (1:Int)))) rfl (fun (s9:((List (List (Option (Int)))))) (x10:Int)=>⟨_,rfl,gPrim (pSet 7 (argsC (rV .fz (kT kS) v_elder) (fun (y11:List (List Nat))=>argsC (rV .fz (kT kS) v_copy) (fun (y12:List (List Nat))=>argsC (rV .fz kI x8) (fun (y13:Int)=>argsC (rV .fz kI x10) (fun (y14:Int)=>argsC (rV .fz (kT kI) v_prices) (fun (y15:List (Int))=>argsC (rV .fz (kT (kT (kO kI))) v_rest) (fun (y16:List (List (Option (Int))))=>argsN (rCallB [(kT kS) y11,(kT kS) y12,kI y13,kI y14,(kT kI) y15,(kT (kT (kO kI))) y16] (t_cheapest_ends y11 y12 y13 y14 y15 y16))))))))) trivial) (fun (s17:List (((Stp)×((Int)×Int))))=>gPrim (pSetIx2 4 (RefG.co (f':=tv .fz (kO kI)) (c:=some) (rSum (rLM (iSeqL (rV .fz (kL (kP2 kStp (kP2 kI kI))) s17)) (fun (z22:((Stp)×((Int)×Int)))=>⟨_,rfl,rGetO (rIxL (rIxL (rV (.bw 2) (kL (kL (kO kI))) s9) (rIxP (kb:=kI) (pr:=fun (z:((Int)×Int))=>z.1) (rV .fz (kP2 kI kI) z22.2))) (rIxP (kb:=kI) (pr:=fun (z:((Int)×Int))=>z.2) (rV .fz (kP2 kI kI) z22.2)))⟩))) (fun _=>rfl)) (rV .fz kI x8) (rV .fz kI x10) trivial (l:=s9) rfl) (fun (s30:List (List (Option (Int))))=>gIf (xA (xV (rEq (rV .fz kI x8) (rLenT (rV .fz (kT kS) v_elder)))) (xV (rEq (rV .fz kI x10) (rLenT (rV .fz (kT kS) v_copy))))) (gPrim1 (pSetIx2 4 (RefG.co (f':=tv .fz (kO kI)) (c:=some) (rV .fz kI (1:Int)) (fun _=>rfl)) (rV .fz kI x8) (rV .fz kI x10) trivial (l:=s30) rfl) (fun (s33:List (List (Option (Int))))=>gOk (s:=s33) ⟨_,.inl rfl,rfl⟩)) (gNil1 (gOk (s:=s30) ⟨_,.inl rfl,rfl⟩)) trivial))⟩) trivial) (fun (s36:((List (List (Option (Int))))))=>gOk (s:=s36) ⟨_,.inl rfl,rfl⟩)⟩) trivial) (fun (s38:((List (List (Option (Int))))))=>gRetV 4 rfl (gOk (s:=s38) (.inl ⟨_,rfl⟩))))):RefG (tv (.ow 2) (kL (kL (kO kI)))) (d_many_from [(kT kS) v_elder,(kT kS) v_copy,(kT kI) v_prices,(kT (kT (kO kI))) v_rest]) _)
theorem t_cheapest_many(v_elder:List (List Nat))(v_copy:List (List Nat))(v_prices:List (Int)):RefG (tv .fz (kO kI)) (d_cheapest_many [(kT kS) v_elder,(kT kS) v_copy,(kT kI) v_prices]) (f_cheapest_many v_elder v_copy v_prices) :=
 (tFn (gRet (rIxL (rIxL (argsC (rV .fz (kT kS) v_elder) (fun (y20:List (List Nat))=>argsC (rV .fz (kT kS) v_copy) (fun (y21:List (List Nat))=>argsC (rV .fz (kT kI) v_prices) (fun (y22:List (Int))=>argsC (argsC (rV .fz (kT kS) v_elder) (fun (y17:List (List Nat))=>argsC (rV .fz (kT kS) v_copy) (fun (y18:List (List Nat))=>argsC (rV .fz (kT kI) v_prices) (fun (y19:List (Int))=>argsN (rCallB [(kT kS) y17,(kT kS) y18,(kT kI) y19] (t_rest_table y17 y18 y19)))))) (fun (y23:List (List (Option (Int))))=>argsN (rCallB [(kT kS) y20,(kT kS) y21,(kT kI) y22,(kT (kT (kO kI))) y23] (t_many_from y20 y21 y22 y23))))))) (rV .fz kI (0:Int))) (rV .fz kI (0:Int))) (fun (r27:Option (Int))=>gOk (s:=r27) (.inl ⟨_,rfl⟩)) trivial):RefG (tv .fz (kO kI)) (d_cheapest_many [(kT kS) v_elder,(kT kS) v_copy,(kT kI) v_prices]) _)
theorem t_many_to(v_elder:List (List Nat))(v_copy:List (List Nat))(v_prices:List (Int))(v_rest:List (List (Option (Int)))):RefG (tv (.ow 2) (kL (kL (kO kI)))) (d_many_to [(kT kS) v_elder,(kT kS) v_copy,(kT kI) v_prices,(kT (kT (kO kI))) v_rest]) (f_many_to v_elder v_copy v_prices v_rest) :=
 (tFn (gPrim (pSetO 4 (RefG.co (f':=tv (.ow 2) (kL (kL (kO kI)))) (c:=(List.map (List.map (fun _=>none)))) (argsC (rV .fz (kT kS) v_elder) (fun (y3:List (List Nat))=>argsC (rV .fz (kT kS) v_copy) (fun (y4:List (List Nat))=>argsN (rCallB [(kT kS) y3,(kT kS) y4] (t_empty_table y3 y4))))) (fun z=>congrArg (Prod.mk (Tg.ow 2)) ((coL (coL (fun _=>rfl)):∀ z,(kL (kL (kO kI))) ((List.map (List.map (fun _=>none))) z)=(kL (kL kN)) z) z))) trivial) (fun (s6:List (List (Option (Int))))=>gPrim (pSetIx2 4 (RefG.co (f':=tv .fz (kO kI)) (c:=some) (rV .fz kI (1:Int)) (fun _=>rfl)) (rV .fz kI (0:Int)) (rV .fz kI (0:Int)) trivial (l:=s6) rfl) (fun (s9:List (List (Option (Int))))=>gPrim (pFor (fun (s10:((List (List (Option (Int))))))=>[some (.fz,(kT kS) v_elder),some (.fz,(kT kS) v_copy),some (.fz,(kT kI) v_prices),some (.fz,(kT (kT (kO kI))) v_rest),some (.ow 2,(kL (kL (kO kI))) s10),none,none,none,none]) s9 (iRng (rAddI (rLenT (rV .fz (kT kS) v_elder)) (rV .fz kI (1:Int)))) rfl (fun (s10:((List (List (Option (Int)))))) (x11:Int)=>⟨_,rfl,gPrim1 (pFor (fun (s12:((List (List (Option (Int))))))=>[some (.fz,(kT kS) v_elder),some (.fz,(kT kS) v_copy),some (.fz,(kT kI) v_prices),some (.fz,(kT (kT (kO kI))) v_rest),some (.ow 2,(kL (kL (kO kI))) s12),some (.fz,kI x11),none,none,none]) s10 (iRng (rAddI (rLenT (rV .fz (kT kS) v_copy)) (rV .fz kI (1:Int)))) rfl (fun (s12:((List (List (Option (Int)))))) (x13:Int)=>⟨_,rfl,gIf (xV (rNotN (rIxL (rIxL (rV (.bw 2) (kL (kL (kO kI))) s12) (rV .fz kI x11)) (rV .fz kI x13)))) (gPrim1 (pFor (fun (s16:((List (List (Option (Int))))))=>[some (.fz,(kT kS) v_elder),some (.fz,(kT kS) v_copy),some (.fz,(kT kI) v_prices),some (.fz,(kT (kT (kO kI))) v_rest),some (.ow 2,(kL (kL (kO kI))) s16),some (.fz,kI x11),some (.fz,kI x13),none,none]) s12 (iSeqL (argsC (rV .fz (kT kS) v_elder) (fun (y17:List (List Nat))=>argsC (rV .fz (kT kS) v_copy) (fun (y18:List (List Nat))=>argsC (rV .fz kI x11) (fun (y19:Int)=>argsC (rV .fz kI x13) (fun (y20:Int)=>argsC (rV .fz (kT kI) v_prices) (fun (y21:List (Int))=>argsC (rV .fz (kT (kT (kO kI))) v_rest) (fun (y22:List (List (Option (Int))))=>argsN (rCallB [(kT kS) y17,(kT kS) y18,kI y19,kI y20,(kT kI) y21,(kT (kT (kO kI))) y22] (t_cheapest_ends y17 y18 y19 y20 y21 y22)))))))))) rfl (fun (s16:((List (List (Option (Int)))))) (x23:((Stp)×((Int)×Int)))=>⟨_,rfl,gPrim1 (pSetIx2 4 (RefG.co (f':=tv .fz (kO kI)) (c:=some) (rAddI (rOrN (rIxL (rIxL (rV (.bw 2) (kL (kL (kO kI))) s16) (rIxP (kb:=kI) (pr:=fun (z:((Int)×Int))=>z.1) (rV .fz (kP2 kI kI) x23.2))) (rIxP (kb:=kI) (pr:=fun (z:((Int)×Int))=>z.2) (rV .fz (kP2 kI kI) x23.2))) (rV .fz kI (0:Int))) (rGetO (rIxL (rIxL (rV (.bw 2) (kL (kL (kO kI))) s16) (rV .fz kI x11)) (rV .fz kI x13)))) (fun _=>rfl)) (rIxP (kb:=kI) (pr:=fun (z:((Int)×Int))=>z.1) (rV .fz (kP2 kI kI) x23.2)) (rIxP (kb:=kI) (pr:=fun (z:((Int)×Int))=>z.2) (rV .fz (kP2 kI kI) x23.2)) trivial (l:=s16) rfl) (fun (s40:List (List (Option (Int))))=>gOk (s:=s40) ⟨_,.inl rfl,rfl⟩)⟩) trivial) (fun (s42:((List (List (Option (Int))))))=>gOk (s:=s42) ⟨_,.inl rfl,rfl⟩)) (gNil1 (gOk (s:=s12) ⟨_,.inl rfl,rfl⟩)) trivial⟩) trivial) (fun (s45:((List (List (Option (Int))))))=>gOk (s:=s45) ⟨_,.inl rfl,rfl⟩)⟩) trivial) (fun (s47:((List (List (Option (Int))))))=>gRetV 4 rfl (gOk (s:=s47) (.inl ⟨_,rfl⟩)))))):RefG (tv (.ow 2) (kL (kL (kO kI)))) (d_many_to [(kT kS) v_elder,(kT kS) v_copy,(kT kI) v_prices,(kT (kT (kO kI))) v_rest]) _)
theorem t_sure_pairs(v_elder:List (List Nat))(v_copy:List (List Nat))(v_prices:List (Int)):RefG (tv .fz (kT (kP2 kI kI))) (d_sure_pairs [(kT kS) v_elder,(kT kS) v_copy,(kT kI) v_prices]) (f_sure_pairs v_elder v_copy v_prices) :=
 (tFn (gPrim (pSet 3 (argsC (rV .fz (kT kS) v_elder) (fun (y1:List (List Nat))=>argsC (rV .fz (kT kS) v_copy) (fun (y2:List (List Nat))=>argsC (rV .fz (kT kI) v_prices) (fun (y3:List (Int))=>argsN (rCallB [(kT kS) y1,(kT kS) y2,(kT kI) y3] (t_rest_table y1 y2 y3)))))) trivial) (fun (s4:List (List (Option (Int))))=>gPrim (pSet 4 (argsC (rV .fz (kT kS) v_elder) (fun (y5:List (List Nat))=>argsC (rV .fz (kT kS) v_copy) (fun (y6:List (List Nat))=>argsC (rV .fz (kT kI) v_prices) (fun (y7:List (Int))=>argsC (rV .fz (kT (kT (kO kI))) s4) (fun (y8:List (List (Option (Int))))=>argsN (rCallB [(kT kS) y5,(kT kS) y6,(kT kI) y7,(kT (kT (kO kI))) y8] (t_many_to y5 y6 y7 y8))))))) trivial) (fun (s9:List (List (Option (Int))))=>gPrim (pSet 5 (argsC (rV .fz (kT kS) v_elder) (fun (y10:List (List Nat))=>argsC (rV .fz (kT kS) v_copy) (fun (y11:List (List Nat))=>argsC (rV .fz (kT kI) v_prices) (fun (y12:List (Int))=>argsC (rV .fz (kT (kT (kO kI))) s4) (fun (y13:List (List (Option (Int))))=>argsN (rCallB [(kT kS) y10,(kT kS) y11,(kT kI) y12,(kT (kT (kO kI))) y13] (t_many_from y10 y11 y12 y13))))))) trivial) (fun (s14:List (List (Option (Int))))=>gPrim (pSetO 6 (rV (.ow 1) (kL (kP2 kI kI)) ([]:List (((Int)×Int)))) trivial) (fun (s15:List (((Int)×Int)))=>gPrim (pFor (fun (s16:((List (((Int)×Int)))))=>[some (.fz,(kT kS) v_elder),some (.fz,(kT kS) v_copy),some (.fz,(kT kI) v_prices),some (.fz,(kT (kT (kO kI))) s4),some (.fz,(kL (kL (kO kI))) s9),some (.fz,(kL (kL (kO kI))) s14),some (.ow 1,(kL (kP2 kI kI)) s16),none,none,none]) s15 (iRng (rLenT (rV .fz (kT kS) v_elder))) rfl (fun (s16:((List (((Int)×Int))))) (x17:Int)=>⟨_,rfl,gPrim1 (pFor (fun (s18:((List (((Int)×Int)))))=>[some (.fz,(kT kS) v_elder),some (.fz,(kT kS) v_copy),some (.fz,(kT kI) v_prices),some (.fz,(kT (kT (kO kI))) s4),some (.fz,(kL (kL (kO kI))) s9),some (.fz,(kL (kL (kO kI))) s14),some (.ow 1,(kL (kP2 kI kI)) s18),some (.fz,kI x17),none,none]) s16 (iRng (rLenT (rV .fz (kT kS) v_copy))) rfl (fun (s18:((List (((Int)×Int))))) (x19:Int)=>⟨_,rfl,gPrim (pSet 9 (rAnd (rEq (rIxT (rV .fz (kT kS) v_elder) (rV .fz kI x17)) (rIxT (rV .fz (kT kS) v_copy) (rV .fz kI x19))) (rEq (rIxT (rIxT (rV .fz (kT (kT (kO kI))) s4) (rAddI (rV .fz kI x17) (rV .fz kI (1:Int)))) (rAddI (rV .fz kI x19) (rV .fz kI (1:Int)))) (rIxT (rIxT (rV .fz (kT (kT (kO kI))) s4) (rV .fz kI x17)) (rV .fz kI x19)))) trivial) (fun (s29:Bool)=>gIf (xA (xV (rV .fz kB s29)) (xA (xV (rNotN (rIxL (rIxL (rV .fz (kL (kL (kO kI))) s9) (rV .fz kI x17)) (rV .fz kI x19)))) (xV (rEq (RefG.co (f':=tv .fz (kO kI)) (c:=some) (rMul2 (rGetO (rIxL (rIxL (rV .fz (kL (kL (kO kI))) s9) (rV .fz kI x17)) (rV .fz kI x19))) (rGetO (rIxL (rIxL (rV .fz (kL (kL (kO kI))) s14) (rAddI (rV .fz kI x17) (rV .fz kI (1:Int)))) (rAddI (rV .fz kI x19) (rV .fz kI (1:Int)))))) (fun _=>rfl)) (rIxL (rIxL (rV .fz (kL (kL (kO kI))) s14) (rV .fz kI (0:Int))) (rV .fz kI (0:Int))))))) (gPrim1 (pApp 6 (l:=s18) (argsC (rV .fz kI x17) (fun (y52:Int)=>argsC (rV .fz kI x19) (fun (y53:Int)=>argsE (tv .fz (kP2 kI kI)) ((y52,y53):((Int)×Int)) rfl))) trivial rfl) (fun (s54:List (((Int)×Int)))=>gOk (s:=s54) ⟨_,.inl rfl,rfl⟩)) (gNil1 (gOk (s:=s18) ⟨_,.inl rfl,rfl⟩)) trivial)⟩) trivial) (fun (s57:((List (((Int)×Int)))))=>gOk (s:=s57) ⟨_,.inl rfl,rfl⟩)⟩) trivial) (fun (s59:((List (((Int)×Int)))))=>gRet (rTupL (rV (.bw 1) (kL (kP2 kI kI)) s59)) (fun (r60:List (((Int)×Int)))=>gOk (s:=r60) (.inl ⟨_,rfl⟩)) trivial)))))):RefG (tv .fz (kT (kP2 kI kI))) (d_sure_pairs [(kT kS) v_elder,(kT kS) v_copy,(kT kI) v_prices]) _)
theorem t_law_cell_at(v_script:List (Int))(v_k:Int):RefG (tv .fz kI) (d_law_cell_at [(kL kI) v_script,kI v_k]) (f_law_cell_at v_script v_k) :=
 (tFn (gIfD (xV (rLt (rV .fz kI v_k) (rLenL (rV .fz (kL kI) v_script)))) (gRetS (rIxL (rV .fz (kL kI) v_script) (rV .fz kI v_k)) (fun (r1:Int)=>gOk (s:=r1) (.inl ⟨_,rfl⟩)) trivial) (gNil (gRet (rV .fz kI (0:Int)) (fun (r3:Int)=>gOk (s:=r3) (.inl ⟨_,rfl⟩)) trivial)) trivial):RefG (tv .fz kI) (d_law_cell_at [(kL kI) v_script,kI v_k]) _)
theorem t_law_stir(v_cell:Int):RefG (tv .fz kI) (d_law_stir [kI v_cell]) (f_law_stir v_cell) :=
 (tFn (gRet (rModC (rMul2 (rV .fz kI v_cell) (rV .fz kI (105172331949523456789012345678901234567:Int)))) (fun (r3:Int)=>gOk (s:=r3) (.inl ⟨_,rfl⟩)) trivial):RefG (tv .fz kI) (d_law_stir [kI v_cell]) _)
theorem t_law_next(v_left:Int):RefG (tv .fz kI) (d_law_next [kI v_left]) (f_law_next v_left) :=
 (tFn (gRet (rModC (rMul2 (rV .fz kI v_left) (rV .fz kI (83492791123456789012345678901234567891:Int)))) (fun (r3:Int)=>gOk (s:=r3) (.inl ⟨_,rfl⟩)) trivial):RefG (tv .fz kI) (d_law_next [kI v_left]) _)
theorem t_law_same(n:Nat)(v_found:PV)(v_due:PV):RefG (tv .fz kB) (d_law_same n [kV v_found,kV v_due]) (f_law_same n v_found v_due):=RefG.asB
theorem t_law_word_v1(v_seed:Int)(v_code:Int):RefG (tv .fz kS) (d_law_word_v1 [kI v_seed,kI v_code]) (f_law_word_v1 v_seed v_code) :=
 (tFn (gPrim (pSet 2 (rV .fz kS ([97,98,99,100,101,102,103,104,105,106,107,108,109,110,111,112,113,114,115,116,117,118,119,120,121,122]:List Nat)) trivial) (fun (s1:List Nat)=>gPrim (pSet 3 (rAddI (rV .fz kI (1:Int)) (rModC (rV .fz kI v_seed))) trivial) (fun (s2:Int)=>gPrim (pSet 4 (rFdivC (rV .fz kI v_seed)) trivial) (fun (s3:Int)=>gPrim (pSet 5 (rV .fz kS ([]:List Nat)) trivial) (fun (s4:List Nat)=>gPrim (pFor (fun (s5:((Int)×(List Nat)))=>[some (.fz,kI v_seed),some (.fz,kI v_code),some (.fz,kS s1),some (.fz,kI s2),some (.fz,kI s5.1),some (.fz,kS s5.2),none,none]) ((s3,s4)) (iRng (rV .fz kI s2)) rfl (fun (s5:((Int)×(List Nat))) (x6:Int)=>⟨_,rfl,gPrim (pSet 7 (rV .fz kI (0:Int)) trivial) (fun (s7:Int)=>gPrim (u':=fun (s10:((Int)))=>[some (.fz,kI v_seed),some (.fz,kI v_code),some (.fz,kS s1),some (.fz,kI s2),some (.fz,kI s5.1),some (.fz,kS s5.2),some (.fz,kI x6),some (.fz,kI s10)]) (gIf (β:=((Int))) (Post:=NxP (fun (s10:((Int))) Γ'=>Γ'=[some (.fz,kI v_seed),some (.fz,kI v_code),some (.fz,kS s1),some (.fz,kI s2),some (.fz,kI s5.1),some (.fz,kS s5.2),some (.fz,kI x6),some (.fz,kI s10)])) (xV (rEq (rV .fz kI x6) (rMod (rFdivC (rV .fz kI v_code)) (rV .fz kI s2)))) (gPrim1 (pSet 7 (rModC (rV .fz kI v_code)) trivial) (fun (s12:Int)=>gOk (s:=s12) ⟨_,rfl,rfl⟩)) (gNil1 (gOk (s:=s7) ⟨_,rfl,rfl⟩)) trivial) (fun s10=>gPrim (pSet 5 (rAddS (rV .fz kS s5.2) (rIxS (rV .fz kS s1) (rModC (rAddI (rV .fz kI s5.1) (rV .fz kI s10))))) trivial) (fun (s14:List Nat)=>gPrim1 (pSet 4 (rFdivC (rV .fz kI s5.1)) trivial) (fun (s15:Int)=>gOk (s:=(s15,s14)) ⟨_,.inl rfl,rfl⟩))))⟩) trivial) (fun (s18:((Int)×(List Nat)))=>gPrim (u':=fun (s20:((List Nat)))=>[some (.fz,kI v_seed),some (.fz,kI v_code),some (.fz,kS s1),some (.fz,kI s2),some (.fz,kI s18.1),some (.fz,kS s20),none,none]) (gIf (β:=((List Nat))) (Post:=NxP (fun (s20:((List Nat))) Γ'=>Γ'=[some (.fz,kI v_seed),some (.fz,kI v_code),some (.fz,kS s1),some (.fz,kI s2),some (.fz,kI s18.1),some (.fz,kS s20),none,none])) (xA (xV (rEq (rV .fz kI v_code) (rV .fz kI (9:Int)))) (xV (rLt (rV .fz kI s2) (rV .fz kI (12:Int))))) (gPrim1 (pSet 5 (rAddS (rV .fz kS s18.2) (rV .fz kS ([113]:List Nat))) trivial) (fun (s22:List Nat)=>gOk (s:=s22) ⟨_,rfl,rfl⟩)) (gNil1 (gOk (s:=s18.2) ⟨_,rfl,rfl⟩)) trivial) (fun s20=>gRetV 5 rfl (gOk (s:=s20) (.inl ⟨_,rfl⟩))))))))):RefG (tv .fz kS) (d_law_word_v1 [kI v_seed,kI v_code]) _)
theorem t_law_prices(v_cell:Int):RefG (tv .fz (kT kI)) (d_law_prices [kI v_cell]) (f_law_prices v_cell) :=
 (tFn (gPrim (pSet 1 (argsC (rV .fz kI v_cell) (fun (y1:Int)=>argsN (rCallB [kI y1] (t_law_stir y1)))) trivial) (fun (s2:Int)=>gPrim (pSetO 2 (rV (.ow 1) (kL kI) ([]:List (Int))) trivial) (fun (s3:List (Int))=>gPrim (pFor (fun (s4:((Int)×(List (Int))))=>[some (.fz,kI v_cell),some (.fz,kI s4.1),some (.ow 1,(kL kI) s4.2),none,none]) ((s2,s3)) (iRng (rV .fz kI (7:Int))) rfl (fun (s4:((Int)×(List (Int)))) (x5:Int)=>⟨_,rfl,gPrim (pSet 4 (rModC (rFdivC (rV .fz kI s4.1))) trivial) (fun (s6:Int)=>gPrim (u':=fun (s8:((Int)))=>[some (.fz,kI v_cell),some (.fz,kI s4.1),some (.ow 1,(kL kI) s4.2),some (.fz,kI x5),some (.fz,kI s8)]) (gIf (β:=((Int))) (Post:=NxP (fun (s8:((Int))) Γ'=>Γ'=[some (.fz,kI v_cell),some (.fz,kI s4.1),some (.ow 1,(kL kI) s4.2),some (.fz,kI x5),some (.fz,kI s8)])) (xV (rEq (rModC (rV .fz kI s4.1)) (rV .fz kI (1:Int)))) (gPrim1 (pSet 4 (rModC (rFdivC (rV .fz kI s4.1))) trivial) (fun (s10:Int)=>gOk (s:=s10) ⟨_,rfl,rfl⟩)) (gNil1 (gOk (s:=s6) ⟨_,rfl,rfl⟩)) trivial) (fun s8=>gPrim (u':=fun (s13:((Int)))=>[some (.fz,kI v_cell),some (.fz,kI s4.1),some (.ow 1,(kL kI) s4.2),some (.fz,kI x5),some (.fz,kI s13)]) (gIf (β:=((Int))) (Post:=NxP (fun (s13:((Int))) Γ'=>Γ'=[some (.fz,kI v_cell),some (.fz,kI s4.1),some (.ow 1,(kL kI) s4.2),some (.fz,kI x5),some (.fz,kI s13)])) (xA (xV (rEq (rModC (rV .fz kI s4.1)) (rV .fz kI (2:Int)))) (xV (rEq (rModC (rV .fz kI v_cell)) (rV .fz kI (1:Int))))) (gPrim1 (pSet 4 (rMod (rFdiv (rV .fz kI v_cell) (rAddI (rV .fz kI x5) (rV .fz kI (1:Int)))) (rAddI (rPowC 10 30) (rV .fz kI (1:Int)))) trivial) (fun (s16:Int)=>gOk (s:=s16) ⟨_,rfl,rfl⟩)) (gNil1 (gOk (s:=s8) ⟨_,rfl,rfl⟩)) trivial) (fun s13=>gPrim (pApp 2 (l:=s4.2) (rV .fz kI s13) trivial rfl) (fun (s17:List (Int))=>gPrim1 (pSet 1 (argsC (rV .fz kI s4.1) (fun (y18:Int)=>argsN (rCallB [kI y18] (t_law_next y18)))) trivial) (fun (s19:Int)=>gOk (s:=(s19,s17)) ⟨_,.inl rfl,rfl⟩)))))⟩) trivial) (fun (s22:((Int)×(List (Int))))=>gRet (rTupL (rV (.bw 1) (kL kI) s22.2)) (fun (r23:List (Int))=>gOk (s:=r23) (.inl ⟨_,rfl⟩)) trivial)))):RefG (tv .fz (kT kI)) (d_law_prices [kI v_cell]) _)
theorem t_law_eye(v_elder:List (List Nat))(v_left:Int)(v_seed:Int)(v_most:Int):RefG (tv (.ow 1) (kL kS)) (d_law_eye [(kL kS) v_elder,kI v_left,kI v_seed,kI v_most]) (f_law_eye v_elder v_left v_seed v_most) :=
 (tFn (gPrim (pSet 4 (rMax2 (rV .fz kI (0:Int)) (rMin2 (rModC (rFdivC (rV .fz kI v_left))) (rSub (rV .fz kI v_most) (rLenL (rV .fz (kL kS) v_elder))))) trivial) (fun (s1:Int)=>gRet (rAddL (rLM (iRng (rV .fz kI s1)) (fun (z43:Int)=>⟨_,rfl,argsC (rV .fz kI v_seed) (fun (y50:Int)=>argsC (rModC (rAddI (rFdivC (rV .fz kI v_left)) (rMul2 (rMul2 (rV .fz kI (7:Int)) (rV .fz kI z43)) (rV .fz kI z43)))) (fun (y51:Int)=>argsN (rCallB [kI y50,kI y51] (t_law_word_v1 y50 y51))))⟩)) (argsC (rIxL (rV .fz (kL kS) v_elder) (rNeg (rV .fz kI (1:Int)))) (fun (y54:List Nat)=>argsE (tv (.ow 1) (kL kS)) ([y54]:List (List Nat)) rfl))) (fun (r58:List (List Nat))=>gOk (s:=r58) (.inl ⟨_,rfl⟩)) trivial)):RefG (tv (.ow 1) (kL kS)) (d_law_eye [(kL kS) v_elder,kI v_left,kI v_seed,kI v_most]) _)
theorem t_law_slip(v_elder:List (List Nat))(v_copy:List (List Nat))(v_steps:List (Stp))(v_left:Int)(v_words:List (List Nat)):RefG (fun (r:((List (List Nat))×(List (List Nat))×(List (Stp))))=>[(kL kS) r.1,(kL kS) r.2.1,(kL kStp) r.2.2,kI v_left,(kL kS) v_words]) (d_law_slip [(kL kS) v_elder,(kL kS) v_copy,(kL kStp) v_steps,kI v_left,(kL kS) v_words]) (f_law_slip v_elder v_copy v_steps v_left v_words) :=
 (tFnM (gPrim (pSet 5 (rIxL (rV .fz (kL kS) v_words) (rV .fz kI (0:Int))) trivial) (fun (s1:List Nat)=>gPrim (pSet 6 (rIxL (rV .fz (kL kS) v_words) (rV .fz kI (1:Int))) trivial) (fun (s2:List Nat)=>gPrim (pSet 7 (rModC (rV .fz kI v_left)) trivial) (fun (s3:Int)=>gIf (xA (xV (rEq (rV .fz kI s3) (rV .fz kI (3:Int)))) (xV (rNe (rV .fz kS s1) (rV .fz kS s2)))) (gPrim (pApp 0 (l:=v_elder) (rV .fz kS s1) trivial rfl) (fun (s4:List (List Nat))=>gPrim (pApp 1 (l:=v_copy) (rV .fz kS s2) trivial rfl) (fun (s5:List (List Nat))=>gPrim1 (pApp 2 (l:=v_steps) (argsK (.fz,.str [116,117,114,110]) (argsC (rV .fz kS s2) (fun (y7:List Nat)=>argsE (tv .fz kStp) (Stp.turn y7) rfl))) trivial rfl) (fun (s8:List (Stp))=>gOk (s:=(s4,s5,s8)) ⟨_,rfl,rfl⟩)))) (gIf (xV (rEq (rV .fz kI s3) (rV .fz kI (4:Int)))) (gPrim (pApp 0 (l:=v_elder) (rV .fz kS s1) trivial rfl) (fun (s9:List (List Nat))=>gPrim1 (pApp 2 (l:=v_steps) (rV .fz kStp Stp.lose) trivial rfl) (fun (s10:List (Stp))=>gOk (s:=(s9,v_copy,s10)) ⟨_,rfl,rfl⟩))) (gIf (xV (rEq (rV .fz kI s3) (rV .fz kI (5:Int)))) (gPrim (pApp 1 (l:=v_copy) (rV .fz kS s1) trivial rfl) (fun (s11:List (List Nat))=>gPrim1 (pApp 2 (l:=v_steps) (argsK (.fz,.str [97,100,100]) (argsC (rV .fz kS s1) (fun (y13:List Nat)=>argsE (tv .fz kStp) (Stp.add y13) rfl))) trivial rfl) (fun (s14:List (Stp))=>gOk (s:=(v_elder,s11,s14)) ⟨_,rfl,rfl⟩))) (gIf (xA (xV (rEq (rV .fz kI s3) (rV .fz kI (6:Int)))) (xV (rNe (rV (.bw 1) (kL kS) v_copy) (rV (.ow 1) (kL kS) ([]:List (List Nat)))))) (gPrim (pApp 1 (l:=v_copy) (rIxL (rV (.bw 1) (kL kS) v_copy) (rNeg (rV .fz kI (1:Int)))) trivial rfl) (fun (s16:List (List Nat))=>gPrim1 (pApp 2 (l:=v_steps) (rV .fz kStp Stp.twice) trivial rfl) (fun (s17:List (Stp))=>gOk (s:=(v_elder,s16,s17)) ⟨_,rfl,rfl⟩))) (gIf (xA (xV (rEq (rV .fz kI s3) (rV .fz kI (7:Int)))) (xV (rNe (rV .fz kS s1) (rV .fz kS s2)))) (gPrim (pExtL 0 (l:=v_elder) (argsC (rV .fz kS s1) (fun (y20:List Nat)=>argsC (rV .fz kS s2) (fun (y21:List Nat)=>argsE (tv (.ow 1) (kL kS)) ([y20,y21]:List (List Nat)) rfl))) trivial rfl) (fun (s22:List (List Nat))=>gPrim (pExtL 1 (l:=v_copy) (argsC (rV .fz kS s2) (fun (y25:List Nat)=>argsC (rV .fz kS s1) (fun (y26:List Nat)=>argsE (tv (.ow 1) (kL kS)) ([y25,y26]:List (List Nat)) rfl))) trivial rfl) (fun (s27:List (List Nat))=>gPrim1 (pApp 2 (l:=v_steps) (rV .fz kStp Stp.swap) trivial rfl) (fun (s28:List (Stp))=>gOk (s:=(s22,s27,s28)) ⟨_,rfl,rfl⟩)))) (gPrim (pApp 0 (l:=v_elder) (rV .fz kS s1) trivial rfl) (fun (s29:List (List Nat))=>gPrim (pApp 1 (l:=v_copy) (rV .fz kS s1) trivial rfl) (fun (s30:List (List Nat))=>gPrim1 (pApp 2 (l:=v_steps) (rV .fz kStp Stp.keep) trivial rfl) (fun (s31:List (Stp))=>gOk (s:=(s29,s30,s31)) ⟨_,rfl,rfl⟩)))) trivial) trivial) trivial) trivial) trivial)))):RefG (fun (r:((List (List Nat))×(List (List Nat))×(List (Stp))))=>[(kL kS) r.1,(kL kS) r.2.1,(kL kStp) r.2.2,kI v_left,(kL kS) v_words]) (d_law_slip [(kL kS) v_elder,(kL kS) v_copy,(kL kStp) v_steps,kI v_left,(kL kS) v_words]) _)
theorem t_law_pair_v2(v_cells:List (Int))(v_seed:Int)(v_most:Int):RefG (tv .fz (kP3 (kT kS) (kT kS) (kT kStp))) (d_law_pair_v2 [(kL kI) v_cells,kI v_seed,kI v_most]) (f_law_pair_v2 v_cells v_seed v_most) :=
 (tFn (gPrim (pSetO 3 (rV (.ow 1) (kL kS) ([]:List (List Nat))) trivial) (fun (s1:List (List Nat))=>gPrim (pSetO 4 (rV (.ow 1) (kL kS) ([]:List (List Nat))) trivial) (fun (s2:List (List Nat))=>gPrim (pSetO 5 (rV (.ow 1) (kL kStp) ([]:List (Stp))) trivial) (fun (s3:List (Stp))=>gPrim (pFor (fun (s4:((List (List Nat))×(List (List Nat))×(List (Stp))))=>[some (.fz,(kL kI) v_cells),some (.fz,kI v_seed),some (.fz,kI v_most),some (.ow 1,(kL kS) s4.1),some (.ow 1,(kL kS) s4.2.1),some (.ow 1,(kL kStp) s4.2.2),none,none,none,none]) ((s1,s2,s3)) (iSeqL (rV .fz (kL kI) v_cells)) rfl (fun (s4:((List (List Nat))×(List (List Nat))×(List (Stp)))) (x5:Int)=>⟨_,rfl,gPrim (pSet 7 (argsC (rV .fz kI x5) (fun (y6:Int)=>argsN (rCallB [kI y6] (t_law_stir y6)))) trivial) (fun (s7:Int)=>gIf (xA (xV (rEq (rModC (rV .fz kI s7)) (rV .fz kI (8:Int)))) (xV (rNe (rV (.bw 1) (kL kS) s4.1) (rV (.ow 1) (kL kS) ([]:List (List Nat)))))) (gPrim (pSet 8 (argsC (rV (.bw 1) (kL kS) s4.1) (fun (y8:List (List Nat))=>argsC (rV .fz kI s7) (fun (y9:Int)=>argsC (rV .fz kI v_seed) (fun (y10:Int)=>argsC (rV .fz kI v_most) (fun (y11:Int)=>argsN (rCallS [(kL kS) y8,kI y9,kI y10,kI y11] (t_law_eye y8 y9 y10 y11) st_ow1)))))) trivial) (fun (s12:List (List Nat))=>gPrim (pExtL 3 (l:=s4.1) (rV .fz (kL kS) s12) trivial rfl) (fun (s13:List (List Nat))=>gPrim1 (pApp 5 (l:=s4.2.2) (argsK (.fz,.str [115,107,105,112]) (argsC (rLenL (rV .fz (kL kS) s12)) (fun (y15:Int)=>argsE (tv .fz kStp) (Stp.skip y15) rfl))) trivial rfl) (fun (s16:List (Stp))=>gOk (s:=(s13,s4.2.1,s16)) ⟨_,.inl rfl,rfl⟩)))) (gPrim (pSet 9 (argsC (argsC (rV .fz kI v_seed) (fun (y21:Int)=>argsC (rModC (rFdivC (rV .fz kI s7))) (fun (y22:Int)=>argsN (rCallB [kI y21,kI y22] (t_law_word_v1 y21 y22))))) (fun (y25:List Nat)=>argsC (argsC (rV .fz kI v_seed) (fun (y23:Int)=>argsC (rModC (rFdivC (rV .fz kI s7))) (fun (y24:Int)=>argsN (rCallB [kI y23,kI y24] (t_law_word_v1 y23 y24))))) (fun (y26:List Nat)=>argsE (tv (.ow 1) (kL kS)) ([y25,y26]:List (List Nat)) rfl))) trivial) (fun (s29:List (List Nat))=>gPrim1 (pCallM (t_law_slip s4.1 s4.2.1 s4.2.2 s7 s29) rfl (fun _=>rfl) (fun _ h=>noExc_ne h)) (fun (s30:((List (List Nat))×(List (List Nat))×(List (Stp))))=>gOk (s:=(s30.1,s30.2.1,s30.2.2)) ⟨_,.inl rfl,rfl⟩))) trivial)⟩) trivial) (fun (s32:((List (List Nat))×(List (List Nat))×(List (Stp))))=>gRet (argsC (rTupL (rV (.bw 1) (kL kS) s32.1)) (fun (y36:List (List Nat))=>argsC (rTupL (rV (.bw 1) (kL kS) s32.2.1)) (fun (y37:List (List Nat))=>argsC (rTupL (rV (.bw 1) (kL kStp) s32.2.2)) (fun (y38:List (Stp))=>argsE (tv .fz (kP3 (kT kS) (kT kS) (kT kStp))) ((y36,y37,y38):((List (List Nat))×(List (List Nat))×List (Stp))) rfl)))) (fun (r39:((List (List Nat))×(List (List Nat))×List (Stp)))=>gOk (s:=r39) (.inl ⟨_,rfl⟩)) trivial))))):RefG (tv .fz (kP3 (kT kS) (kT kS) (kT kStp))) (d_law_pair_v2 [(kL kI) v_cells,kI v_seed,kI v_most]) _)
theorem t_law_pairs(v_script:List (Int))(v_many:Int):RefG (tv (.ow 1) (kL (kP2 (kT kS) (kT kS)))) (d_law_pairs [(kL kI) v_script,kI v_many]) (f_law_pairs v_script v_many) :=
 (tFn (gPrim (pSet 2 (argsC (argsC (rV .fz (kL kI) v_script) (fun (y3:List (Int))=>argsC (rV .fz kI (0:Int)) (fun (y4:Int)=>argsN (rCallB [(kL kI) y3,kI y4] (t_law_cell_at y3 y4))))) (fun (y5:Int)=>argsN (rCallB [kI y5] (t_law_stir y5)))) trivial) (fun (s7:Int)=>gPrim (pSet 3 (rSlL (rV .fz (kL kI) v_script) (oS (rV .fz kI (2:Int))) (oN)) trivial) (fun (s8:List (Int))=>gPrim (pSetO 4 (argsC (argsC (rV .fz (kT kS) ([]:List (List Nat))) (fun (y14:List (List Nat))=>argsC (rV .fz (kT kS) ([]:List (List Nat))) (fun (y15:List (List Nat))=>argsE (tv .fz (kP2 (kT kS) (kT kS))) ((y14,y15):((List (List Nat))×List (List Nat))) rfl))) (fun (y16:((List (List Nat))×List (List Nat)))=>argsE (tv (.ow 1) (kL (kP2 (kT kS) (kT kS)))) ([y16]:List (((List (List Nat))×List (List Nat)))) rfl)) trivial) (fun (s17:List (((List (List Nat))×List (List Nat))))=>gPrim (pFor (fun (s18:((List (((List (List Nat))×List (List Nat))))))=>[some (.fz,(kL kI) v_script),some (.fz,kI v_many),some (.fz,kI s7),some (.fz,(kL kI) s8),some (.ow 1,(kL (kP2 (kT kS) (kT kS))) s18),none,none,none]) s17 (iRng3P (rV .fz kI (0:Int)) (rLenL (rV .fz (kL kI) s8)) (rV .fz kI v_many)) rfl (fun (s18:((List (((List (List Nat))×List (List Nat)))))) (x19:Int)=>⟨_,rfl,gPrim (pSet 6 (argsC (rSlL (rV .fz (kL kI) s8) (oS (rV .fz kI x19)) (oS (rAddI (rV .fz kI x19) (rV .fz kI v_many)))) (fun (y20:List (Int))=>argsC (rV .fz kI s7) (fun (y21:Int)=>argsC (rV .fz kI (7:Int)) (fun (y22:Int)=>argsN (rCallB [(kL kI) y20,kI y21,kI y22] (t_law_pair_v2 y20 y21 y22)))))) trivial) (fun (s23:((List (List Nat))×(List (List Nat))×List (Stp)))=>gPrim (pApp 4 (l:=s18) (argsC (rSlT (rIxP (kb:=(kT kS)) (pr:=fun (z:((List (List Nat))×(List (List Nat))×List (Stp)))=>z.1) (rV .fz (kP3 (kT kS) (kT kS) (kT kStp)) s23)) (oN) (oS (rV .fz kI (7:Int)))) (fun (y26:List (List Nat))=>argsC (rSlT (rIxP (kb:=(kT kS)) (pr:=fun (z:((List (List Nat))×(List (List Nat))×List (Stp)))=>z.2.1) (rV .fz (kP3 (kT kS) (kT kS) (kT kStp)) s23)) (oN) (oS (rV .fz kI (7:Int)))) (fun (y27:List (List Nat))=>argsE (tv .fz (kP2 (kT kS) (kT kS))) ((y26,y27):((List (List Nat))×List (List Nat))) rfl))) trivial rfl) (fun (s28:List (((List (List Nat))×List (List Nat))))=>gIf (xV (rEq (rModC (rIxL (rV .fz (kL kI) s8) (rV .fz kI x19))) (rV .fz kI (2:Int)))) (gPrim1 (pSetIx 4 (argsC (rSlT (rIxP (kb:=(kT kS)) (pr:=fun (z:((List (List Nat))×(List (List Nat))×List (Stp)))=>z.1) (rV .fz (kP3 (kT kS) (kT kS) (kT kStp)) s23)) (oN) (oS (rV .fz kI (7:Int)))) (fun (y34:List (List Nat))=>argsC (rSlT (rRevT (rIxP (kb:=(kT kS)) (pr:=fun (z:((List (List Nat))×(List (List Nat))×List (Stp)))=>z.2.1) (rV .fz (kP3 (kT kS) (kT kS) (kT kStp)) s23))) (oN) (oS (rV .fz kI (7:Int)))) (fun (y35:List (List Nat))=>argsE (tv .fz (kP2 (kT kS) (kT kS))) ((y34,y35):((List (List Nat))×List (List Nat))) rfl))) (rNeg (rV .fz kI (1:Int))) trivial (l:=s28) rfl) (fun (s36:List (((List (List Nat))×List (List Nat))))=>gOk (s:=s36) ⟨_,.inl rfl,rfl⟩)) (gNil1 (gOk (s:=s28) ⟨_,.inl rfl,rfl⟩)) trivial))⟩) trivial) (fun (s39:((List (((List (List Nat))×List (List Nat))))))=>gSeqJ (u:=fun (s72:((List (((List (List Nat))×List (List Nat)))))) (g73:Sl×Sl)=>[some (.fz,(kL kI) v_script),some (.fz,kI v_many),some (.fz,kI s7),some (.fz,(kL kI) s8),some (.ow 1,(kL (kP2 (kT kS) (kT kS))) s72),none,g73.1,g73.2]) (gIf (β:=((List (((List (List Nat))×List (List Nat)))))) (Post:=NxP (fun (s72:((List (((List (List Nat))×List (List Nat)))))) Γ'=>∃ g73:Sl×Sl,Γ'=[some (.fz,(kL kI) v_script),some (.fz,kI v_many),some (.fz,kI s7),some (.fz,(kL kI) s8),some (.ow 1,(kL (kP2 (kT kS) (kT kS))) s72),none,g73.1,g73.2])) (xV (rEq (rModC (argsC (rV .fz (kL kI) v_script) (fun (y43:List (Int))=>argsC (rV .fz kI (0:Int)) (fun (y44:Int)=>argsN (rCallB [(kL kI) y43,kI y44] (t_law_cell_at y43 y44)))))) (rV .fz kI (1:Int)))) (gPrim (pSet 6 (argsC (rSlL (rV .fz (kL kI) s8) (oN) (oS (rV .fz kI (24:Int)))) (fun (y74:List (Int))=>argsC (rV .fz kI s7) (fun (y75:Int)=>argsC (rV .fz kI (36:Int)) (fun (y76:Int)=>argsN (rCallB [(kL kI) y74,kI y75,kI y76] (t_law_pair_v2 y74 y75 y76)))))) trivial) (fun (s77:((List (List Nat))×(List (List Nat))×List (Stp)))=>gPrim (pSet 7 (rIxL (argsC (argsC (rV .fz kI (40:Int)) (fun (y82:Int)=>argsC (rV .fz kI (3:Int)) (fun (y83:Int)=>argsE (tv .fz (kP2 kI kI)) ((y82,y83):((Int)×Int)) rfl))) (fun (y86:((Int)×Int))=>argsC (argsC (rV .fz kI (3:Int)) (fun (y84:Int)=>argsC (rV .fz kI (40:Int)) (fun (y85:Int)=>argsE (tv .fz (kP2 kI kI)) ((y84,y85):((Int)×Int)) rfl))) (fun (y87:((Int)×Int))=>argsE (tv (.ow 1) (kL (kP2 kI kI))) ([y86,y87]:List (((Int)×Int))) rfl))) (rModC (rFdivC (argsC (rV .fz (kL kI) v_script) (fun (y88:List (Int))=>argsC (rV .fz kI (0:Int)) (fun (y89:Int)=>argsN (rCallB [(kL kI) y88,kI y89] (t_law_cell_at y88 y89)))))))) trivial) (fun (s93:((Int)×Int))=>gPrim1 (pApp 4 (l:=s39) (argsC (rSlT (rIxP (kb:=(kT kS)) (pr:=fun (z:((List (List Nat))×(List (List Nat))×List (Stp)))=>z.1) (rV .fz (kP3 (kT kS) (kT kS) (kT kStp)) s77)) (oN) (oS (rIxP (kb:=kI) (pr:=fun (z:((Int)×Int))=>z.1) (rV .fz (kP2 kI kI) s93)))) (fun (y96:List (List Nat))=>argsC (rSlT (rIxP (kb:=(kT kS)) (pr:=fun (z:((List (List Nat))×(List (List Nat))×List (Stp)))=>z.2.1) (rV .fz (kP3 (kT kS) (kT kS) (kT kStp)) s77)) (oN) (oS (rIxP (kb:=kI) (pr:=fun (z:((Int)×Int))=>z.2) (rV .fz (kP2 kI kI) s93)))) (fun (y97:List (List Nat))=>argsE (tv .fz (kP2 (kT kS) (kT kS))) ((y96,y97):((List (List Nat))×List (List Nat))) rfl))) trivial rfl) (fun (s98:List (((List (List Nat))×List (List Nat))))=>gOk (s:=s98) ⟨_,rfl,(some (.fz,(kP3 (kT kS) (kT kS) (kT kStp)) s77),some (.fz,(kP2 kI kI) s93)),rfl⟩)))) (gNil1 (gOk (s:=s39) ⟨_,rfl,(none,none),rfl⟩)) trivial) (fun s72 g73=>gRetV 4 rfl (gOk (s:=s72) (.inl ⟨_,rfl⟩)))))))):RefG (tv (.ow 1) (kL (kP2 (kT kS) (kT kS)))) (d_law_pairs [(kL kI) v_script,kI v_many]) _)
theorem t_law_steps_v1(v_elder:List (List Nat))(v_copy:List (List Nat))(v_i:Int)(v_j:Int):RefG (tv (.ow 1) (kL kStp)) (d_law_steps_v1 [(kT kS) v_elder,(kT kS) v_copy,kI v_i,kI v_j]) (f_law_steps_v1 v_elder v_copy v_i v_j) :=
 (tFn (gPrim (pSetO 4 (rV (.ow 1) (kL kStp) ([]:List (Stp))) trivial) (fun (s1:List (Stp))=>gPrim (pSet 5 (rSlT (rV .fz (kT kS) v_elder) (oS (rV .fz kI v_i)) (oS (rAddI (rV .fz kI v_i) (rV .fz kI (1:Int))))) trivial) (fun (s2:List (List Nat))=>gPrim (pSet 6 (rSlT (rV .fz (kT kS) v_copy) (oS (rV .fz kI v_j)) (oS (rAddI (rV .fz kI v_j) (rV .fz kI (1:Int))))) trivial) (fun (s3:List (List Nat))=>gPrim (u':=fun (s12:((List (Stp))))=>[some (.fz,(kT kS) v_elder),some (.fz,(kT kS) v_copy),some (.fz,kI v_i),some (.fz,kI v_j),some (.ow 1,(kL kStp) s12),some (.fz,(kT kS) s2),some (.fz,(kT kS) s3),none,none]) (gIf (β:=((List (Stp)))) (Post:=NxP (fun (s12:((List (Stp)))) Γ'=>Γ'=[some (.fz,(kT kS) v_elder),some (.fz,(kT kS) v_copy),some (.fz,kI v_i),some (.fz,kI v_j),some (.ow 1,(kL kStp) s12),some (.fz,(kT kS) s2),some (.fz,(kT kS) s3),none,none])) (xA (xV (rNe (rV .fz (kT kS) s2) (rV .fz (kT kS) ([]:List (List Nat))))) (xV (rEq (rV .fz (kT kS) s3) (rV .fz (kT kS) s2)))) (gPrim1 (pApp 4 (l:=s1) (rV .fz kStp Stp.keep) trivial rfl) (fun (s14:List (Stp))=>gOk (s:=s14) ⟨_,rfl,rfl⟩)) (gIf (xA (xV (rNe (rV .fz (kT kS) s2) (rV .fz (kT kS) ([]:List (List Nat))))) (xV (rNe (rV .fz (kT kS) s3) (rV .fz (kT kS) ([]:List (List Nat)))))) (gPrim1 (pApp 4 (l:=s1) (argsK (.fz,.str [116,117,114,110]) (argsC (rIxT (rV .fz (kT kS) s3) (rV .fz kI (0:Int))) (fun (y17:List Nat)=>argsE (tv .fz kStp) (Stp.turn y17) rfl))) trivial rfl) (fun (s20:List (Stp))=>gOk (s:=s20) ⟨_,rfl,rfl⟩)) (gNil1 (gOk (s:=s1) ⟨_,rfl,rfl⟩)) trivial) trivial) (fun s12=>gPrim (u':=fun (s23:((List (Stp))))=>[some (.fz,(kT kS) v_elder),some (.fz,(kT kS) v_copy),some (.fz,kI v_i),some (.fz,kI v_j),some (.ow 1,(kL kStp) s23),some (.fz,(kT kS) s2),some (.fz,(kT kS) s3),none,none]) (gIf (β:=((List (Stp)))) (Post:=NxP (fun (s23:((List (Stp)))) Γ'=>Γ'=[some (.fz,(kT kS) v_elder),some (.fz,(kT kS) v_copy),some (.fz,kI v_i),some (.fz,kI v_j),some (.ow 1,(kL kStp) s23),some (.fz,(kT kS) s2),some (.fz,(kT kS) s3),none,none])) (xV (rNe (rV .fz (kT kS) s2) (rV .fz (kT kS) ([]:List (List Nat))))) (gPrim1 (pApp 4 (l:=s12) (rV .fz kStp Stp.lose) trivial rfl) (fun (s25:List (Stp))=>gOk (s:=s25) ⟨_,rfl,rfl⟩)) (gNil1 (gOk (s:=s12) ⟨_,rfl,rfl⟩)) trivial) (fun s23=>gPrim (u':=fun (s32:((List (Stp))))=>[some (.fz,(kT kS) v_elder),some (.fz,(kT kS) v_copy),some (.fz,kI v_i),some (.fz,kI v_j),some (.ow 1,(kL kStp) s32),some (.fz,(kT kS) s2),some (.fz,(kT kS) s3),none,none]) (gIf (β:=((List (Stp)))) (Post:=NxP (fun (s32:((List (Stp)))) Γ'=>Γ'=[some (.fz,(kT kS) v_elder),some (.fz,(kT kS) v_copy),some (.fz,kI v_i),some (.fz,kI v_j),some (.ow 1,(kL kStp) s32),some (.fz,(kT kS) s2),some (.fz,(kT kS) s3),none,none])) (xV (rNe (rV .fz (kT kS) s3) (rV .fz (kT kS) ([]:List (List Nat))))) (gPrim1 (pApp 4 (l:=s23) (argsK (.fz,.str [97,100,100]) (argsC (rIxT (rV .fz (kT kS) s3) (rV .fz kI (0:Int))) (fun (y36:List Nat)=>argsE (tv .fz kStp) (Stp.add y36) rfl))) trivial rfl) (fun (s39:List (Stp))=>gOk (s:=s39) ⟨_,rfl,rfl⟩)) (gNil1 (gOk (s:=s23) ⟨_,rfl,rfl⟩)) trivial) (fun s32=>gPrim (u':=fun (s41:((List (Stp))))=>[some (.fz,(kT kS) v_elder),some (.fz,(kT kS) v_copy),some (.fz,kI v_i),some (.fz,kI v_j),some (.ow 1,(kL kStp) s41),some (.fz,(kT kS) s2),some (.fz,(kT kS) s3),none,none]) (gIf (β:=((List (Stp)))) (Post:=NxP (fun (s41:((List (Stp)))) Γ'=>Γ'=[some (.fz,(kT kS) v_elder),some (.fz,(kT kS) v_copy),some (.fz,kI v_i),some (.fz,kI v_j),some (.ow 1,(kL kStp) s41),some (.fz,(kT kS) s2),some (.fz,(kT kS) s3),none,none])) (xA (xV (rNe (rV .fz (kT kS) s3) (rV .fz (kT kS) ([]:List (List Nat))))) (xV (rEq (rSlT (rSlT (rV .fz (kT kS) v_copy) (oN) (oS (rV .fz kI v_j))) (oS (rNeg (rV .fz kI (1:Int)))) (oN)) (rV .fz (kT kS) s3)))) (gPrim1 (pApp 4 (l:=s32) (rV .fz kStp Stp.twice) trivial rfl) (fun (s43:List (Stp))=>gOk (s:=s43) ⟨_,rfl,rfl⟩)) (gNil1 (gOk (s:=s32) ⟨_,rfl,rfl⟩)) trivial) (fun s41=>gPrim (pSet 7 (rSlT (rV .fz (kT kS) v_elder) (oS (rV .fz kI v_i)) (oS (rAddI (rV .fz kI v_i) (rV .fz kI (2:Int))))) trivial) (fun (s44:List (List Nat))=>gPrim (u':=fun (s49:((List (Stp))))=>[some (.fz,(kT kS) v_elder),some (.fz,(kT kS) v_copy),some (.fz,kI v_i),some (.fz,kI v_j),some (.ow 1,(kL kStp) s49),some (.fz,(kT kS) s2),some (.fz,(kT kS) s3),some (.fz,(kT kS) s44),none]) (gIf (β:=((List (Stp)))) (Post:=NxP (fun (s49:((List (Stp)))) Γ'=>Γ'=[some (.fz,(kT kS) v_elder),some (.fz,(kT kS) v_copy),some (.fz,kI v_i),some (.fz,kI v_j),some (.ow 1,(kL kStp) s49),some (.fz,(kT kS) s2),some (.fz,(kT kS) s3),some (.fz,(kT kS) s44),none])) (xA (xV (rEq (rLenT (rV .fz (kT kS) s44)) (rV .fz kI (2:Int)))) (xA (xV (rNe (rIxT (rV .fz (kT kS) s44) (rV .fz kI (0:Int))) (rIxT (rV .fz (kT kS) s44) (rV .fz kI (1:Int))))) (xV (rEq (rSlT (rV .fz (kT kS) v_copy) (oS (rV .fz kI v_j)) (oS (rAddI (rV .fz kI v_j) (rV .fz kI (2:Int))))) (rRevT (rV .fz (kT kS) s44)))))) (gPrim1 (pApp 4 (l:=s41) (rV .fz kStp Stp.swap) trivial rfl) (fun (s51:List (Stp))=>gOk (s:=s51) ⟨_,rfl,rfl⟩)) (gNil1 (gOk (s:=s41) ⟨_,rfl,rfl⟩)) trivial) (fun s49=>gPrim (pFor (fun (s52:((List (Stp))))=>[some (.fz,(kT kS) v_elder),some (.fz,(kT kS) v_copy),some (.fz,kI v_i),some (.fz,kI v_j),some (.ow 1,(kL kStp) s52),some (.fz,(kT kS) s2),some (.fz,(kT kS) s3),some (.fz,(kT kS) s44),none]) s49 (iRng2 (rV .fz kI (1:Int)) (rAddI (rSub (rLenT (rV .fz (kT kS) v_elder)) (rV .fz kI v_i)) (rV .fz kI (1:Int)))) rfl (fun (s52:((List (Stp)))) (x53:Int)=>⟨_,rfl,gIf (xA (xV (rGt (rV .fz kI v_i) (rV .fz kI (0:Int)))) (xV (rEq (rIxT (rV .fz (kT kS) v_elder) (rSub (rV .fz kI v_i) (rV .fz kI (1:Int)))) (rIxT (rV .fz (kT kS) v_elder) (rSub (rAddI (rV .fz kI v_i) (rV .fz kI x53)) (rV .fz kI (1:Int))))))) (gPrim1 (pApp 4 (l:=s52) (argsK (.fz,.str [115,107,105,112]) (argsC (rV .fz kI x53) (fun (y57:Int)=>argsE (tv .fz kStp) (Stp.skip y57) rfl))) trivial rfl) (fun (s58:List (Stp))=>gOk (s:=s58) ⟨_,.inl rfl,rfl⟩)) (gNil1 (gOk (s:=s52) ⟨_,.inl rfl,rfl⟩)) trivial⟩) trivial) (fun (s61:((List (Stp))))=>gRetV 4 rfl (gOk (s:=s61) (.inl ⟨_,rfl⟩))))))))))))):RefG (tv (.ow 1) (kL kStp)) (d_law_steps_v1 [(kT kS) v_elder,(kT kS) v_copy,kI v_i,kI v_j]) _)
theorem t_law_alike_v4(v_one:List Nat)(v_two:List Nat):RefG (tv .fz kB) (d_law_alike_v4 [kS v_one,kS v_two]) (f_law_alike_v4 v_one v_two) :=
 (tFn (gRet (rAnd (rEq (rLenS (rV .fz kS v_one)) (rLenS (rV .fz kS v_two))) (rEq (rLenL (rLC (iRng (rLenS (rV .fz kS v_one))) (fun (z17:Int)=>⟨_,rfl,xV (rNe (rIxS (rV .fz kS v_one) (rV .fz kI z17)) (rIxS (rV .fz kS v_two) (rV .fz kI z17))),rV .fz kI z17⟩))) (rV .fz kI (1:Int)))) (fun (r23:Bool)=>gOk (s:=r23) (.inl ⟨_,rfl⟩)) trivial):RefG (tv .fz kB) (d_law_alike_v4 [kS v_one,kS v_two]) _)
theorem t_law_price_v1(v_elder:List (List Nat))(v_i:Int)(v_step:Stp)(v_prices:List (Int)):RefG (tv .fz kI) (d_law_price_v1 [(kT kS) v_elder,kI v_i,kStp v_step,(kT kI) v_prices]) (f_law_price_v1 v_elder v_i v_step v_prices) :=
 (tFn (gIfD (xV (rEq (rStp0 (rV .fz kStp v_step)) (rV .fz kS ([107,101,101,112]:List Nat)))) (gRetS (rV .fz kI (0:Int)) (fun (r1:Int)=>gOk (s:=r1) (.inl ⟨_,rfl⟩)) trivial) (gNil (gIfD (xV (rEq (rStp0 (rV .fz kStp v_step)) (rV .fz kS ([116,117,114,110]:List Nat)))) (gRetS (rIxT (rV .fz (kT kI) v_prices) (rSub (rV .fz kI (1:Int)) (rIntB (argsC (rIxT (rV .fz (kT kS) v_elder) (rV .fz kI v_i)) (fun (y9:List Nat)=>argsC (rDecS (rStp1 (rV .fz kStp v_step))) (fun (y10:List Nat)=>argsN (rCallB [kS y9,kS y10] (t_law_alike_v4 y9 y10)))))))) (fun (r16:Int)=>gOk (s:=r16) (.inl ⟨_,rfl⟩)) trivial) (gNil (gRet (rIxT (rV .fz (kT kI) v_prices) (rAddI (rV .fz kI (2:Int)) (rIndexQL (rV (.ow 1) (kL kS) ([([108,111,115,101]:List Nat),([97,100,100]:List Nat),([116,119,105,99,101]:List Nat),([115,119,97,112]:List Nat),([115,107,105,112]:List Nat)]:List (List Nat))) (rStp0 (rV .fz kStp v_step))))) (fun (r22:Int)=>gOk (s:=r22) (.inl ⟨_,rfl⟩)) trivial)) trivial)) trivial):RefG (tv .fz kI) (d_law_price_v1 [(kT kS) v_elder,kI v_i,kStp v_step,(kT kI) v_prices]) _)
theorem t_law_end(v_i:Int)(v_j:Int)(v_step:Stp):RefG (tv .fz (kP2 kI kI)) (d_law_end [kI v_i,kI v_j,kStp v_step]) (f_law_end v_i v_j v_step) :=
 (tFn (gPrim (pSet 3 (rDicN ([[107,101,101,112],[116,117,114,110],[108,111,115,101],[97,100,100],[116,119,105,99,101],[115,119,97,112]]:List (List Nat)) (argsC (argsC (rV .fz kI (1:Int)) (fun (y13:Int)=>argsC (rV .fz kI (1:Int)) (fun (y14:Int)=>argsE (tv .fz (kP2 kI kI)) ((y13,y14):((Int)×Int)) rfl))) (fun (y25:((Int)×Int))=>argsC (argsC (rV .fz kI (1:Int)) (fun (y15:Int)=>argsC (rV .fz kI (1:Int)) (fun (y16:Int)=>argsE (tv .fz (kP2 kI kI)) ((y15,y16):((Int)×Int)) rfl))) (fun (y26:((Int)×Int))=>argsC (argsC (rV .fz kI (1:Int)) (fun (y17:Int)=>argsC (rV .fz kI (0:Int)) (fun (y18:Int)=>argsE (tv .fz (kP2 kI kI)) ((y17,y18):((Int)×Int)) rfl))) (fun (y27:((Int)×Int))=>argsC (argsC (rV .fz kI (0:Int)) (fun (y19:Int)=>argsC (rV .fz kI (1:Int)) (fun (y20:Int)=>argsE (tv .fz (kP2 kI kI)) ((y19,y20):((Int)×Int)) rfl))) (fun (y28:((Int)×Int))=>argsC (argsC (rV .fz kI (0:Int)) (fun (y21:Int)=>argsC (rV .fz kI (1:Int)) (fun (y22:Int)=>argsE (tv .fz (kP2 kI kI)) ((y21,y22):((Int)×Int)) rfl))) (fun (y29:((Int)×Int))=>argsC (argsC (rV .fz kI (2:Int)) (fun (y23:Int)=>argsC (rV .fz kI (2:Int)) (fun (y24:Int)=>argsE (tv .fz (kP2 kI kI)) ((y23,y24):((Int)×Int)) rfl))) (fun (y30:((Int)×Int))=>argsE (List.map (kP2 kI kI)) ([y25,y26,y27,y28,y29,y30]:List (((Int)×Int))) rfl)))))))) trivial) (fun (s32:List ((List Nat)×(((Int)×Int))))=>gIfD (xV (rEq (rStp0 (rV .fz kStp v_step)) (rV .fz kS ([115,107,105,112]:List Nat)))) (gRetS (argsC (rAddI (rV .fz kI v_i) (rDecI (rStp1 (rV .fz kStp v_step)))) (fun (y38:Int)=>argsC (rV .fz kI v_j) (fun (y39:Int)=>argsE (tv .fz (kP2 kI kI)) ((y38,y39):((Int)×Int)) rfl))) (fun (r41:((Int)×Int))=>gOk (s:=r41) (.inl ⟨_,rfl⟩)) trivial) (gNil (gRet (argsC (rAddI (rV .fz kI v_i) (rIxP (kb:=kI) (pr:=fun (z:((Int)×Int))=>z.1) (rDIdx (rV .fz (kD kS (kP2 kI kI)) s32) (rStp0 (rV .fz kStp v_step))))) (fun (y55:Int)=>argsC (rAddI (rV .fz kI v_j) (rIxP (kb:=kI) (pr:=fun (z:((Int)×Int))=>z.2) (rDIdx (rV .fz (kD kS (kP2 kI kI)) s32) (rStp0 (rV .fz kStp v_step))))) (fun (y56:Int)=>argsE (tv .fz (kP2 kI kI)) ((y55,y56):((Int)×Int)) rfl))) (fun (r59:((Int)×Int))=>gOk (s:=r59) (.inl ⟨_,rfl⟩)) trivial)) trivial)):RefG (tv .fz (kP2 kI kI)) (d_law_end [kI v_i,kI v_j,kStp v_step]) _)
theorem t_law_arms(v_elder:List (List Nat))(v_copy:List (List Nat))(v_prices:List (Int))(v_i:Int)(v_j:Int):RefG (tv (.ow 1) (kL (kP3 kStp (kP2 kI kI) kI))) (d_law_arms [(kT kS) v_elder,(kT kS) v_copy,(kT kI) v_prices,kI v_i,kI v_j]) (f_law_arms v_elder v_copy v_prices v_i v_j) :=
 (tFn (gPrim (pSetO 5 (rV (.ow 1) (kL (kP3 kStp (kP2 kI kI) kI)) ([]:List (((Stp)×(((Int)×Int))×Int)))) trivial) (fun (s1:List (((Stp)×(((Int)×Int))×Int)))=>gPrim (pFor (fun (s2:((List (((Stp)×(((Int)×Int))×Int)))))=>[some (.fz,(kT kS) v_elder),some (.fz,(kT kS) v_copy),some (.fz,(kT kI) v_prices),some (.fz,kI v_i),some (.fz,kI v_j),some (.ow 1,(kL (kP3 kStp (kP2 kI kI) kI)) s2),none]) s1 (iSeqL (argsC (rV .fz (kT kS) v_elder) (fun (y3:List (List Nat))=>argsC (rV .fz (kT kS) v_copy) (fun (y4:List (List Nat))=>argsC (rV .fz kI v_i) (fun (y5:Int)=>argsC (rV .fz kI v_j) (fun (y6:Int)=>argsN (rCallB [(kT kS) y3,(kT kS) y4,kI y5,kI y6] (t_law_steps_v1 y3 y4 y5 y6)))))))) rfl (fun (s2:((List (((Stp)×(((Int)×Int))×Int))))) (x7:Stp)=>⟨_,rfl,gPrim1 (pApp 5 (l:=s2) (argsC (rV .fz kStp x7) (fun (y27:Stp)=>argsC (argsC (rV .fz kI v_i) (fun (y20:Int)=>argsC (rV .fz kI v_j) (fun (y21:Int)=>argsC (rV .fz kStp x7) (fun (y22:Stp)=>argsN (rCallB [kI y20,kI y21,kStp y22] (t_law_end y20 y21 y22)))))) (fun (y28:((Int)×Int))=>argsC (argsC (rV .fz (kT kS) v_elder) (fun (y23:List (List Nat))=>argsC (rV .fz kI v_i) (fun (y24:Int)=>argsC (rV .fz kStp x7) (fun (y25:Stp)=>argsC (rV .fz (kT kI) v_prices) (fun (y26:List (Int))=>argsN (rCallB [(kT kS) y23,kI y24,kStp y25,(kT kI) y26] (t_law_price_v1 y23 y24 y25 y26))))))) (fun (y29:Int)=>argsE (tv .fz (kP3 kStp (kP2 kI kI) kI)) ((y27,y28,y29):((Stp)×(((Int)×Int))×Int)) rfl)))) trivial rfl) (fun (s33:List (((Stp)×(((Int)×Int))×Int)))=>gOk (s:=s33) ⟨_,.inl rfl,rfl⟩)⟩) trivial) (fun (s35:((List (((Stp)×(((Int)×Int))×Int)))))=>gRetV 5 rfl (gOk (s:=s35) (.inl ⟨_,rfl⟩))))):RefG (tv (.ow 1) (kL (kP3 kStp (kP2 kI kI) kI))) (d_law_arms [(kT kS) v_elder,(kT kS) v_copy,(kT kI) v_prices,kI v_i,kI v_j]) _)
theorem t_law_knots(v_elder:List (List Nat))(v_copy:List (List Nat)):RefG (tv (.ow 1) (kL (kP2 kI kI))) (d_law_knots [(kT kS) v_elder,(kT kS) v_copy]) (f_law_knots v_elder v_copy) :=
 (tFn (gPrim (pSetO 2 (rV (.ow 1) (kL (kP2 kI kI)) ([]:List (((Int)×Int)))) trivial) (fun (s1:List (((Int)×Int)))=>gPrim (pFor (fun (s2:((List (((Int)×Int)))))=>[some (.fz,(kT kS) v_elder),some (.fz,(kT kS) v_copy),some (.ow 1,(kL (kP2 kI kI)) s2),none,none]) s1 (iRng (rAddI (rLenT (rV .fz (kT kS) v_elder)) (rV .fz kI (1:Int)))) rfl (fun (s2:((List (((Int)×Int))))) (x3:Int)=>⟨_,rfl,gPrim1 (pFor (fun (s4:((List (((Int)×Int)))))=>[some (.fz,(kT kS) v_elder),some (.fz,(kT kS) v_copy),some (.ow 1,(kL (kP2 kI kI)) s4),some (.fz,kI x3),none]) s2 (iRng (rAddI (rLenT (rV .fz (kT kS) v_copy)) (rV .fz kI (1:Int)))) rfl (fun (s4:((List (((Int)×Int))))) (x5:Int)=>⟨_,rfl,gPrim1 (pApp 2 (l:=s4) (argsC (rV .fz kI x3) (fun (y8:Int)=>argsC (rV .fz kI x5) (fun (y9:Int)=>argsE (tv .fz (kP2 kI kI)) ((y8,y9):((Int)×Int)) rfl))) trivial rfl) (fun (s10:List (((Int)×Int)))=>gOk (s:=s10) ⟨_,.inl rfl,rfl⟩)⟩) trivial) (fun (s12:((List (((Int)×Int)))))=>gOk (s:=s12) ⟨_,.inl rfl,rfl⟩)⟩) trivial) (fun (s14:((List (((Int)×Int)))))=>gRetV 2 rfl (gOk (s:=s14) (.inl ⟨_,rfl⟩))))):RefG (tv (.ow 1) (kL (kP2 kI kI))) (d_law_knots [(kT kS) v_elder,(kT kS) v_copy]) _)
theorem t_law_all_rows(v_elder:List (List Nat))(v_copy:List (List Nat))(v_prices:List (Int)):RefG (tv .fz (kL (kP3 kI (kT kStp) (kT (kP2 kI kI))))) (d_law_all_rows [(kT kS) v_elder,(kT kS) v_copy,(kT kI) v_prices]) (f_law_all_rows v_elder v_copy v_prices) :=
 (tFn (gPrim (pSetO 3 (rDic1L true (argsC (rLenT (rV .fz (kT kS) v_elder)) (fun (y10:Int)=>argsC (rLenT (rV .fz (kT kS) v_copy)) (fun (y11:Int)=>argsE (tv .fz (kP2 kI kI)) ((y10,y11):((Int)×Int)) rfl))) (argsC (argsC (rV .fz kI (0:Int)) (fun (y12:Int)=>argsC (rV .fz (kT kStp) ([]:List (Stp))) (fun (y13:List (Stp))=>argsC (rV .fz (kT (kP2 kI kI)) ([]:List (((Int)×Int)))) (fun (y14:List (((Int)×Int)))=>argsE (tv .fz (kP3 kI (kT kStp) (kT (kP2 kI kI)))) ((y12,y13,y14):((Int)×(List (Stp))×List (((Int)×Int)))) rfl)))) (fun (y15:((Int)×(List (Stp))×List (((Int)×Int))))=>argsE (tv (.ow 1) (kL (kP3 kI (kT kStp) (kT (kP2 kI kI))))) ([y15]:List (((Int)×(List (Stp))×List (((Int)×Int))))) rfl))) trivial) (fun (s16:List ((((Int)×Int))×(List (((Int)×(List (Stp))×List (((Int)×Int)))))))=>gPrim (pFor (fun (s17:((List ((((Int)×Int))×(List (((Int)×(List (Stp))×List (((Int)×Int)))))))))=>[some (.fz,(kT kS) v_elder),some (.fz,(kT kS) v_copy),some (.fz,(kT kI) v_prices),some (.ow 2,(kD (kP2 kI kI) (kL (kP3 kI (kT kStp) (kT (kP2 kI kI))))) s17),none,none,none,none,none,none]) s16 (iRev (argsC (rV .fz (kT kS) v_elder) (fun (y18:List (List Nat))=>argsC (rV .fz (kT kS) v_copy) (fun (y19:List (List Nat))=>argsN (rCallB [(kT kS) y18,(kT kS) y19] (t_law_knots y18 y19))))) sqO) rfl (fun (s17:((List ((((Int)×Int))×(List (((Int)×(List (Stp))×List (((Int)×Int))))))))) (x21:((Int)×Int))=>⟨_,rfl,gPrim (u':=fun (s23:((List ((((Int)×Int))×(List (((Int)×(List (Stp))×List (((Int)×Int)))))))))=>[some (.fz,(kT kS) v_elder),some (.fz,(kT kS) v_copy),some (.fz,(kT kI) v_prices),some (.ow 2,(kD (kP2 kI kI) (kL (kP3 kI (kT kStp) (kT (kP2 kI kI))))) s23),some (.fz,(kP2 kI kI) x21),none,none,none,none,none]) (gIf (β:=((List ((((Int)×Int))×(List (((Int)×(List (Stp))×List (((Int)×Int))))))))) (Post:=NxP (fun (s23:((List ((((Int)×Int))×(List (((Int)×(List (Stp))×List (((Int)×Int))))))))) Γ'=>Γ'=[some (.fz,(kT kS) v_elder),some (.fz,(kT kS) v_copy),some (.fz,(kT kI) v_prices),some (.ow 2,(kD (kP2 kI kI) (kL (kP3 kI (kT kStp) (kT (kP2 kI kI))))) s23),some (.fz,(kP2 kI kI) x21),none,none,none,none,none])) (xV (rDNotIn (rV .fz (kP2 kI kI) x21) (rV (.bw 2) (kD (kP2 kI kI) (kL (kP3 kI (kT kStp) (kT (kP2 kI kI))))) s17))) (gPrim1 (pDNew 3 (d:=s17) (rV .fz (kP2 kI kI) x21) trivial rfl) (fun (s25:List ((((Int)×Int))×(List (((Int)×(List (Stp))×List (((Int)×Int)))))))=>gOk (s:=s25) ⟨_,rfl,rfl⟩)) (gNil1 (gOk (s:=s17) ⟨_,rfl,rfl⟩)) trivial) (fun s23=>gPrim1 (pFor (fun (s26:((List ((((Int)×Int))×(List (((Int)×(List (Stp))×List (((Int)×Int)))))))))=>[some (.fz,(kT kS) v_elder),some (.fz,(kT kS) v_copy),some (.fz,(kT kI) v_prices),some (.ow 2,(kD (kP2 kI kI) (kL (kP3 kI (kT kStp) (kT (kP2 kI kI))))) s26),some (.fz,(kP2 kI kI) x21),none,none,none,none,none]) s23 (iSeqL (argsC (rV .fz (kT kS) v_elder) (fun (y27:List (List Nat))=>argsC (rV .fz (kT kS) v_copy) (fun (y28:List (List Nat))=>argsC (rV .fz (kT kI) v_prices) (fun (y29:List (Int))=>argsC (rIxP (kb:=kI) (pr:=fun (z:((Int)×Int))=>z.1) (rV .fz (kP2 kI kI) x21)) (fun (y30:Int)=>argsC (rIxP (kb:=kI) (pr:=fun (z:((Int)×Int))=>z.2) (rV .fz (kP2 kI kI) x21)) (fun (y31:Int)=>argsN (rCallB [(kT kS) y27,(kT kS) y28,(kT kI) y29,kI y30,kI y31] (t_law_arms y27 y28 y29 y30 y31))))))))) rfl (fun (s26:((List ((((Int)×Int))×(List (((Int)×(List (Stp))×List (((Int)×Int))))))))) (x32:((Stp)×(((Int)×Int))×Int))=>⟨_,rfl,gPrim (pSet 8 (rV .fz (kT (kP2 kI kI)) ([]:List (((Int)×Int)))) trivial) (fun (s33:List (((Int)×Int)))=>gPrim (u':=fun (s37:((List (((Int)×Int)))))=>[some (.fz,(kT kS) v_elder),some (.fz,(kT kS) v_copy),some (.fz,(kT kI) v_prices),some (.ow 2,(kD (kP2 kI kI) (kL (kP3 kI (kT kStp) (kT (kP2 kI kI))))) s26),some (.fz,(kP2 kI kI) x21),some (.fz,kStp x32.1),some (.fz,(kP2 kI kI) x32.2.1),some (.fz,kI x32.2.2),some (.fz,(kT (kP2 kI kI)) s37),none]) (gIf (β:=((List (((Int)×Int))))) (Post:=NxP (fun (s37:((List (((Int)×Int))))) Γ'=>Γ'=[some (.fz,(kT kS) v_elder),some (.fz,(kT kS) v_copy),some (.fz,(kT kI) v_prices),some (.ow 2,(kD (kP2 kI kI) (kL (kP3 kI (kT kStp) (kT (kP2 kI kI))))) s26),some (.fz,(kP2 kI kI) x21),some (.fz,kStp x32.1),some (.fz,(kP2 kI kI) x32.2.1),some (.fz,kI x32.2.2),some (.fz,(kT (kP2 kI kI)) s37),none])) (xV (rEq (rStp0 (rV .fz kStp x32.1)) (rV .fz kS ([107,101,101,112]:List Nat)))) (gPrim1 (pSet 8 (argsC (rV .fz (kP2 kI kI) x21) (fun (y40:((Int)×Int))=>argsE (tv .fz (kT (kP2 kI kI))) ([y40]:List (((Int)×Int))) rfl)) trivial) (fun (s41:List (((Int)×Int)))=>gOk (s:=s41) ⟨_,rfl,rfl⟩)) (gNil1 (gOk (s:=s33) ⟨_,rfl,rfl⟩)) trivial) (fun s37=>gPrim1 (pForApp 3 [9] (d:=s26) (k2:=x21) (fun (x42:((Int)×(List (Stp))×List (((Int)×Int))))=>[some (.fz,(kT kS) v_elder),some (.fz,(kT kS) v_copy),some (.fz,(kT kI) v_prices),none,some (.fz,(kP2 kI kI) x21),some (.fz,kStp x32.1),some (.fz,(kP2 kI kI) x32.2.1),some (.fz,kI x32.2.2),some (.fz,(kT (kP2 kI kI)) s37),some (.fz,(kP3 kI (kT kStp) (kT (kP2 kI kI))) x42)]) (rV .fz (kP2 kI kI) x32.2.1) (rV .fz (kP2 kI kI) x21) (fun _=>rV .fz (kP2 kI kI) x21) (fun (x42:((Int)×(List (Stp))×List (((Int)×Int))))=>argsC (rAddI (rV .fz kI x32.2.2) (rIxP (kb:=kI) (pr:=fun (z:((Int)×(List (Stp))×List (((Int)×Int))))=>z.1) (rV .fz (kP3 kI (kT kStp) (kT (kP2 kI kI))) x42))) (fun (y45:Int)=>argsC (rAddT (argsC (rV .fz kStp x32.1) (fun (y44:Stp)=>argsE (tv .fz (kT kStp)) ([y44]:List (Stp)) rfl)) (rIxP (kb:=(kT kStp)) (pr:=fun (z:((Int)×(List (Stp))×List (((Int)×Int))))=>z.2.1) (rV .fz (kP3 kI (kT kStp) (kT (kP2 kI kI))) x42))) (fun (y46:List (Stp))=>argsC (rAddT (rV .fz (kT (kP2 kI kI)) s37) (rIxP (kb:=(kT (kP2 kI kI))) (pr:=fun (z:((Int)×(List (Stp))×List (((Int)×Int))))=>z.2.2) (rV .fz (kP3 kI (kT kStp) (kT (kP2 kI kI))) x42))) (fun (y47:List (((Int)×Int)))=>argsE (tv .fz (kP3 kI (kT kStp) (kT (kP2 kI kI)))) ((y45,y46,y47):((Int)×(List (Stp))×List (((Int)×Int)))) rfl)))) trivial rfl (fun _=>rfl)) (fun (s50:List ((((Int)×Int))×(List (((Int)×(List (Stp))×List (((Int)×Int)))))))=>gOk (s:=s50) ⟨_,.inl rfl,rfl⟩)))⟩) trivial) (fun (s52:((List ((((Int)×Int))×(List (((Int)×(List (Stp))×List (((Int)×Int)))))))))=>gOk (s:=s52) ⟨_,.inl rfl,rfl⟩))⟩) trivial) (fun (s54:((List ((((Int)×Int))×(List (((Int)×(List (Stp))×List (((Int)×Int)))))))))=>gFrz 3 ((kD (kP2 kI kI) (kL (kP3 kI (kT kStp) (kT (kP2 kI kI))))) s54) rfl (gRet (rDIdx (rV .fz (kD (kP2 kI kI) (kL (kP3 kI (kT kStp) (kT (kP2 kI kI))))) s54) (argsC (rV .fz kI (0:Int)) (fun (y57:Int)=>argsC (rV .fz kI (0:Int)) (fun (y58:Int)=>argsE (tv .fz (kP2 kI kI)) ((y57,y58):((Int)×Int)) rfl)))) (fun (r59:List (((Int)×(List (Stp))×List (((Int)×Int)))))=>gOk (s:=r59) (.inl ⟨_,rfl⟩)) trivial)))):RefG (tv .fz (kL (kP3 kI (kT kStp) (kT (kP2 kI kI))))) (d_law_all_rows [(kT kS) v_elder,(kT kS) v_copy,(kT kI) v_prices]) _)
theorem t_law_in_all(v_rows:List (((Int)×(List (Stp))×List (((Int)×Int))))):RefG (tv .fz (kT (kP2 kI kI))) (d_law_in_all [(kL (kP3 kI (kT kStp) (kT (kP2 kI kI)))) v_rows]) (f_law_in_all v_rows) :=
 (tFn (gRet (rTupL (rLC (iSeqT (rIxP (kb:=(kT (kP2 kI kI))) (pr:=fun (z:((Int)×(List (Stp))×List (((Int)×Int))))=>z.2.2) (rIxL (rV .fz (kL (kP3 kI (kT kStp) (kT (kP2 kI kI)))) v_rows) (rV .fz kI (0:Int))))) (fun (z10:((Int)×Int))=>⟨_,rfl,xV (rEq (rLenL (rLC (iSeqL (rV .fz (kL (kP3 kI (kT kStp) (kT (kP2 kI kI)))) v_rows)) (fun (z13:((Int)×(List (Stp))×List (((Int)×Int))))=>⟨_,rfl,xV (rInTD (rV .fz (kP2 kI kI) z10) (rIxP (kb:=(kT (kP2 kI kI))) (pr:=fun (z:((Int)×(List (Stp))×List (((Int)×Int))))=>z.2.2) (rV .fz (kP3 kI (kT kStp) (kT (kP2 kI kI))) z13))),rV .fz (kP3 kI (kT kStp) (kT (kP2 kI kI))) z13⟩))) (rLenL (rV .fz (kL (kP3 kI (kT kStp) (kT (kP2 kI kI)))) v_rows))),rV .fz (kP2 kI kI) z10⟩))) (fun (r17:List (((Int)×Int)))=>gOk (s:=r17) (.inl ⟨_,rfl⟩)) trivial):RefG (tv .fz (kT (kP2 kI kI))) (d_law_in_all [(kL (kP3 kI (kT kStp) (kT (kP2 kI kI)))) v_rows]) _)
theorem t_law_v64(v_script:List (Int)):RefG (tv .fz kB) (d_law_v64 [(kL kI) v_script]) (f_law_v64 v_script) :=
 (tFn (gPrim (pSet 1 (argsC (argsC (rV .fz (kL kI) v_script) (fun (y3:List (Int))=>argsC (rV .fz kI (1:Int)) (fun (y4:Int)=>argsN (rCallB [(kL kI) y3,kI y4] (t_law_cell_at y3 y4))))) (fun (y5:Int)=>argsN (rCallB [kI y5] (t_law_prices y5)))) trivial) (fun (s7:List (Int))=>gCtl (ret:=(fun (r77:Bool)=>Res.ok r77)) (gForT (f:=(tv .fz kB)) (fun (s8:Unit)=>[some (.fz,(kL kI) v_script),some (.fz,(kT kI) s7),none,none,none,none,none,none,none]) (()) (iSeqL (argsC (rV .fz (kL kI) v_script) (fun (y9:List (Int))=>argsC (rV .fz kI (3:Int)) (fun (y10:Int)=>argsN (rCallB [(kL kI) y9,kI y10] (t_law_pairs y9 y10)))))) rfl (fun (s8:Unit) (x11:((List (List Nat))×List (List Nat)))=>⟨_,rfl,gPrim (pSet 2 (rSlT (rV .fz (kT kS) x11.1) (oN) (oS (rV .fz kI (3:Int)))) trivial) (fun (s12:List (List Nat))=>gPrim (pSet 3 (rSlT (rV .fz (kT kS) x11.2) (oN) (oS (rV .fz kI (3:Int)))) trivial) (fun (s13:List (List Nat))=>gPrim (pSet 4 (argsC (rV .fz (kT kS) s12) (fun (y14:List (List Nat))=>argsC (rV .fz (kT kS) s13) (fun (y15:List (List Nat))=>argsC (rV .fz (kT kI) s7) (fun (y16:List (Int))=>argsN (rCallB [(kT kS) y14,(kT kS) y15,(kT kI) y16] (t_law_all_rows y14 y15 y16)))))) trivial) (fun (s17:List (((Int)×(List (Stp))×List (((Int)×Int)))))=>gPrim (pSet 5 (rMinI (rLM (iSeqL (rV .fz (kL (kP3 kI (kT kStp) (kT (kP2 kI kI)))) s17)) (fun (z18:((Int)×(List (Stp))×List (((Int)×Int))))=>⟨_,rfl,rIxP (kb:=kI) (pr:=fun (z:((Int)×(List (Stp))×List (((Int)×Int))))=>z.1) (rV .fz (kP3 kI (kT kStp) (kT (kP2 kI kI))) z18)⟩)) imL) trivial) (fun (s20:Int)=>gPrim (pSet 6 (rLC (iSeqL (rV .fz (kL (kP3 kI (kT kStp) (kT (kP2 kI kI)))) s17)) (fun (z21:((Int)×(List (Stp))×List (((Int)×Int))))=>⟨_,rfl,xV (rEq (rIxP (kb:=kI) (pr:=fun (z:((Int)×(List (Stp))×List (((Int)×Int))))=>z.1) (rV .fz (kP3 kI (kT kStp) (kT (kP2 kI kI))) z21)) (rV .fz kI s20)),rV .fz (kP3 kI (kT kStp) (kT (kP2 kI kI))) z21⟩)) trivial) (fun (s22:List (((Int)×(List (Stp))×List (((Int)×Int)))))=>gPrim (pSet 7 (argsC (rV .fz (kT kS) s12) (fun (y23:List (List Nat))=>argsC (rV .fz (kT kS) s13) (fun (y24:List (List Nat))=>argsC (rV .fz (kT kI) s7) (fun (y25:List (Int))=>argsN (rCallB [(kT kS) y23,(kT kS) y24,(kT kI) y25] (t_least_slips y23 y24 y25)))))) trivial) (fun (s26:((Option (Int))×(List (Stp))×List (List (Option (Int)))))=>gIfD (xN (xV (argsC (RefG.co (f':=tv .fz kV) (c:=(kP2 (kO kI) (kT kStp))) (rSl32 (rV .fz (kP3 (kO kI) (kT kStp) (kT (kT (kO kI)))) s26)) (fun _=>rfl)) (fun (y36:PV)=>argsC (RefG.co (f':=tv .fz kV) (c:=(kP2 kI (kT kStp))) (argsC (rV .fz kI s20) (fun (y32:Int)=>argsC (rIxP (kb:=(kT kStp)) (pr:=fun (z:((Int)×(List (Stp))×List (((Int)×Int))))=>z.2.1) (rIxL (rV .fz (kL (kP3 kI (kT kStp) (kT (kP2 kI kI)))) s22) (rV .fz kI (0:Int)))) (fun (y33:List (Stp))=>argsE (tv .fz (kP2 kI (kT kStp))) ((y32,y33):((Int)×List (Stp))) rfl))) (fun _=>rfl)) (fun (y37:PV)=>argsN (rCallB [kV y36,kV y37] (t_law_same 8 y36 y37))))))) (gRetS (rV .fz kB false) (fun (r40:Bool)=>gOk (s:=Ctl.rt r40) ⟨_,rfl⟩) trivial) (gNil (gIfD (xN (xV (argsC (RefG.co (f':=tv .fz kV) (c:=(kO kI)) (argsC (rV .fz (kT kS) s12) (fun (y44:List (List Nat))=>argsC (rV .fz (kT kS) s13) (fun (y45:List (List Nat))=>argsC (rV .fz (kT kI) s7) (fun (y46:List (Int))=>argsN (rCallB [(kT kS) y44,(kT kS) y45,(kT kI) y46] (t_cheapest_many y44 y45 y46)))))) (fun _=>rfl)) (fun (y48:PV)=>argsC (RefG.co (f':=tv .fz kV) (c:=kI) (rLenL (rV .fz (kL (kP3 kI (kT kStp) (kT (kP2 kI kI)))) s22)) (fun _=>rfl)) (fun (y49:PV)=>argsN (rCallB [kV y48,kV y49] (t_law_same 8 y48 y49))))))) (gRetS (rV .fz kB false) (fun (r52:Bool)=>gOk (s:=Ctl.rt r52) ⟨_,rfl⟩) trivial) (gNil (gIf (xN (xV (argsC (RefG.co (f':=tv .fz kV) (c:=(kT (kP2 kI kI))) (argsC (rV .fz (kT kS) s12) (fun (y58:List (List Nat))=>argsC (rV .fz (kT kS) s13) (fun (y59:List (List Nat))=>argsC (rV .fz (kT kI) s7) (fun (y60:List (Int))=>argsN (rCallB [(kT kS) y58,(kT kS) y59,(kT kI) y60] (t_sure_pairs y58 y59 y60)))))) (fun _=>rfl)) (fun (y65:PV)=>argsC (RefG.co (f':=tv .fz kV) (c:=(kT (kP2 kI kI))) (rTupL (rSortTP (argsC (rV .fz (kL (kP3 kI (kT kStp) (kT (kP2 kI kI)))) s22) (fun (y62:List (((Int)×(List (Stp))×List (((Int)×Int)))))=>argsN (rCallB [(kL (kP3 kI (kT kStp) (kT (kP2 kI kI)))) y62] (t_law_in_all y62)))) (fun x=>rfl))) (fun _=>rfl)) (fun (y66:PV)=>argsN (rCallB [kV y65,kV y66] (t_law_same 8 y65 y66))))))) (gRet (rV .fz kB false) (fun (r70:Bool)=>gOk (s:=Ctl.rt r70) ⟨_,rfl⟩) trivial) (gNil1 (gOk (s:=Ctl.nx (())) ⟨_,.inl rfl,rfl⟩)) trivial)) trivial)) trivial))))))⟩) trivial) (fun (s75:Unit)=>gRet (rV .fz kB true) (fun (r76:Bool)=>gOk (s:=r76) (.inl ⟨_,rfl⟩)) trivial) (fun (r77:Bool) _=>gOk (s:=r77) (.inl ⟨_,rfl⟩)))):RefG (tv .fz kB) (d_law_v64 [(kL kI) v_script]) _)
end Vm
end
section
set_option linter.all false
set_option maxRecDepth 10000
namespace Vm
theorem s2_law(ns:List Int)(hl:ns.length≤63)(hb:∀ z∈ns,z.natAbs.log2≤1048576):d_law_v64 [.lst (ns.map .int)] = .ok (.fz,.bl true):=by
 have h:=t_law_v64 ns
 rw [m_law ns hl hb] at h
 exact h
end Vm
end
section
set_option Elab.async false
set_option linter.all false
set_option maxRecDepth 100000
set_option maxHeartbeats 4000000
namespace VP
open PySem PySem.Spec PyProof.Rows L2 Vm Vl
abbrev FDn(K:PySem.W.Frag)(x:Str)(st:Stmt):Prop:=∃ (f:Addr) (od an:Option Addr) (sl:Array (Option Value)) (oc kV dc pm cd ct:Value),PySem.W.nsIn K mainGlobals x=some (some (.ref f))∧K.lookup f=some ⟨oc,od,.func (PySem.W.fnOf x x (defArgs st) (defBody st) (defScope st) .none kV dc pm an cd ct),sl⟩∧PySem.W.codeIn K cd x=true∧PySem.W.keepIn K (.ref f)=true
theorem all_mk {l:PySem.W.OpenLaw} {w:World} {K:PySem.W.Frag} {h:Heap} {mg:Str→Option Value} {fa:Addr} (X:K.In h) (G:h.Ns mainGlobals mg) (hfa:mg "law" = some (.ref fa))
  (d0:FDn K "looks_alike" s_looks_alike)
  (d1:FDn K "step_price" s_step_price)
  (d2:FDn K "skips_at" s_skips_at)
  (d3:FDn K "swaps_at" s_swaps_at)
  (d4:FDn K "knot_steps" s_knot_steps)
  (d5:FDn K "step_end" s_step_end)
  (d6:FDn K "priced_ends" s_priced_ends)
  (d7:FDn K "empty_table" s_empty_table)
  (d8:FDn K "kept_table" s_kept_table)
  (d9:FDn K "price_table" s_price_table)
  (d10:FDn K "rest_table" s_rest_table)
  (d11:FDn K "cheapest_ends" s_cheapest_ends)
  (d12:FDn K "least_slips" s_least_slips)
  (d13:FDn K "many_from" s_many_from)
  (d14:FDn K "cheapest_many" s_cheapest_many)
  (d15:FDn K "many_to" s_many_to)
  (d16:FDn K "sure_pairs" s_sure_pairs)
  (d17:FDn K "_law_cell_at" s__law_cell_at)
  (d18:FDn K "_law_stir" s__law_stir)
  (d19:FDn K "_law_next" s__law_next)
  (d20:FDn K "_law_same" s__law_same)
  (d21:FDn K "_law_word" s__law_word)
  (d22:FDn K "_law_prices" s__law_prices)
  (d23:FDn K "_law_eye" s__law_eye)
  (d24:FDn K "_law_slip" s__law_slip)
  (d25:FDn K "_law_pair" s__law_pair)
  (d26:FDn K "_law_pairs" s__law_pairs)
  (d27:FDn K "_law_steps" s__law_steps)
  (d28:FDn K "_law_alike" s__law_alike)
  (d29:FDn K "_law_price" s__law_price)
  (d30:FDn K "_law_end" s__law_end)
  (d31:FDn K "_law_arms" s__law_arms)
  (d32:FDn K "_law_knots" s__law_knots)
  (d33:FDn K "_law_all_rows" s__law_all_rows)
  (d34:FDn K "_law_in_all" s__law_in_all)
  (d35:FDn K "law" s_law)
  (zz_bool:PySem.W.nsIn K mainGlobals "bool" = some none)
  (zz_int:PySem.W.nsIn K mainGlobals "int" = some none)
  (zz_isinstance:PySem.W.nsIn K mainGlobals "isinstance" = some none)
  (zz_len:PySem.W.nsIn K mainGlobals "len" = some none)
  (zz_max:PySem.W.nsIn K mainGlobals "max" = some none)
  (zz_min:PySem.W.nsIn K mainGlobals "min" = some none)
  (zz_range:PySem.W.nsIn K mainGlobals "range" = some none)
  (zz_reversed:PySem.W.nsIn K mainGlobals "reversed" = some none)
  (zz_sorted:PySem.W.nsIn K mainGlobals "sorted" = some none)
  (zz_str:PySem.W.nsIn K mainGlobals "str" = some none)
  (zz_sum:PySem.W.nsIn K mainGlobals "sum" = some none)
  (zz_tuple:PySem.W.nsIn K mainGlobals "tuple" = some none)
  (zz_zip:PySem.W.nsIn K mainGlobals "zip" = some none)
  :∃ fd:FuncData,(∀ (s:Shared) (v:Value),BindsTo s fd ⟨[v],[]⟩ [("script",v)])∧∀ base:Heap,K.In base→base.Ns mainGlobals mg→FnOk l.prog w K mg base (L2.CX l.prog w) 10 fa fd ["script"] (spLaw K):=by
 obtain ⟨fL,odL,anL,slL,ocL,kVL,dcL,pmL,cdL,ctL,aL,lL,cL,kL⟩:=d35
 have e:=hfa.symm.trans (PySem.W.mg_of X G aL)
 cases e
 refine ⟨PySem.W.fnOf "law" "law" (defArgs s_law) (defBody s_law) (defScope s_law) .none kVL dcL pmL anL cdL ctL,fun s v=>.of_eq rfl,fun base _ _=>?_⟩
 have z_bool:(Cn.mk ⟨K,l.prog,w,mg⟩ base).mg "bool" = none:=PySem.W.mg_none_of X G zz_bool
 have z_int:(Cn.mk ⟨K,l.prog,w,mg⟩ base).mg "int" = none:=PySem.W.mg_none_of X G zz_int
 have z_isinstance:(Cn.mk ⟨K,l.prog,w,mg⟩ base).mg "isinstance" = none:=PySem.W.mg_none_of X G zz_isinstance
 have z_len:(Cn.mk ⟨K,l.prog,w,mg⟩ base).mg "len" = none:=PySem.W.mg_none_of X G zz_len
 have z_max:(Cn.mk ⟨K,l.prog,w,mg⟩ base).mg "max" = none:=PySem.W.mg_none_of X G zz_max
 have z_min:(Cn.mk ⟨K,l.prog,w,mg⟩ base).mg "min" = none:=PySem.W.mg_none_of X G zz_min
 have z_range:(Cn.mk ⟨K,l.prog,w,mg⟩ base).mg "range" = none:=PySem.W.mg_none_of X G zz_range
 have z_reversed:(Cn.mk ⟨K,l.prog,w,mg⟩ base).mg "reversed" = none:=PySem.W.mg_none_of X G zz_reversed
 have z_sorted:(Cn.mk ⟨K,l.prog,w,mg⟩ base).mg "sorted" = none:=PySem.W.mg_none_of X G zz_sorted
 have z_str:(Cn.mk ⟨K,l.prog,w,mg⟩ base).mg "str" = none:=PySem.W.mg_none_of X G zz_str
 have z_sum:(Cn.mk ⟨K,l.prog,w,mg⟩ base).mg "sum" = none:=PySem.W.mg_none_of X G zz_sum
 have z_tuple:(Cn.mk ⟨K,l.prog,w,mg⟩ base).mg "tuple" = none:=PySem.W.mg_none_of X G zz_tuple
 have z_zip:(Cn.mk ⟨K,l.prog,w,mg⟩ base).mg "zip" = none:=PySem.W.mg_none_of X G zz_zip
 have c_looks_alike:Cal (Cn.mk ⟨K,l.prog,w,mg⟩ base) "looks_alike" 2 1 d_looks_alike:=by
  obtain ⟨_,_,_,_,_,_,_,_,_,_,a,l1,c,k⟩:=d0
  have F:=fun_mk (st:=s_looks_alike) l1 c k
  exact ok_looks_alike F (PySem.W.mg_of X G a) (F.binds (ps:=["one","two"]) fun _ _ _ _ _ _ us hl=>match us,hl with | [_,_],_=>rfl) z_len z_zip
 have c_step_price:Cal (Cn.mk ⟨K,l.prog,w,mg⟩ base) "step_price" 4 2 d_step_price:=by
  obtain ⟨_,_,_,_,_,_,_,_,_,_,a,l1,c,k⟩:=d1
  have F:=fun_mk (st:=s_step_price) l1 c k
  exact ok_step_price F (PySem.W.mg_of X G a) (F.binds (ps:=["elder","done","step","prices"]) fun _ _ _ _ _ _ us hl=>match us,hl with | [_,_,_,_],_=>rfl) c_looks_alike
 have c_skips_at:Cal (Cn.mk ⟨K,l.prog,w,mg⟩ base) "skips_at" 2 1 d_skips_at:=by
  obtain ⟨_,_,_,_,_,_,_,_,_,_,a,l1,c,k⟩:=d2
  have F:=fun_mk (st:=s_skips_at) l1 c k
  exact ok_skips_at F (PySem.W.mg_of X G a) (F.binds (ps:=["elder","i"]) fun _ _ _ _ _ _ us hl=>match us,hl with | [_,_],_=>rfl) z_len z_range
 have c_swaps_at:Cal (Cn.mk ⟨K,l.prog,w,mg⟩ base) "swaps_at" 4 1 d_swaps_at:=by
  obtain ⟨_,_,_,_,_,_,_,_,_,_,a,l1,c,k⟩:=d3
  have F:=fun_mk (st:=s_swaps_at) l1 c k
  exact ok_swaps_at F (PySem.W.mg_of X G a) (F.binds (ps:=["elder","copy","i","j"]) fun _ _ _ _ _ _ us hl=>match us,hl with | [_,_,_,_],_=>rfl) z_len
 have c_knot_steps:Cal (Cn.mk ⟨K,l.prog,w,mg⟩ base) "knot_steps" 4 2 d_knot_steps:=by
  obtain ⟨_,_,_,_,_,_,_,_,_,_,a,l1,c,k⟩:=d4
  have F:=fun_mk (st:=s_knot_steps) l1 c k
  exact ok_knot_steps F (PySem.W.mg_of X G a) (F.binds (ps:=["elder","copy","i","j"]) fun _ _ _ _ _ _ us hl=>match us,hl with | [_,_,_,_],_=>rfl) z_len z_tuple c_swaps_at c_skips_at
 have c_step_end:Cal (Cn.mk ⟨K,l.prog,w,mg⟩ base) "step_end" 3 1 d_step_end:=by
  obtain ⟨_,_,_,_,_,_,_,_,_,_,a,l1,c,k⟩:=d5
  have F:=fun_mk (st:=s_step_end) l1 c k
  exact ok_step_end F (PySem.W.mg_of X G a) (F.binds (ps:=["i","j","step"]) fun _ _ _ _ _ _ us hl=>match us,hl with | [_,_,_],_=>rfl)
 have c_priced_ends:Cal (Cn.mk ⟨K,l.prog,w,mg⟩ base) "priced_ends" 5 3 d_priced_ends:=by
  obtain ⟨_,_,_,_,_,_,_,_,_,_,a,l1,c,k⟩:=d6
  have F:=fun_mk (st:=s_priced_ends) l1 c k
  exact ok_priced_ends F (PySem.W.mg_of X G a) (F.binds (ps:=["elder","copy","i","j","prices"]) fun _ _ _ _ _ _ us hl=>match us,hl with | [_,_,_,_,_],_=>rfl) c_knot_steps c_step_price c_step_end
 have c_empty_table:Cal (Cn.mk ⟨K,l.prog,w,mg⟩ base) "empty_table" 2 1 d_empty_table:=by
  obtain ⟨_,_,_,_,_,_,_,_,_,_,a,l1,c,k⟩:=d7
  have F:=fun_mk (st:=s_empty_table) l1 c k
  exact ok_empty_table F (PySem.W.mg_of X G a) (F.binds (ps:=["elder","copy"]) fun _ _ _ _ _ _ us hl=>match us,hl with | [_,_],_=>rfl) z_len z_range
 have c_kept_table:Cal (Cn.mk ⟨K,l.prog,w,mg⟩ base) "kept_table" 1 1 d_kept_table:=by
  obtain ⟨_,_,_,_,_,_,_,_,_,_,a,l1,c,k⟩:=d8
  have F:=fun_mk (st:=s_kept_table) l1 c k
  exact ok_kept_table F (PySem.W.mg_of X G a) (F.binds (ps:=["table"]) fun _ _ _ _ _ _ us hl=>match us,hl with | [_],_=>rfl) z_tuple
 have c_price_table:Cal (Cn.mk ⟨K,l.prog,w,mg⟩ base) "price_table" 3 4 d_price_table:=by
  obtain ⟨_,_,_,_,_,_,_,_,_,_,a,l1,c,k⟩:=d9
  have F:=fun_mk (st:=s_price_table) l1 c k
  exact ok_price_table F (PySem.W.mg_of X G a) (F.binds (ps:=["elder","copy","prices"]) fun _ _ _ _ _ _ us hl=>match us,hl with | [_,_,_],_=>rfl) z_len z_range c_empty_table c_priced_ends c_kept_table
 have c_rest_table:Cal (Cn.mk ⟨K,l.prog,w,mg⟩ base) "rest_table" 3 4 d_rest_table:=by
  obtain ⟨_,_,_,_,_,_,_,_,_,_,a,l1,c,k⟩:=d10
  have F:=fun_mk (st:=s_rest_table) l1 c k
  exact ok_rest_table F (PySem.W.mg_of X G a) (F.binds (ps:=["elder","copy","prices"]) fun _ _ _ _ _ _ us hl=>match us,hl with | [_,_,_],_=>rfl) z_len z_reversed z_range z_min c_empty_table c_priced_ends c_kept_table
 have c_cheapest_ends:Cal (Cn.mk ⟨K,l.prog,w,mg⟩ base) "cheapest_ends" 6 4 d_cheapest_ends:=by
  obtain ⟨_,_,_,_,_,_,_,_,_,_,a,l1,c,k⟩:=d11
  have F:=fun_mk (st:=s_cheapest_ends) l1 c k
  exact ok_cheapest_ends F (PySem.W.mg_of X G a) (F.binds (ps:=["elder","copy","i","j","prices","rest"]) fun _ _ _ _ _ _ us hl=>match us,hl with | [_,_,_,_,_,_],_=>rfl) c_priced_ends
 have c_least_slips:Cal (Cn.mk ⟨K,l.prog,w,mg⟩ base) "least_slips" 3 5 d_least_slips:=by
  obtain ⟨_,_,_,_,_,_,_,_,_,_,a,l1,c,k⟩:=d12
  have F:=fun_mk (st:=s_least_slips) l1 c k
  exact ok_least_slips F (PySem.W.mg_of X G a) (F.binds (ps:=["elder","copy","prices"]) fun _ _ _ _ _ _ us hl=>match us,hl with | [_,_,_],_=>rfl) z_len z_tuple c_rest_table c_cheapest_ends c_price_table
 have c_many_from:Cal (Cn.mk ⟨K,l.prog,w,mg⟩ base) "many_from" 4 5 d_many_from:=by
  obtain ⟨_,_,_,_,_,_,_,_,_,_,a,l1,c,k⟩:=d13
  have F:=fun_mk (st:=s_many_from) l1 c k
  exact ok_many_from F (PySem.W.mg_of X G a) (F.binds (ps:=["elder","copy","prices","rest"]) fun _ _ _ _ _ _ us hl=>match us,hl with | [_,_,_,_],_=>rfl) z_len z_reversed z_range z_sum c_empty_table c_cheapest_ends
 have c_cheapest_many:Cal (Cn.mk ⟨K,l.prog,w,mg⟩ base) "cheapest_many" 3 6 d_cheapest_many:=by
  obtain ⟨_,_,_,_,_,_,_,_,_,_,a,l1,c,k⟩:=d14
  have F:=fun_mk (st:=s_cheapest_many) l1 c k
  exact ok_cheapest_many F (PySem.W.mg_of X G a) (F.binds (ps:=["elder","copy","prices"]) fun _ _ _ _ _ _ us hl=>match us,hl with | [_,_,_],_=>rfl) c_rest_table c_many_from
 have c_many_to:Cal (Cn.mk ⟨K,l.prog,w,mg⟩ base) "many_to" 4 5 d_many_to:=by
  obtain ⟨_,_,_,_,_,_,_,_,_,_,a,l1,c,k⟩:=d15
  have F:=fun_mk (st:=s_many_to) l1 c k
  exact ok_many_to F (PySem.W.mg_of X G a) (F.binds (ps:=["elder","copy","prices","rest"]) fun _ _ _ _ _ _ us hl=>match us,hl with | [_,_,_,_],_=>rfl) z_len z_range c_empty_table c_cheapest_ends
 have c_sure_pairs:Cal (Cn.mk ⟨K,l.prog,w,mg⟩ base) "sure_pairs" 3 6 d_sure_pairs:=by
  obtain ⟨_,_,_,_,_,_,_,_,_,_,a,l1,c,k⟩:=d16
  have F:=fun_mk (st:=s_sure_pairs) l1 c k
  exact ok_sure_pairs F (PySem.W.mg_of X G a) (F.binds (ps:=["elder","copy","prices"]) fun _ _ _ _ _ _ us hl=>match us,hl with | [_,_,_],_=>rfl) z_len z_range z_tuple c_rest_table c_many_to c_many_from
 have c__law_cell_at:Cal (Cn.mk ⟨K,l.prog,w,mg⟩ base) "_law_cell_at" 2 1 d_law_cell_at:=by
  obtain ⟨_,_,_,_,_,_,_,_,_,_,a,l1,c,k⟩:=d17
  have F:=fun_mk (st:=s__law_cell_at) l1 c k
  exact ok__law_cell_at F (PySem.W.mg_of X G a) (F.binds (ps:=["script","k"]) fun _ _ _ _ _ _ us hl=>match us,hl with | [_,_],_=>rfl) z_len
 have c__law_stir:Cal (Cn.mk ⟨K,l.prog,w,mg⟩ base) "_law_stir" 1 1 d_law_stir:=by
  obtain ⟨_,_,_,_,_,_,_,_,_,_,a,l1,c,k⟩:=d18
  have F:=fun_mk (st:=s__law_stir) l1 c k
  exact ok__law_stir F (PySem.W.mg_of X G a) (F.binds (ps:=["cell"]) fun _ _ _ _ _ _ us hl=>match us,hl with | [_],_=>rfl)
 have c__law_next:Cal (Cn.mk ⟨K,l.prog,w,mg⟩ base) "_law_next" 1 1 d_law_next:=by
  obtain ⟨_,_,_,_,_,_,_,_,_,_,a,l1,c,k⟩:=d19
  have F:=fun_mk (st:=s__law_next) l1 c k
  exact ok__law_next F (PySem.W.mg_of X G a) (F.binds (ps:=["left"]) fun _ _ _ _ _ _ us hl=>match us,hl with | [_],_=>rfl)
 have c__law_same:Cal (Cn.mk ⟨K,l.prog,w,mg⟩ base) "_law_same" 2 9 (d_law_same 8):=by
  obtain ⟨_,_,_,_,_,_,_,_,_,_,a,l1,c,k⟩:=d20
  have F:=fun_mk (st:=s__law_same) l1 c k
  exact ok__law_same F (PySem.W.mg_of X G a) (F.binds (ps:=["found","due"]) fun _ _ _ _ _ _ us hl=>match us,hl with | [_,_],_=>rfl) z_isinstance z_tuple z_len z_range z_str z_int z_bool 8
 have c__law_word:Cal (Cn.mk ⟨K,l.prog,w,mg⟩ base) "_law_word" 2 1 d_law_word_v1:=by
  obtain ⟨_,_,_,_,_,_,_,_,_,_,a,l1,c,k⟩:=d21
  have F:=fun_mk (st:=s__law_word) l1 c k
  exact ok__law_word F (PySem.W.mg_of X G a) (F.binds (ps:=["seed","code"]) fun _ _ _ _ _ _ us hl=>match us,hl with | [_,_],_=>rfl) z_range
 have c__law_prices:Cal (Cn.mk ⟨K,l.prog,w,mg⟩ base) "_law_prices" 1 2 d_law_prices:=by
  obtain ⟨_,_,_,_,_,_,_,_,_,_,a,l1,c,k⟩:=d22
  have F:=fun_mk (st:=s__law_prices) l1 c k
  exact ok__law_prices F (PySem.W.mg_of X G a) (F.binds (ps:=["cell"]) fun _ _ _ _ _ _ us hl=>match us,hl with | [_],_=>rfl) z_range z_tuple c__law_stir c__law_next
 have c__law_eye:Cal (Cn.mk ⟨K,l.prog,w,mg⟩ base) "_law_eye" 4 2 d_law_eye:=by
  obtain ⟨_,_,_,_,_,_,_,_,_,_,a,l1,c,k⟩:=d23
  have F:=fun_mk (st:=s__law_eye) l1 c k
  exact ok__law_eye F (PySem.W.mg_of X G a) (F.binds (ps:=["elder","left","seed","most"]) fun _ _ _ _ _ _ us hl=>match us,hl with | [_,_,_,_],_=>rfl) z_max z_min z_len z_range c__law_word
 have c__law_slip:CalM (Cn.mk ⟨K,l.prog,w,mg⟩ base) "_law_slip" 1 [.ow 1,.ow 1,.ow 1,.fz,.fz] d_law_slip:=by
  obtain ⟨_,_,_,_,_,_,_,_,_,_,a,l1,c,k⟩:=d24
  have F:=fun_mk (st:=s__law_slip) l1 c k
  exact ok__law_slip F (PySem.W.mg_of X G a) (F.binds (ps:=["elder","copy","steps","left","words"]) fun _ _ _ _ _ _ us hl=>match us,hl with | [_,_,_,_,_],_=>rfl)
 have c__law_pair:Cal (Cn.mk ⟨K,l.prog,w,mg⟩ base) "_law_pair" 3 3 d_law_pair_v2:=by
  obtain ⟨_,_,_,_,_,_,_,_,_,_,a,l1,c,k⟩:=d25
  have F:=fun_mk (st:=s__law_pair) l1 c k
  exact ok__law_pair F (PySem.W.mg_of X G a) (F.binds (ps:=["cells","seed","most"]) fun _ _ _ _ _ _ us hl=>match us,hl with | [_,_,_],_=>rfl) z_len z_tuple c__law_stir c__law_eye c__law_word c__law_slip
 have c__law_pairs:Cal (Cn.mk ⟨K,l.prog,w,mg⟩ base) "_law_pairs" 2 4 d_law_pairs:=by
  obtain ⟨_,_,_,_,_,_,_,_,_,_,a,l1,c,k⟩:=d26
  have F:=fun_mk (st:=s__law_pairs) l1 c k
  exact ok__law_pairs F (PySem.W.mg_of X G a) (F.binds (ps:=["script","many"]) fun _ _ _ _ _ _ us hl=>match us,hl with | [_,_],_=>rfl) z_len z_range c__law_cell_at c__law_stir c__law_pair
 have c__law_steps:Cal (Cn.mk ⟨K,l.prog,w,mg⟩ base) "_law_steps" 4 1 d_law_steps_v1:=by
  obtain ⟨_,_,_,_,_,_,_,_,_,_,a,l1,c,k⟩:=d27
  have F:=fun_mk (st:=s__law_steps) l1 c k
  exact ok__law_steps F (PySem.W.mg_of X G a) (F.binds (ps:=["elder","copy","i","j"]) fun _ _ _ _ _ _ us hl=>match us,hl with | [_,_,_,_],_=>rfl) z_len z_range
 have c__law_alike:Cal (Cn.mk ⟨K,l.prog,w,mg⟩ base) "_law_alike" 2 1 d_law_alike_v4:=by
  obtain ⟨_,_,_,_,_,_,_,_,_,_,a,l1,c,k⟩:=d28
  have F:=fun_mk (st:=s__law_alike) l1 c k
  exact ok__law_alike F (PySem.W.mg_of X G a) (F.binds (ps:=["one","two"]) fun _ _ _ _ _ _ us hl=>match us,hl with | [_,_],_=>rfl) z_len z_range
 have c__law_price:Cal (Cn.mk ⟨K,l.prog,w,mg⟩ base) "_law_price" 4 2 d_law_price_v1:=by
  obtain ⟨_,_,_,_,_,_,_,_,_,_,a,l1,c,k⟩:=d29
  have F:=fun_mk (st:=s__law_price) l1 c k
  exact ok__law_price F (PySem.W.mg_of X G a) (F.binds (ps:=["elder","i","step","prices"]) fun _ _ _ _ _ _ us hl=>match us,hl with | [_,_,_,_],_=>rfl) z_int c__law_alike
 have c__law_end:Cal (Cn.mk ⟨K,l.prog,w,mg⟩ base) "_law_end" 3 1 d_law_end:=by
  obtain ⟨_,_,_,_,_,_,_,_,_,_,a,l1,c,k⟩:=d30
  have F:=fun_mk (st:=s__law_end) l1 c k
  exact ok__law_end F (PySem.W.mg_of X G a) (F.binds (ps:=["i","j","step"]) fun _ _ _ _ _ _ us hl=>match us,hl with | [_,_,_],_=>rfl)
 have c__law_arms:Cal (Cn.mk ⟨K,l.prog,w,mg⟩ base) "_law_arms" 5 3 d_law_arms:=by
  obtain ⟨_,_,_,_,_,_,_,_,_,_,a,l1,c,k⟩:=d31
  have F:=fun_mk (st:=s__law_arms) l1 c k
  exact ok__law_arms F (PySem.W.mg_of X G a) (F.binds (ps:=["elder","copy","prices","i","j"]) fun _ _ _ _ _ _ us hl=>match us,hl with | [_,_,_,_,_],_=>rfl) c__law_steps c__law_price c__law_end
 have c__law_knots:Cal (Cn.mk ⟨K,l.prog,w,mg⟩ base) "_law_knots" 2 1 d_law_knots:=by
  obtain ⟨_,_,_,_,_,_,_,_,_,_,a,l1,c,k⟩:=d32
  have F:=fun_mk (st:=s__law_knots) l1 c k
  exact ok__law_knots F (PySem.W.mg_of X G a) (F.binds (ps:=["elder","copy"]) fun _ _ _ _ _ _ us hl=>match us,hl with | [_,_],_=>rfl) z_len z_range
 have c__law_all_rows:Cal (Cn.mk ⟨K,l.prog,w,mg⟩ base) "_law_all_rows" 3 4 d_law_all_rows:=by
  obtain ⟨_,_,_,_,_,_,_,_,_,_,a,l1,c,k⟩:=d33
  have F:=fun_mk (st:=s__law_all_rows) l1 c k
  exact ok__law_all_rows F (PySem.W.mg_of X G a) (F.binds (ps:=["elder","copy","prices"]) fun _ _ _ _ _ _ us hl=>match us,hl with | [_,_,_],_=>rfl) z_len z_reversed c__law_knots c__law_arms
 have c__law_in_all:Cal (Cn.mk ⟨K,l.prog,w,mg⟩ base) "_law_in_all" 1 1 d_law_in_all:=by
  obtain ⟨_,_,_,_,_,_,_,_,_,_,a,l1,c,k⟩:=d34
  have F:=fun_mk (st:=s__law_in_all) l1 c k
  exact ok__law_in_all F (PySem.W.mg_of X G a) (F.binds (ps:=["rows"]) fun _ _ _ _ _ _ us hl=>match us,hl with | [_],_=>rfl) z_tuple z_len
 have F:=fun_mk (st:=s_law) lL cL kL
 exact law_end (C:=Cn.mk ⟨K,l.prog,w,mg⟩ base) (ok_law F (PySem.W.mg_of X G aL) (F.binds (ps:=["script"]) fun _ _ _ _ _ _ us hl=>match us,hl with | [_],_=>rfl) z_min z_len z_tuple z_sorted c__law_cell_at c__law_prices c__law_pairs c__law_all_rows c_least_slips c__law_same c_cheapest_many c__law_in_all c_sure_pairs) s2_law
end VP
open PySem PySem.W PyProof.Rows
set_option maxHeartbeats 0 in
theorem PySem.Challenge.cw_vellum_k15_whole_small_rows_gone_through_holds : PySem.Challenge.rw_vellum_k15_whole_small_rows_gone_through.Holds := by
  w_on; refine vp_hd ?_
  k_fill
  refine L2.walk_ofB (l := PySem.Challenge.rw_vellum_k15_whole_small_rows_gone_through) (n := 63) (k := 10) (x := "script") (CX := fun w => L2.CX PySem.Challenge.rw_vellum_k15_whole_small_rows_gone_through.prog w) (sp := fun w => Vl.spLaw _) rfl (by decide) rfl ⟨rfl, by decide, by decide⟩ (fun w h Y => PySem.W.kIn_of Y) ?F (fun _ _ a ns hl hb ho hS => ⟨a, ns, rfl, hS, hl, hb, ho, fun _ => rfl⟩) (fun _ _ _ _ _ h => Vl.cx_no h)
  case F =>
    intro w mg fa h KX G hmg
    refine' VP.all_mk KX G hmg ?d0 ?d1 ?d2 ?d3 ?d4 ?d5 ?d6 ?d7 ?d8 ?d9 ?d10 ?d11 ?d12 ?d13 ?d14 ?d15 ?d16 ?d17 ?d18 ?d19 ?d20 ?d21 ?d22 ?d23 ?d24 ?d25 ?d26 ?d27 ?d28 ?d29 ?d30 ?d31 ?d32 ?d33 ?d34 ?d35 ?zz_bool ?zz_int ?zz_isinstance ?zz_len ?zz_max ?zz_min ?zz_range ?zz_reversed ?zz_sorted ?zz_str ?zz_sum ?zz_tuple ?zz_zip     
    (case zz_bool => k_is); (case zz_int => k_is); (case zz_isinstance => k_is); (case zz_len => k_is); (case zz_max => k_is); (case zz_min => k_is); (case zz_range => k_is); (case zz_reversed => k_is); (case zz_sorted => k_is); (case zz_str => k_is); (case zz_sum => k_is); (case zz_tuple => k_is); (case zz_zip => k_is)
    all_goals (as_aux_lemma => exact ⟨_, _, _, _, _, _, _, _, _, _, by k_is, by k_is, by k_is, by k_is⟩)
end
