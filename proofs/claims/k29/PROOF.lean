import PyProof.Rows.All
import Wide.All
import OpenK.AllK
import Wide.FinOn
import HandS.ForMost
import HandS.ForExc
import HandS.Wide
import HandS.Deep
import HandS.EndBits
import HandS.CallSlots
import KE.KDictKeyed
import HandS.TupAny
import HandS.TupMul
import HandS.Text
import HandS.Style
import HandS.IsInst
import HandS.TryOnly
import KE.GoesEnum
import HandS.Rev
import HandS.RevRange
import PyProof.StrLawsChain
import HandS.StrMore
import KE.DataMinMax
import KE.SortData
import HandS.SortKw
import KE.IntTextLaws
import HandS.Codes
import HandS.RaiseMore
import KE.KxMul
import PyProof.Rows.BitMore
import KE.KIsAll
import HandS.ExcIs
import PyProof.StrOps2
import HandS.Dict
import KE.KDictLaws
import KE.KDictDisplayH
import HandS.Iter
import KE.KDictWalk
import KE.KDictSum
import KE.KDictCopyH
import HandS.More
import PyProof.TupleOps
import KE.KRevIter
import PyProof.FactsAll.subtypes_4
import HandS.SetFor
import HandS.Strs
import HandS.Conv
import HandS.TryMany
import HandS.Defaults
import PyProof.TupleOfSeq
import PySem.Challenge.RW_vellum_k29_notes_refused
set_option Elab.async false
section
set_option Elab.async false
set_option linter.all false
set_option maxRecDepth 100000
open PySem PySem.W PyProof.Rows
set_option maxHeartbeats 0 in
open_top vp_hd for PySem.Challenge.rw_vellum_k29_notes_refused
end
section
set_option linter.all false
namespace Vm
inductive PV where
 | non | bl (b:Bool) | int (i:Int) | str (s:List Nat) | tup (l:List PV) | lst (l:List PV) | dic (ks l:List PV) | exo (c:Nat) (l:List PV)
inductive Tg where
 | fz | bw (d:Nat) | ow (d:Nat)
inductive Res (α:Type) where
 | ok (a:α) | exc (c:Nat) | bad
abbrev TV:=Tg×PV
abbrev Sl:=Option TV
abbrev En:=List Sl
def Res.bind{α β:Type}(r:Res α)(f:α→Res β):Res β:=match r with
 | .ok a=>f a
 | .exc c=>.exc c
 | .bad=>.bad
@[simp] theorem bind_ok {α β:Type} (a:α) (f:α→Res β):(Res.ok a).bind f=f a:=rfl
@[simp] theorem bind_exc {α β:Type} (c:Nat) (f:α→Res β):(Res.exc c).bind f = .exc c:=rfl
@[simp] theorem bind_bad {α β:Type} (f:α→Res β):(Res.bad:Res α).bind f = .bad:=rfl
@[simp] def boxed:PV→Bool
 | .lst _=>true
 | .dic _ _=>true
 | .exo 0 _=>true
 | _=>false
def strG(l:List Nat):Bool:=decide (l.length≤16777216) && l.all (fun c=>decide (c < 1114112))
mutual
@[simp] def eqv:PV→PV→Bool
 | .non,.non=>true
 | .bl a,.bl b=>a == b
 | .bl a,.int j=>(if a then 1 else 0) == j
 | .int i,.bl b=>i == (if b then 1 else 0)
 | .int i,.int j=>i == j
 | .str x,.str y=>x == y
 | .lst xs,.lst ys=>eqvL xs ys
 | .tup xs,.tup ys=>eqvL xs ys
 | _,_=>false
@[simp] def eqvL:List PV→List PV→Bool
 | [],[]=>true
 | x :: xs,y :: ys=>eqv x y && eqvL xs ys
 | _,_=>false
end
mutual
@[simp] def shp:Nat→PV→Bool
 | _,.non=>true
 | _,.bl _=>true
 | _,.int _=>true
 | _,.str _=>true
 | 0,.tup _=>false
 | 0,.lst _=>false
 | n+1,.tup l=>shpL n l
 | n+1,.lst l=>shpL n l
 | _,.dic _ _=>false
 | _,.exo _ _=>false
@[simp] def shpL:Nat→List PV→Bool
 | _,[]=>true
 | n,x :: xs=>shp n x && shpL n xs
end
@[simp] def plainP:PV→Bool
 | .non=>true
 | .bl _=>true
 | .int _=>true
 | .str _=>true
 | _=>false
mutual
@[simp] def stab:PV→Bool
 | .non=>true
 | .bl _=>true
 | .int _=>true
 | .str _=>true
 | .tup l=>stabL l
 | _=>false
@[simp] def stabL:List PV→Bool
 | []=>true
 | x :: xs=>stab x && stabL xs
end
@[simp] def stabO:Nat→PV→Bool
 | 0,p=>stab p
 | d+1,.lst l=>l.all (stabO d)
 | d+1,.dic _ l=>l.all (stabO d)
 | _,_=>false
def vIxN(n:Nat)(i:Int):Option Nat:=if 0≤i then (if i < n then some i.toNat else none) else if -(n:Int)≤i then some (i+n).toNat else none
def vAt{α:Type}(xs:List α)(i:Int):Option α:=(vIxN xs.length i).bind fun j=>xs[j]?
def vSix(n d:Nat):Option Int→Nat
 | none=>d
 | some v=>if v < 0 then (v+(n:Int)).toNat else min v.toNat n
def cutL{α:Type}(xs:List α)(lo hi:Option Int):List α:=(xs.drop (vSix xs.length 0 lo)).take (vSix xs.length xs.length hi - vSix xs.length 0 lo)
@[simp] def En.get (Γ:En) (i:Nat):Sl:=Γ.getD i none
@[simp] def wipeE (Γ:En):List Nat→En
 | []=>Γ
 | v :: vs=>(wipeE Γ vs).set v none
@[simp] def putV:TV→Res PV
 | (.fz,p)=>.ok p
 | (.ow _,p)=>.ok p
 | (.bw 0,p)=>.ok p
 | (.bw _,_)=>.bad
abbrev EX:=En→Res TV
abbrev EXs:=En→Res (List TV)
@[simp] def fzv (p:PV):Res TV:=.ok (.fz,p)
@[simp] def eC (p:PV):EX:=fun _=>.ok (.fz,p)
@[simp] def eVar (i:Nat):EX:=fun Γ=>match Γ.get i with
 | some (.fz,p)=>.ok (.fz,p)
 | some (.bw d,p)=>.ok (.bw d,p)
 | some (.ow d,p)=>.ok (.bw d,p)
 | none=>.bad
@[simp] def eOp2 (op:PV→PV→Res PV) (a b:EX):EX:=fun Γ=>(a Γ).bind fun x=>(b Γ).bind fun y=>(op x.2 y.2).bind fzv
@[simp] def eOp1 (op:PV→Res PV) (a:EX):EX:=fun Γ=>(a Γ).bind fun x=>(op x.2).bind fzv
@[simp] def eNil:EXs:=fun _=>.ok []
@[simp] def eCons (a:EX) (as:EXs):EXs:=fun Γ=>(a Γ).bind fun x=>(as Γ).bind fun xs=>.ok (x :: xs)
@[simp] def putVs:List TV→Res (List PV)
 | []=>.ok []
 | x :: xs=>(putV x).bind fun p=>(putVs xs).bind fun ps=>.ok (p :: ps)
@[simp] def eTup (as:EXs):EX:=fun Γ=>(as Γ).bind fun xs=>(putVs xs).bind fun ps=>if ps.length≤16777216 then .ok (.fz,.tup ps) else .bad
@[simp] def eLst (as:EXs):EX:=fun Γ=>(as Γ).bind fun xs=>(putVs xs).bind fun ps=>if ps.length≤16777216 then .ok (.ow 1,.lst ps) else .bad
@[simp] def opAdd:PV→PV→Res PV
 | .int i,.int j=>.ok (.int (i+j))
 | .str a,.str b=>if a.length+b.length≤16777216 then .ok (.str (a++b)) else .bad
 | _,_=>.bad
@[simp] def opSub:PV→PV→Res PV
 | .int i,.int j=>.ok (.int (i - j))
 | _,_=>.bad
def mulOk(i j:Int):Bool:=decide (i.natAbs.log2+j.natAbs.log2 < 50000000)
@[simp] def opMul:PV→PV→Res PV
 | .int i,.int j=>if mulOk i j then .ok (.int (i * j)) else .bad
 | _,_=>.bad
@[simp] def opFdiv:PV→PV→Res PV
 | .int i,.int j=>if 0 < j∧j.natAbs.log2 < 9000 then .ok (.int (i / j)) else .bad
 | _,_=>.bad
@[simp] def opMod:PV→PV→Res PV
 | .int i,.int j=>if 0 < j then .ok (.int (i % j)) else .bad
 | _,_=>.bad
@[simp] def opPow:PV→PV→Res PV
 | .int i,.int j=>if 0≤j∧j≤1000∧i.natAbs < 2 ^ 64 then .ok (.int (i ^ j.toNat)) else .bad
 | _,_=>.bad
@[simp] def opNeg:PV→Res PV
 | .int i=>.ok (.int (-i))
 | _=>.bad
@[simp] def opLt:PV→PV→Res PV
 | .int i,.int j=>.ok (.bl (decide (i < j)))
 | _,_=>.bad
@[simp] def opLe:PV→PV→Res PV
 | .int i,.int j=>.ok (.bl (decide (i≤j)))
 | _,_=>.bad
@[simp] def opGt:PV→PV→Res PV
 | .int i,.int j=>.ok (.bl (decide (j < i)))
 | _,_=>.bad
@[simp] def opGe:PV→PV→Res PV
 | .int i,.int j=>.ok (.bl (decide (j≤i)))
 | _,_=>.bad
@[simp] def opEq (x y:PV):Res PV:=if shp 60 x && shp 60 y then .ok (.bl (eqv x y)) else .bad
@[simp] def opNe (x y:PV):Res PV:=if shp 60 x && shp 60 y then .ok (.bl (!eqv x y)) else .bad
@[simp] def isNon:PV→Bool
 | .non=>true
 | _=>false
@[simp] def opIsN (x:PV):Res PV:=.ok (.bl (isNon x))
@[simp] def opNotN (x:PV):Res PV:=.ok (.bl (!isNon x))
@[simp] def isBl (b:Bool):PV→Bool
 | .bl c=>c == b
 | _=>false
@[simp] def opIsB (b:Bool) (x:PV):Res PV:=.ok (.bl (isBl b x))
@[simp] def opNotB (b:Bool) (x:PV):Res PV:=.ok (.bl (!isBl b x))
@[simp] def opNot:PV→Res PV
 | .bl b=>.ok (.bl (!b))
 | _=>.bad
@[simp] def inB (x y:PV):Res Bool:=match y with
 | .str t=>match x with
  | .str [c]=>.ok (t.elem c)
  | _=>.bad
 | .lst l=>if shp 50 x && shpL 50 l then .ok (l.any fun z=>eqv z x) else .bad
 | .tup l=>if plainP x && l.all plainP then .ok (l.any fun z=>eqv z x) else .bad
 | _=>.bad
@[simp] def opIn (x y:PV):Res PV:=(inB x y).bind fun b=>.ok (.bl b)
@[simp] def opNotIn (x y:PV):Res PV:=(inB x y).bind fun b=>.ok (.bl (!b))
@[simp] def dn:Tg→Tg
 | .fz=>.fz
 | .bw 0=>.fz
 | .bw 1=>.fz
 | .bw (d+2)=>.bw (d+1)
 | .ow 0=>.fz
 | .ow 1=>.fz
 | .ow (d+2)=>.bw (d+1)
@[simp] def ixV (o:TV) (i:PV):Res TV:=match o,i with
 | (t,.lst l),.int k=>match vAt l k with
  | some x=>.ok (dn t,x)
  | none=>.bad
 | (_,.tup l),.int k=>match vAt l k with
  | some x=>.ok (.fz,x)
  | none=>.bad
 | (_,.str s),.int k=>match vAt s k with
  | some c=>.ok (.fz,.str [c])
  | none=>.bad
 | _,_=>.bad
@[simp] def eIdx (a b:EX):EX:=fun Γ=>(a Γ).bind fun x=>(b Γ).bind fun y=>ixV x y.2
abbrev OX:=En→Res (Option Int)
@[simp] def oNone:OX:=fun _=>.ok none
@[simp] def oSome (a:EX):OX:=fun Γ=>(a Γ).bind fun x=>match x.2 with
 | .int i=>.ok (some i)
 | _=>.bad
@[simp] def flat1:Tg→Bool
 | .fz=>true
 | .bw 0=>true
 | .bw 1=>true
 | .ow 0=>true
 | .ow 1=>true
 | _=>false
@[simp] def sliceV (o:TV) (lo hi:Option Int):Res TV:=match o with
 | (t,.lst l)=>if flat1 t then .ok (.ow 1,.lst (cutL l lo hi)) else .bad
 | (_,.tup l)=>.ok (.fz,.tup (cutL l lo hi))
 | (_,.str s)=>.ok (.fz,.str (cutL s lo hi))
 | _=>.bad
@[simp] def eSlice (a:EX) (lo hi:OX):EX:=fun Γ=>(a Γ).bind fun x=>(lo Γ).bind fun l=>(hi Γ).bind fun h=>sliceV x l h
@[simp] def addV (x y:TV):Res TV:=match x,y with
 | (t,.lst a),(u,.lst b)=>if flat1 t && flat1 u && decide (a.length+b.length≤16777216) then .ok (.ow 1,.lst (a++b)) else .bad
 | (_,.tup a),(_,.tup b)=>if a.length+b.length≤16777216 then .ok (.fz,.tup (a++b)) else .bad
 | x,y=>(opAdd x.2 y.2).bind fzv
@[simp] def eAdd (a b:EX):EX:=fun Γ=>(a Γ).bind fun x=>(b Γ).bind fun y=>addV x y
@[simp] def own1:Tg→Bool
 | .ow 1=>true
 | _=>false
def repOk(n:Nat):Int→Bool
 | .ofNat j=>Nat.ble j 1152921504606846975 && Nat.ble (n * j) 16777216
 | .negSucc j=>Nat.ble j 1152921504606846975
theorem repOk_iff{n:Nat}{k:Int}:repOk n k=true ↔ -(2 ^ 60)≤k∧k < 2 ^ 60∧n * k.toNat≤16777216:=by
 cases k with
 | ofNat j =>
  rw [repOk,Bool.and_eq_true,Nat.ble_eq,Nat.ble_eq]
  simp only [Int.ofNat_eq_natCast,Int.toNat_natCast]
  exact ⟨fun h=>⟨by omega,by omega,h.2⟩,fun h=>⟨by omega,h.2.2⟩⟩
 | negSucc j =>
  rw [repOk,Nat.ble_eq]
  have e:(Int.negSucc j).toNat=0:=rfl
  rw [e,Nat.mul_zero]
  exact ⟨fun h=>⟨by omega,by omega,by omega⟩,fun h=>by omega⟩
@[simp] def mulV (x y:TV):Res TV:=match x.2,y.2 with
 | .lst a,.int k=>if own1 x.1 && repOk a.length k then .ok (.ow 1,.lst (List.replicate k.toNat a).flatten) else .bad
 | p,q=>(opMul p q).bind fzv
@[simp] def eMul (a b:EX):EX:=fun Γ=>(a Γ).bind fun x=>(b Γ).bind fun y=>mulV x y
abbrev TX:=En→Res Bool
@[simp] def xVal (a:EX):TX:=fun Γ=>(a Γ).bind fun x=>match x.2 with
 | .bl b=>.ok b
 | _=>.bad
@[simp] def xAnd (a b:TX):TX:=fun Γ=>(a Γ).bind fun x=>if x then b Γ else .ok false
@[simp] def xOr (a b:TX):TX:=fun Γ=>(a Γ).bind fun x=>if x then .ok true else b Γ
@[simp] def xNot (a:TX):TX:=fun Γ=>(a Γ).bind fun x=>.ok (!x)
@[simp] def eTest (a:TX):EX:=fun Γ=>(a Γ).bind fun b=>.ok (.fz,.bl b)
@[simp] def eIf (t:TX) (a b:EX):EX:=fun Γ=>(t Γ).bind fun c=>if c then a Γ else b Γ
@[simp] def eAnd (a b:EX):EX:=fun Γ=>(a Γ).bind fun x=>match x.2 with
 | .bl true=>b Γ
 | .bl false=>.ok (.fz,.bl false)
 | _=>.bad
@[simp] def eOr (a b:EX):EX:=fun Γ=>(a Γ).bind fun x=>match x.2 with
 | .bl true=>.ok (.fz,.bl true)
 | .bl false=>b Γ
 | _=>.bad
abbrev FN:=List PV→Res TV
@[simp] def isBw:TV→Bool
 | (.bw 0,_)=>false
 | (.bw _,_)=>true
 | _=>false
@[simp] def stabR:TV→Bool
 | (.fz,p)=>stab p
 | (.bw _,_)=>false
 | (.ow d,p)=>stabO d p
@[simp] def eCall (f:FN) (as:EXs):EX:=fun Γ=>(as Γ).bind fun xs=>(f (xs.map (·.2))).bind fun r=>if xs.any isBw && !stabR r then .bad else .ok r
@[simp] def eLen (a:EX):EX:=fun Γ=>(a Γ).bind fun x=>match x.2 with
 | .lst l=>.ok (.fz,.int l.length)
 | .tup l=>.ok (.fz,.int l.length)
 | .str l=>.ok (.fz,.int l.length)
 | .dic _ _=>.bad
 | _=>.bad
@[simp] def eTuple (a:EX):EX:=fun Γ=>(a Γ).bind fun x=>match x with
 | (t,.lst l)=>if flat1 t then .ok (.fz,.tup l) else .bad
 | (_,.tup l)=>.ok (.fz,.tup l)
 | _=>.bad
@[simp] def eList (a:EX):EX:=fun Γ=>(a Γ).bind fun x=>match x with
 | (t,.lst l)=>if flat1 t then .ok (.ow 1,.lst l) else .bad
 | (_,.tup l)=>.ok (.ow 1,.lst l)
 | _=>.bad
def allBl:List PV→Res Bool
 | []=>.ok true
 | .bl b :: r=>(allBl r).bind fun c=>.ok (b && c)
 | _=>.bad
def anyBl:List PV→Res Bool
 | []=>.ok false
 | .bl b :: r=>(anyBl r).bind fun c=>.ok (b || c)
 | _=>.bad
def intsOf:List PV→Res (List Int)
 | []=>.ok []
 | .int i :: r=>(intsOf r).bind fun is=>.ok (i :: is)
 | _=>.bad
@[simp] def lstOf:PV→Res (List PV)
 | .lst l=>.ok l
 | _=>.bad
@[simp] def eAll (a:EX):EX:=fun Γ=>(a Γ).bind fun x=>match x.2 with
 | .lst l=>(allBl l).bind fun b=>.ok (.fz,.bl b)
 | _=>.bad
@[simp] def eAny (a:EX):EX:=fun Γ=>(a Γ).bind fun x=>match x.2 with
 | .lst l=>(anyBl l).bind fun b=>.ok (.fz,.bl b)
 | _=>.bad
@[simp] def eSum (a:EX):EX:=fun Γ=>(a Γ).bind fun x=>match x.2 with
 | .lst l=>(intsOf l).bind fun is=>.ok (.fz,.int is.sum)
 | _=>.bad
def minI:List Int→Option Int
 | []=>none
 | x :: xs=>some (xs.foldl (fun a b=>if b < a then b else a) x)
def maxI:List Int→Option Int
 | []=>none
 | x :: xs=>some (xs.foldl (fun a b=>if a < b then b else a) x)
@[simp] def eMin2 (a b:EX):EX:=eOp2 (fun x y=>match x,y with
 | .int i,.int j=>.ok (.int (if j < i then j else i))
 | _,_=>.bad) a b
@[simp] def eMax2 (a b:EX):EX:=eOp2 (fun x y=>match x,y with
 | .int i,.int j=>.ok (.int (if i < j then j else i))
 | _,_=>.bad) a b
@[simp] def eMin (a:EX):EX:=fun Γ=>(a Γ).bind fun x=>(lstOf x.2).bind fun l=>(intsOf l).bind fun is=>match minI is with
 | some m=>.ok (.fz,.int m)
 | none=>.bad
@[simp] def eMax (a:EX):EX:=fun Γ=>(a Γ).bind fun x=>(lstOf x.2).bind fun l=>(intsOf l).bind fun is=>match maxI is with
 | some m=>.ok (.fz,.int m)
 | none=>.bad
@[simp] def kindIs:String→PV→Bool
 | "tuple",.tup _=>true
 | "list",.lst _=>true
 | "str",.str _=>true
 | "int",.int _=>true
 | "int",.bl _=>true
 | "bool",.bl _=>true
 | "dict",.dic _ _=>true
 | _,_=>false
@[simp] def isExo:PV→Bool
 | .exo _ _=>true
 | _=>false
@[simp] def eIsI (a:EX) (t:String):EX:=fun Γ=>eOp1 (fun x=>if isExo x then .bad else .ok (.bl (kindIs t x))) a Γ
abbrev IX:=En→Res (Bool×List TV)
@[simp] def jSeq (a:EX):IX:=fun Γ=>(a Γ).bind fun x=>match x.2 with
 | .lst l=>match x.1 with
  | .bw d=>.ok (false,l.map fun p=>(dn (.bw d),p))
  | _=>.ok (true,l.map fun p=>(.fz,p))
 | .tup l=>.ok (true,l.map fun p=>(.fz,p))
 | .str l=>.ok (true,l.map fun c=>(.fz,.str [c]))
 | _=>.bad
def rngL(lo hi:Int):List PV:=(List.range (hi - lo).toNat).map fun (k:Nat)=>.int (lo+(k:Int))
def rngOk:Int→Bool
 | .ofNat n=>Nat.ble n 4611686018427387903
 | .negSucc n=>Nat.ble n 4611686018427387903
theorem rngOk_iff{i:Int}:rngOk i=true ↔ -(2 ^ 62)≤i∧i < 2 ^ 62:=by
 cases i with
 | ofNat n=>rw [rngOk,Nat.ble_eq]; exact ⟨fun h=>⟨by simp only [Int.ofNat_eq_natCast]; omega,by simp only [Int.ofNat_eq_natCast]; omega⟩,fun h=>by simp only [Int.ofNat_eq_natCast] at h; omega⟩
 | negSucc n=>rw [rngOk,Nat.ble_eq]; exact ⟨fun h=>⟨by omega,by omega⟩,fun h=>by omega⟩
theorem rngOk_of{i:Int}(a:-(2 ^ 62)≤i)(b:i < 2 ^ 62):rngOk i=true:=rngOk_iff.mpr ⟨a,b⟩
@[simp] def jRange (a:EX):IX:=fun Γ=>(a Γ).bind fun x=>match x.2 with
 | .int n=>if rngOk n then .ok (true,(rngL 0 n).map fun p=>(.fz,p)) else .bad
 | _=>.bad
@[simp] def jRange2 (a b:EX):IX:=fun Γ=>(a Γ).bind fun x=>(b Γ).bind fun y=>match x.2,y.2 with
 | .int m,.int n=>if rngOk m && rngOk n then .ok (true,(rngL m n).map fun p=>(.fz,p)) else .bad
 | _,_=>.bad
@[simp] def seqV (x:TV):Res (Bool×List PV):=match x.2 with
 | .lst l=>match x.1 with
  | .bw 0=>.ok (false,l)
  | .bw 1=>.ok (false,l)
  | .bw _=>.bad
  | _=>.ok (true,l)
 | .tup l=>.ok (true,l)
 | .str l=>.ok (true,l.map fun c=>.str [c])
 | _=>.bad
def enumL(l:List PV):List PV:=l.mapIdx fun i p=>.tup [.int (i:Nat),p]
def zipL(l m:List PV):List PV:=List.zipWith (fun p q=>.tup [p,q]) l m
@[simp] def jEnum (a:EX):IX:=fun Γ=>(a Γ).bind fun x=>(seqV x).bind fun y=>.ok (y.1,(enumL y.2).map fun p=>(.fz,p))
@[simp] def jZip (a b:EX):IX:=fun Γ=>(a Γ).bind fun x=>(b Γ).bind fun y=>(seqV x).bind fun l=>(seqV y).bind fun m=>.ok (l.1 && m.1,(zipL l.2 m.2).map fun p=>(.fz,p))
@[simp] def isStr:PV→Bool
 | .str _=>true
 | _=>false
@[simp] def jRev (a:EX):IX:=fun Γ=>(a Γ).bind fun x=>match isStr x.2 with
 | true=>.bad
 | false=>(seqV x).bind fun y=>.ok (y.1,y.2.reverse.map fun p=>(.fz,p))
@[simp] def jRevR (a:EX):IX:=fun Γ=>(a Γ).bind fun x=>match x.2 with
 | .int n=>if rngOk n then .ok (true,(rngL 0 n).reverse.map fun p=>(.fz,p)) else .bad
 | _=>.bad
inductive Pat where
 | v (i:Nat) | t (l:List Nat)
@[simp] def Pat.slots:Pat→List Nat
 | .v i=>[i]
 | .t l=>l
@[simp] def setAll:En→List Nat→List PV→Option En
 | Γ,[],[]=>some Γ
 | Γ,i :: is,p :: ps=>setAll (Γ.set i (some (.fz,p))) is ps
 | _,_,_=>none
@[simp] def seqP (x:TV):Option (List PV):=match x.2 with
 | .tup ps=>some ps
 | .lst ps=>if flat1 x.1 then some ps else none
 | _=>none
@[simp] def bindP (Γ:En) (x:TV):Pat→Res En
 | .v i=>match x with
  | (.bw 0,p)=>.ok (Γ.set i (some (.fz,p)))
  | (.ow d,p)=>.ok (Γ.set i (some (.bw d,p)))
  | (t,p)=>.ok (Γ.set i (some (t,p)))
 | .t is=>match seqP x with
  | some ps=>match setAll Γ is ps with
   | some Γ'=>.ok Γ'
   | none=>.bad
  | none=>.bad
def lcGo(Γ:En)(pat:Pat)(c:TX)(e:EX):List TV→Res (List PV)
 | []=>.ok []
 | x :: xs=>(bindP Γ x pat).bind fun Γ'=>(c Γ').bind fun b =>
   if b then (e Γ').bind fun y=>(putV y).bind fun p=>(lcGo Γ pat c e xs).bind fun ps=>.ok (p :: ps) else lcGo Γ pat c e xs
@[simp] def xYes:TX:=fun _=>.ok true
@[simp] def noExc {α:Type}:Res α→Res α
 | .exc _=>.bad
 | r=>r
@[simp] def eLC (own:List Nat) (it:IX) (pat:Pat) (c:TX) (e:EX):EX:=fun Γ=>(it Γ).bind fun xs =>
 (noExc (lcGo (wipeE Γ own) pat c e xs.2)).bind fun ps=>if ps.length≤16777216 then .ok (.ow 1,.lst ps) else .bad
@[simp] def opAddI:PV→PV→Res PV
 | .int i,.int j=>.ok (.int (i+j))
 | _,_=>.bad
@[simp] def intV (x:TV):Res TV:=match x.2 with
 | .int i=>.ok (.fz,.int i)
 | .bl b=>.ok (.fz,.int (if b then 1 else 0))
 | _=>.bad
@[simp] def eInt (a:EX):EX:=fun Γ=>(a Γ).bind intV
@[simp] def opMax2:PV→PV→Res PV
 | .int i,.int j=>.ok (.int (if j > i then j else i))
 | _,_=>.bad
@[simp] def opMin2:PV→PV→Res PV
 | .int i,.int j=>.ok (.int (if j < i then j else i))
 | _,_=>.bad
def strsOf:List PV→Option (List (List Nat))
 | []=>some []
 | .str l :: r=>(strsOf r).map (l :: ·)
 | _ :: _=>none
@[simp] theorem strsOf_map:∀ ws:List (List Nat),strsOf (ws.map PV.str)=some ws
 | []=>rfl
 | w :: ws=>by rw [List.map_cons,strsOf,strsOf_map ws]; rfl
def joinL(sep:List Nat):List (List Nat)→List Nat
 | []=>[]
 | [w]=>w
 | w :: v :: r=>w++sep++joinL sep (v :: r)
@[simp] def listOf:PV→Option (List PV)
 | .lst l=>some l
 | .tup l=>some l
 | _=>none
@[simp] def eTxt (f:List Nat→TV→Res TV) (a b:EX):EX:=fun Γ=>(a Γ).bind fun x=>match x.2 with
 | .str s=>(b Γ).bind fun y=>f s y
 | _=>.bad
@[simp] def joinV (s:List Nat) (y:TV):Res TV:=match listOf y.2 with
 | some l=>match strsOf l with
  | some ws=>if (ws.map (·.length)).sum+ws.length * s.length≤16777216 then .ok (.fz,.str (joinL s ws)) else .bad
  | none=>.bad
 | none=>.bad
def splS(Y:List Nat):List Nat→Nat→List Nat→List (List Nat)
 | [],_,acc=>[acc.reverse]
 | c :: S,0,acc=>if Y.isPrefixOf (c :: S) then acc.reverse :: splS Y S (Y.length - 1) [] else splS Y S 0 (c :: acc)
 | _ :: S,n+1,acc=>splS Y S n acc
@[simp] def splitV (s:List Nat) (y:TV):Res TV:=match y.2 with
 | .str (c :: Y)=>if s.length+2≤16777216 then .ok (.ow 1,.lst ((splS (c :: Y) s 0 []).map .str)) else .bad
 | _=>.bad
def firstIx{α:Type}(p:α→Bool):List α→Option Nat
 | []=>none
 | x :: xs=>if p x then some 0 else (firstIx p xs).map (· + 1)
@[simp] def indexSV (s:List Nat) (y:TV):Res TV:=match y.2 with
 | .str [c]=>match firstIx (· == c) s with
  | some k=>.ok (.fz,.int k)
  | none=>.bad
 | _=>.bad
@[simp] def eIndexL (a b:EX):EX:=fun Γ=>(a Γ).bind fun x=>match x.2 with
 | .lst l=>(b Γ).bind fun y=>match plainP y.2 && l.all plainP with
  | true=>match firstIx (fun z=>eqv z y.2) l with
   | some k=>.ok (.fz,.int k)
   | none=>.bad
  | false=>.bad
 | _=>.bad
inductive Out where
 | nx (Γ:En) | rt (t:Tg) (p:PV) (Γ:En) | bk (Γ:En) | ct (Γ:En) | exc (c:Nat) (Γ:En) | bad
abbrev ST:=En→Out
@[simp] def Out.then (o:Out) (f:ST):Out:=match o with
 | .nx Γ=>f Γ
 | o=>o
@[simp] def aft {α:Type} (r:Res α) (Γ:En) (f:α→Out):Out:=match r with
 | .ok a=>f a
 | .exc c=>.exc c Γ
 | .bad=>.bad
theorem after_ok{α:Type}(a:α)(Γ:En)(f:α→Out):aft (.ok a) Γ f=f a:=rfl
@[simp] def dNil:ST:=fun Γ=>.nx Γ
@[simp] def dSeq (a b:ST):ST:=fun Γ=>(a Γ).then b
@[simp] def dSet (i:Nat) (e:EX):ST:=fun Γ=>aft (e Γ) Γ fun x=>aft (putV x) Γ fun p=>.nx (Γ.set i (some (.fz,p)))
@[simp] def dSetO (i:Nat) (e:EX):ST:=fun Γ=>aft (e Γ) Γ fun x=>match x with
 | (.ow d,p)=>.nx (Γ.set i (some (.ow d,p)))
 | _=>.bad
@[simp] def dSetT (is:List Nat) (e:EX):ST:=fun Γ=>aft (e Γ) Γ fun x=>aft (putV x) Γ fun p=>aft (bindP Γ (.fz,p) (.t is)) Γ .nx
@[simp] def dAug (op:PV→PV→Res PV) (i:Nat) (e:EX):ST:=fun Γ=>match Γ.get i with
 | some (.fz,p)=>aft (e Γ) Γ fun x=>aft (op p x.2) Γ fun z=>.nx (Γ.set i (some (.fz,z)))
 | _=>.bad
@[simp] def dIf (t:TX) (a b:ST):ST:=fun Γ=>aft (t Γ) Γ fun c=>if c then a Γ else b Γ
@[simp] def dRet (e:EX):ST:=fun Γ=>aft (e Γ) Γ fun x=>match x with
 | (.bw 0,p)=>.rt .fz p Γ
 | (.bw _,_)=>.bad
 | (t,p)=>.rt t p Γ
@[simp] def dRetV (i:Nat):ST:=fun Γ=>match Γ.get i with
 | some (.bw _,_)=>.bad
 | some (t,p)=>.rt t p Γ
 | none=>.bad
@[simp] def dRetN:ST:=fun Γ=>.rt .fz .non Γ
@[simp] def dRaise (c:Nat):ST:=fun Γ=>.exc c Γ
@[simp] def dBreak:ST:=fun Γ=>.bk Γ
@[simp] def dCont:ST:=fun Γ=>.ct Γ
@[simp] def dEx (e:EX):ST:=fun Γ=>aft (e Γ) Γ fun _=>.nx Γ
@[simp] def dFrz (i:Nat) (rest:ST):ST:=fun Γ=>match Γ.get i with
 | some (.ow _,p)=>rest (Γ.set i (some (.fz,p)))
 | some (.fz,p)=>rest Γ
 | _=>.bad
@[simp] def dForget (is:List Nat) (rest:ST):ST:=fun Γ=>rest (wipeE Γ is)
@[simp] def dApp (i:Nat) (e:EX):ST:=fun Γ=>match Γ.get i with
 | some (.ow 1,.lst l)=>aft (e Γ) Γ fun x=>aft (putV x) Γ fun p=>if l.length < 16777216 then .nx (Γ.set i (some (.ow 1,.lst (l++[p])))) else .bad
 | _=>.bad
@[simp] def dExt (i:Nat) (e:EX):ST:=fun Γ=>match Γ.get i with
 | some (.ow 1,.lst l)=>aft (e Γ) Γ fun x=>match x.2 with
  | .lst m=>if flat1 x.1 && decide (l.length+m.length≤16777216) then .nx (Γ.set i (some (.ow 1,.lst (l++m)))) else .bad
  | .tup m=>if l.length+m.length≤16777216 then .nx (Γ.set i (some (.ow 1,.lst (l++m)))) else .bad
  | _=>.bad
 | _=>.bad
@[simp] def dSetIx (i:Nat) (j e:EX):ST:=fun Γ=>match Γ.get i with
 | some (.ow 1,.lst l)=>aft (e Γ) Γ fun x=>aft (j Γ) Γ fun y=>aft (putV x) Γ fun p=>match y.2 with
  | .int k=>match vIxN l.length k with
   | some n=>.nx (Γ.set i (some (.ow 1,.lst (l.set n p))))
   | none=>.bad
  | _=>.bad
 | _=>.bad
@[simp] def dRev (i:Nat):ST:=fun Γ=>match Γ.get i with
 | some (.ow 1,.lst l)=>.nx (Γ.set i (some (.ow 1,.lst l.reverse)))
 | _=>.bad
def forL(pat:Pat)(ws:List Nat)(body:ST):List TV→ST
 | [],Γ=>.nx Γ
 | x :: xs,Γ=>match bindP Γ x pat with
  | .ok Γ'=>match body Γ' with
   | .nx Γ2=>forL pat ws body xs (wipeE Γ2 ws)
   | .ct Γ2=>forL pat ws body xs (wipeE Γ2 ws)
   | .bk Γ2=>.nx (wipeE Γ2 ws)
   | o=>o
  | _=>.bad
@[simp] def dFor (it:IX) (pat:Pat) (ws:List Nat) (body:ST):ST:=fun Γ=>aft (it Γ) Γ fun xs=>if xs.1 then forL pat ws body xs.2 (wipeE Γ ws) else .bad
def runFn(np ns:Nat)(body:ST):FN:=fun args=>if args.length=np then
  match body (args.map (fun p=>some (.fz,p))++List.replicate (ns - np) none) with
  | .nx _=>.ok (.fz,.non)
  | .rt t p _=>.ok (t,p)
  | .exc c _=>.exc c
  | _=>.bad
 else .bad
end Vm
end
section
set_option linter.all false
namespace Vm
abbrev Tk:=Int ⊕ List Nat
mutual
def toks:PV→List Tk
 | .bl b=>[.inl (if b then 1 else 0)]
 | .int n=>[.inl n]
 | .str l=>[.inr l]
 | .tup l=>toksL l
 | .lst l=>toksL l
 | _=>[]
def toksL:List PV→List Tk
 | []=>[.inl 0]
 | x :: xs=>.inl 1 :: (toks x++toksL xs)
end
def tkLt:Tk→Tk→Bool
 | .inl a,.inl b=>decide (a < b)
 | .inl _,.inr _=>true
 | .inr _,.inl _=>false
 | .inr a,.inr b=>decide (a < b)
def lexT:List Tk→List Tk→Bool
 | [],[]=>false
 | [],_ :: _=>true
 | _ :: _,[]=>false
 | x :: r,y :: t=>tkLt x y || (!tkLt y x && lexT r t)
def ltv(p q:PV):Bool:=lexT (toks p) (toks q)
mutual
def alk:PV→PV→Bool
 | .bl _,.bl _=>true
 | .int _,.int _=>true
 | .str _,.str _=>true
 | .lst xs,.lst ys=>alkL xs ys
 | .tup xs,.tup ys=>alkL xs ys
 | .non,.non=>true
 | _,_=>false
def alkL:List PV→List PV→Bool
 | x :: xs,y :: ys=>alk x y && alkL xs ys
 | [],_=>true
 | _ :: _,[]=>true
end
def ordOk(l:List PV):Bool:=l.all (fun x=>!isNon x && l.all (fun y=>alk x y)) && shpL 50 l
def minP(x:PV)(xs:List PV):PV:=xs.foldl (fun a y=>if ltv y a then y else a) x
def maxP(x:PV)(xs:List PV):PV:=xs.foldl (fun a y=>if ltv a y then y else a) x
@[simp] def itemsV (x:TV):Res (List PV):=match x with
 | (t,.lst l)=>if flat1 t then .ok l else .bad
 | (_,.tup l)=>.ok l
 | _=>.bad
@[simp] def bestV (f:PV→List PV→PV) (x:TV):Res TV:=(itemsV x).bind fun l=>match l with
 | y :: ys=>if ordOk (y :: ys) then .ok (.fz,f y ys) else .bad
 | []=>.bad
@[simp] def eMinD (a:EX):EX:=fun Γ=>(a Γ).bind (bestV minP)
@[simp] def eMaxD (a:EX):EX:=fun Γ=>(a Γ).bind (bestV maxP)
@[simp] def bestDV (f:PV→List PV→PV) (x:TV) (d:PV):Res TV:=(itemsV x).bind fun l=>match l with
 | y :: ys=>if ordOk (y :: ys) then .ok (.fz,f y ys) else .bad
 | []=>if plainP d then .ok (.fz,d) else .bad
@[simp] def eMinDf (a b:EX):EX:=fun Γ=>(a Γ).bind fun x=>(b Γ).bind fun d=>bestDV minP x d.2
@[simp] def eMaxDf (a b:EX):EX:=fun Γ=>(a Γ).bind fun x=>(b Γ).bind fun d=>bestDV maxP x d.2
def srtOk(l:List PV):Bool:=ordOk l && (l.all (fun x=>match x with | .tup (_ :: _)=>true | _=>false) || l.all (fun x=>match x with | .tup _=>false | _=>true))
def sortP(l:List PV):List PV:=l.mergeSort fun a b=>!ltv b a
@[simp] def sortV (x:TV):Res TV:=match x with
 | (t,.lst l)=>if flat1 t && srtOk l && decide (l.length≤16777216) then .ok (.ow 1,.lst (sortP l)) else .bad
 | _=>.bad
@[simp] def eSorted (a:EX):EX:=fun Γ=>(a Γ).bind sortV
@[simp] def eChain (op op':PV→PV→Res PV) (a b c:EX):EX:=fun Γ=>(a Γ).bind fun x=>(b Γ).bind fun y=>(op x.2 y.2).bind fun z=>match z with
 | .bl true=>(c Γ).bind fun w=>(op' y.2 w.2).bind fzv
 | .bl false=>.ok (.fz,.bl false)
 | _=>.bad
@[simp] def opShl:PV→PV→Res PV
 | .int i,.int j=>if 0≤j∧j≤1000∧i.natAbs < 2 ^ 64 then .ok (.int (i * 2 ^ j.toNat)) else .bad
 | _,_=>.bad
@[simp] def revV (o:TV):Res TV:=match o with
 | (t,.lst l)=>if flat1 t then .ok (.ow 1,.lst l.reverse) else .bad
 | (_,.tup l)=>.ok (.fz,.tup l.reverse)
 | _=>.bad
@[simp] def eRevS (a:EX):EX:=fun Γ=>(a Γ).bind revV
def stepN(i j c:Int):Nat:=((j - i+c - 1) / c).toNat
def stepL(i j c:Int):List PV:=(List.range (stepN i j c)).map fun (k:Nat)=>.int (i+(k:Int) * c)
@[simp] def jRange3 (a b c:EX):IX:=fun Γ=>(a Γ).bind fun x=>(b Γ).bind fun y=>(c Γ).bind fun z=>match x.2,y.2,z.2 with
 | .int i,.int j,.int k=>if 0 < k∧k < 1073741824∧0≤i∧i < 1073741824∧0≤j∧j < 1073741824 then .ok (true,(stepL i j k).map fun p=>(.fz,p)) else .bad
 | _,_,_=>.bad
def natS(n:Nat):List Nat:=(Nat.toDigits 10 n).map Char.toNat
@[simp] def strV (x:TV):Res TV:=match x.2 with
 | .int (.ofNat n)=>if n.log2 < 1920 then .ok (.fz,.str (natS n)) else .bad
 | .str s=>.ok (.fz,.str s)
 | _=>.bad
@[simp] def eStr (a:EX):EX:=fun Γ=>(a Γ).bind strV
def figN(l:List Nat):Nat:=l.foldl (fun n c=>n * 10+(c - 48)) 0
def isFig(c:Nat):Bool:=Nat.ble 48 c && Nat.ble c 57
@[simp] def intTV (x:TV):Res TV:=match x.2 with
 | .str s=>if s ≠ []∧s.all isFig∧s.length≤640 then .ok (.fz,.int (figN s)) else .bad
 | x=>intV (.fz,x)
@[simp] def eIntT (a:EX):EX:=fun Γ=>(a Γ).bind intTV
def partS(Y:List Nat):List Nat→List Nat→List (List Nat)
 | [],acc=>[acc.reverse,[],[]]
 | c :: S,acc=>if Y.isPrefixOf (c :: S) then [acc.reverse,Y,(c :: S).drop Y.length] else partS Y S (c :: acc)
@[simp] def partV (s:List Nat) (y:TV):Res TV:=match y.2 with
 | .str (c :: Y)=>if s.length≤16777216 then .ok (.fz,.tup ((partS (c :: Y) s []).map .str)) else .bad
 | _=>.bad
end Vm
end
section
set_option linter.all false
set_option maxHeartbeats 1000000
namespace Vm
@[simp] def stepOut (ws:List Nat):Out→Option En
 | .nx Γ=>some (wipeE Γ ws)
 | .ct Γ=>some (wipeE Γ ws)
 | _=>none
@[simp] def turn (pat:Pat) (ws:List Nat) (body:ST) (Γ:En) (x:TV):Option En:=match bindP Γ x pat with
 | .ok Γ1=>stepOut ws (body Γ1)
 | _=>none
@[simp] def lcOne (Γ:En) (pat:Pat) (c:TX) (e:EX) (x:TV):Option (Option PV):=match bindP Γ x pat with
 | .ok Γ1=>match c Γ1 with
  | .ok true=>match e Γ1 with
   | .ok y=>match putV y with
    | .ok p=>some (some p)
    | _=>none
   | _=>none
  | .ok false=>some none
  | _=>none
 | _=>none
theorem lcGo_one{Γ:En}{pat:Pat}{c:TX}{e:EX}{x:TV}{xs:List TV}{o:Option PV}{r:List PV}(h:lcOne Γ pat c e x=some o)(h2:lcGo Γ pat c e xs = .ok r):lcGo Γ pat c e (x :: xs) = .ok (o.toList++r):=by
 unfold lcOne at h
 unfold lcGo
 cases e1:bindP Γ x pat with
 | ok Γ1 =>
  rw [e1] at h
  simp only at h
  rw [bind_ok]
  cases e2:c Γ1 with
  | ok b =>
   rw [e2] at h
   rw [bind_ok]
   cases b with
   | true =>
    simp only at h
    rw [if_pos rfl]
    cases e3:e Γ1 with
    | ok y =>
     rw [e3] at h
     simp only at h
     rw [bind_ok]
     cases e4:putV y with
     | ok p=>rw [e4] at h; simp only [Option.some.injEq] at h; subst h; rw [bind_ok,h2,bind_ok]; rfl
     | _=>rw [e4] at h; cases h
    | _=>rw [e3] at h; cases h
   | false =>
    simp only [Option.some.injEq] at h
    subst h
    rw [if_neg (by simp)]
    exact h2
  | _=>rw [e2] at h; cases h
 | _=>rw [e1] at h; cases h
theorem lcGo_map{α:Type}{Γ:En}{pat:Pat}{c:TX}{e:EX}(enc:α→TV)(g:α→PV):∀ xs:List α,(∀ x∈xs,lcOne Γ pat c e (enc x)=some (some (g x)))→lcGo Γ pat c e (xs.map enc) = .ok (xs.map g)
 | [],_=>rfl
 | x :: xs,h=>lcGo_one (h x (by simp)) (lcGo_map enc g xs fun z hz=>h z (by simp [hz]))
theorem map_map{α:Type}(f:α→PV)(xs:List α):(xs.map f).map (fun p=>((.fz,p):TV))=xs.map fun x=>(.fz,f x):=by rw [List.map_map]; rfl
theorem rng0_eq(hi:Int):(rngL 0 hi).map (fun p=>((.fz,p):TV))=(List.range hi.toNat).map fun (k:Nat)=>(.fz,.int (k:Int)):=by unfold rngL; rw [List.map_map,Int.sub_zero]; exact List.map_congr_left fun k _=>by show ((Tg.fz,PV.int (0+(k:Int))):TV)=_; rw [Int.zero_add]
theorem vAt_int{α:Type}{xs:List α}{i:Int}(h0:0≤i)(h1:i < xs.length):vAt xs i=some (xs[i.toNat]'(by omega)):=by
 unfold vAt vIxN
 rw [if_pos h0,if_pos h1]
 simp [List.getElem?_eq_getElem (show i.toNat < xs.length by omega)]
theorem vAt_map{α β:Type}(f:α→β)(xs:List α)(i:Int):vAt (xs.map f) i=(vAt xs i).map f:=by
 unfold vAt
 rw [List.length_map]
 cases vIxN xs.length i with
 | none=>rfl
 | some j=>show (xs.map f)[j]? = (xs[j]?).map f; rw [List.getElem?_map]
theorem vSix_nat{n d:Nat}{i:Int}(h:0≤i):vSix n d (some i)=min i.toNat n:=by
 show (if i < 0 then _ else _)=_
 rw [if_neg (by omega)]
theorem cut_take{α:Type}{xs:List α}{i:Int}(h:0≤i):cutL xs none (some i)=xs.take i.toNat:=by
 show (xs.drop 0).take (vSix xs.length xs.length (some i) - 0)=_
 rw [vSix_nat h,List.drop_zero,Nat.sub_zero]
 by_cases hl:i.toNat≤xs.length
 ·rw [Nat.min_eq_left hl]
 ·rw [Nat.min_eq_right (by omega),List.take_length,List.take_of_length_le (by omega)]
theorem cut_drop{α:Type}{xs:List α}{i:Int}(h:0≤i):cutL xs (some i) none=xs.drop i.toNat:=by
 show (xs.drop (vSix xs.length 0 (some i))).take (xs.length - vSix xs.length 0 (some i))=_
 rw [vSix_nat h]
 by_cases hl:i.toNat≤xs.length
 ·rw [Nat.min_eq_left hl]; exact List.take_of_length_le (by rw [List.length_drop]; omega)
 ·rw [Nat.min_eq_right (by omega),List.drop_of_length_le (by omega:xs.length≤xs.length),List.drop_of_length_le (by omega)]; simp
theorem cut_map{α β:Type}(f:α→β)(xs:List α)(lo hi:Option Int):cutL (xs.map f) lo hi=(cutL xs lo hi).map f:=by
 unfold cutL
 rw [List.length_map,List.map_take,List.map_drop]
theorem log2_lt_pow{a n:Nat}(h:a < 2 ^ n):a.log2≤n:=by
 by_cases ha:a=0
 ·subst ha; rw [Nat.log2_zero]; exact Nat.zero_le _
 ·exact Nat.le_of_lt ((Nat.log2_lt ha).mpr h)
theorem mulOk_of{a b:Int}{m n:Nat}(ha:a.natAbs < 2 ^ m)(hb:b.natAbs < 2 ^ n)(h:m+n < 50000000):mulOk a b=true:=by
 have h1:=log2_lt_pow ha
 have h2:=log2_lt_pow hb
 exact decide_eq_true (by omega)
end Vm
end
section
set_option linter.all false
set_option maxHeartbeats 1000000
namespace Vm
@[simp] def stopOut:Out→Option Out
 | .rt t p Γ=>some (.rt t p Γ)
 | .exc c Γ=>some (.exc c Γ)
 | _=>none
@[simp] def halt (pat:Pat) (body:ST) (Γ:En) (x:TV):Option Out:=match bindP Γ x pat with
 | .ok Γ1=>stopOut (body Γ1)
 | _=>none
theorem rng0_eq'(m:Nat):(rngL 0 (m:Int)).map (fun p=>((.fz,p):TV))=(List.range m).map fun (k:Nat)=>(.fz,.int (k:Int)):=by rw [rng0_eq]; rfl
end Vm
end
section
set_option linter.all false
set_option maxHeartbeats 1000000
set_option maxRecDepth 10000
namespace Vm
def RefG{α β:Type}(f:α→β)(o:Res β):Res α→Prop
 | .ok a=>o = .ok (f a)
 | .exc c=>o = .exc c
 | .bad=>True
section
variable {α β γ δ ι κ σ τ ρ:Type} {f:α→β} {g:γ→δ} {o:Res β} {r:Res α}
theorem RefG.bind{F:β→Res δ}{k:α→Res γ}(h:RefG f o r)(q:∀ a,RefG g (F (f a)) (k a)):RefG g (o.bind F) (r.bind k):=by
 cases r with
 | ok a =>
  have h:o = .ok (f a):=h
  rw [h]; exact q a
 | exc c =>
  have h:o = .exc c:=h
  rw [h]; exact rfl
 | bad=>exact trivial
theorem RefG.self{o:Res β}:RefG id o o:=by cases o <;> first | exact rfl | exact trivial
theorem RefG.ok{a:α}{o:Res β}(h:o = .ok (f a)):RefG f o (.ok a):=h
theorem RefG.eq{a:α}(h:RefG f o r)(e:r = .ok a):o = .ok (f a):=by rw [e] at h; exact h
theorem RefG.bad{o:Res β}:RefG f o .bad:=trivial
@[simp] def Res.map (f:α→β) (r:Res α):Res β:=r.bind fun a=>.ok (f a)
theorem bind_assoc(r:Res α)(f:α→Res β)(g:β→Res γ):(r.bind f).bind g=r.bind fun a=>(f a).bind g:=by cases r <;> rfl
theorem RefG.co{f':γ→β}{c:α→γ}(h:RefG f o r)(e:∀ a,f' (c a)=f a):RefG f' o (r.map c):=by
 cases r with
 | ok a =>
  have h:o = .ok (f a):=h
  rw [h,← e a]; exact rfl
 | exc c=>exact h
 | bad=>exact trivial
end
@[simp] def kI:Int→PV:=.int
@[simp] def kB:Bool→PV:=.bl
@[simp] def kS:List Nat→PV:=.str
@[simp] def kN:Unit→PV:=fun _=>.non
@[simp] def kV:PV→PV:=fun p=>p
@[simp] def kO {α:Type} (k:α→PV):Option α→PV
 | none=>.non
 | some a=>k a
@[simp] def kL {α:Type} (k:α→PV) (l:List α):PV:=.lst (l.map k)
@[simp] def kT {α:Type} (k:α→PV) (l:List α):PV:=.tup (l.map k)
@[simp] def kP1 {α:Type} (a:α→PV) (x:α):PV:=.tup [a x]
@[simp] def kP2 {α β:Type} (a:α→PV) (b:β→PV) (x:α×β):PV:=.tup [a x.1,b x.2]
@[simp] def kP3 {α β γ:Type} (a:α→PV) (b:β→PV) (c:γ→PV) (x:α×β×γ):PV:=.tup [a x.1,b x.2.1,c x.2.2]
@[simp] def kP4 {α β γ δ:Type} (a:α→PV) (b:β→PV) (c:γ→PV) (d:δ→PV) (x:α×β×γ×δ):PV:=.tup [a x.1,b x.2.1,c x.2.2.1,d x.2.2.2]
@[simp] def kP5 {α β γ δ ε:Type} (a:α→PV) (b:β→PV) (c:γ→PV) (d:δ→PV) (e:ε→PV) (x:α×β×γ×δ×ε):PV:=.tup [a x.1,b x.2.1,c x.2.2.1,d x.2.2.2.1,e x.2.2.2.2]
@[simp] def kQ1 {α:Type} (a:α→PV) (x:α):PV:=.lst [a x]
@[simp] def kQ2 {α β:Type} (a:α→PV) (b:β→PV) (x:α×β):PV:=.lst [a x.1,b x.2]
@[simp] def kQ3 {α β γ:Type} (a:α→PV) (b:β→PV) (c:γ→PV) (x:α×β×γ):PV:=.lst [a x.1,b x.2.1,c x.2.2]
@[simp] def kQ4 {α β γ δ:Type} (a:α→PV) (b:β→PV) (c:γ→PV) (d:δ→PV) (x:α×β×γ×δ):PV:=.lst [a x.1,b x.2.1,c x.2.2.1,d x.2.2.2]
abbrev tv{α:Type}(t:Tg)(k:α→PV)(a:α):TV:=(t,k a)
class Enc {α:Type} [DecidableEq α] (k:α→PV) where
 d:Nat
 eq:∀ a b,eqv (k a) (k b)=decide (a=b)
 sh:∀ n,d≤n→∀ a,shp n (k a)=true
class NN {α:Type} (k:α→PV):Prop where
 n:∀ a,k a ≠ .non
theorem eqv_non_l{p:PV}(h:p ≠ .non):eqv .non p=false:=by cases p <;> first | rfl | exact absurd rfl h
theorem eqv_non_r{p:PV}(h:p ≠ .non):eqv p .non=false:=by cases p <;> first | rfl | exact absurd rfl h
instance:Enc kI where
 d:=0
 eq:=fun a b=>by simp only [kI,eqv]; rw [Bool.eq_iff_iff]; simp
 sh:=fun n _ a=>by cases n <;> rfl
instance:Enc kB where
 d:=0
 eq:=fun a b=>by cases a <;> cases b <;> rfl
 sh:=fun n _ a=>by cases n <;> rfl
instance:Enc kS where
 d:=0
 eq:=fun a b=>by simp only [kS,eqv]; rw [Bool.eq_iff_iff]; simp
 sh:=fun n _ a=>by cases n <;> rfl
instance:Enc kN where
 d:=0
 eq:=fun a b=>rfl
 sh:=fun n _ a=>by cases n <;> rfl
instance:NN kI:=⟨fun a h=>by cases h⟩
instance:NN kB:=⟨fun a h=>by cases h⟩
instance:NN kS:=⟨fun a h=>by cases h⟩
section
variable {α β γ δ ε:Type} [DecidableEq α] [DecidableEq β] [DecidableEq γ] [DecidableEq δ] [DecidableEq ε] {a:α→PV} {b:β→PV} {c:γ→PV} {d:δ→PV} {e:ε→PV}
instance {k:α→PV}:NN (kL k):=⟨fun a h=>by cases h⟩
instance {k:α→PV}:NN (kT k):=⟨fun a h=>by cases h⟩
instance:NN (kP1 a):=⟨fun a h=>by cases h⟩
instance:NN (kP2 a b):=⟨fun a h=>by cases h⟩
instance:NN (kP3 a b c):=⟨fun a h=>by cases h⟩
instance:NN (kP4 a b c d):=⟨fun a h=>by cases h⟩
instance:NN (kP5 a b c d e):=⟨fun a h=>by cases h⟩
instance:NN (kQ1 a):=⟨fun a h=>by cases h⟩
instance:NN (kQ2 a b):=⟨fun a h=>by cases h⟩
instance:NN (kQ3 a b c):=⟨fun a h=>by cases h⟩
instance [Enc a] [NN a]:Enc (kO a) where
 d:=Enc.d a
 eq:=fun x y=>by
  cases x <;> cases y <;> simp only [kO]
  ·rfl
  ·rw [eqv_non_l (NN.n _)]; simp
  ·rw [eqv_non_r (NN.n _)]; simp
  ·rw [Enc.eq]; simp
 sh:=fun n h x=>by
  cases x
  ·cases n <;> rfl
  ·exact Enc.sh n h _
theorem eqvL_enc[Enc a]:∀ l m:List α,eqvL (l.map a) (m.map a)=decide (l=m)
 | [],[]=>rfl
 | [],_ :: _=>rfl
 | _ :: _,[]=>rfl
 | x :: l,y :: m=>by
  rw [List.map_cons,List.map_cons,eqvL,Enc.eq,eqvL_enc l m,Bool.eq_iff_iff]
  simp
theorem shpL_enc[Enc a](n:Nat)(h:Enc.d a≤n):∀ l:List α,shpL n (l.map a)=true
 | []=>by rw [List.map_nil,shpL]
 | x :: l=>by rw [List.map_cons,shpL,Enc.sh n h,shpL_enc n h l]; rfl
instance [Enc a]:Enc (kL a) where
 d:=Enc.d a+1
 eq:=fun x y=>by simp only [kL,eqv]; exact eqvL_enc x y
 sh:=fun n h x=>by
  cases n with
  | zero=>omega
  | succ n=>simp only [kL,shp]; exact shpL_enc n (by omega) x
instance [Enc a]:Enc (kT a) where
 d:=Enc.d a+1
 eq:=fun x y=>by simp only [kT,eqv]; exact eqvL_enc x y
 sh:=fun n h x=>by
  cases n with
  | zero=>omega
  | succ n=>simp only [kT,shp]; exact shpL_enc n (by omega) x
instance [Enc a]:Enc (kP1 a) where
 d:=Enc.d a+1
 eq:=fun x y=>by simp only [kP1,eqv,eqvL,Enc.eq,Bool.and_true]
 sh:=fun n h x=>by
  cases n with
  | zero=>omega
  | succ n=>simp only [kP1,shp,shpL,Enc.sh (k:=a) n (by omega),Bool.and_true]
instance [Enc a] [Enc b]:Enc (kP2 a b) where
 d:=max (Enc.d a) (Enc.d b)+1
 eq:=fun x y=>by
  simp only [kP2,eqv,eqvL,Enc.eq,Bool.and_true]; rw [Bool.eq_iff_iff]; simp [Prod.ext_iff]
 sh:=fun n h x=>by
  cases n with
  | zero=>omega
  | succ n=>simp only [kP2,shp,shpL,Enc.sh (k:=a) n (by omega),Enc.sh (k:=b) n (by omega),Bool.and_true]
instance [Enc a] [Enc b] [Enc c]:Enc (kP3 a b c) where
 d:=max (Enc.d a) (max (Enc.d b) (Enc.d c))+1
 eq:=fun x y=>by
  simp only [kP3,eqv,eqvL,Enc.eq,Bool.and_true]; rw [Bool.eq_iff_iff]; simp [Prod.ext_iff]
 sh:=fun n h x=>by
  cases n with
  | zero=>omega
  | succ n=>simp only [kP3,shp,shpL,Enc.sh (k:=a) n (by omega),Enc.sh (k:=b) n (by omega),Enc.sh (k:=c) n (by omega),Bool.and_true]
instance [Enc a] [Enc b] [Enc c] [Enc d]:Enc (kP4 a b c d) where
 d:=max (Enc.d a) (max (Enc.d b) (max (Enc.d c) (Enc.d d)))+1
 eq:=fun x y=>by
  simp only [kP4,eqv,eqvL,Enc.eq,Bool.and_true]; rw [Bool.eq_iff_iff]; simp [Prod.ext_iff]
 sh:=fun n h x=>by
  cases n with
  | zero=>omega
  | succ n=>simp only [kP4,shp,shpL,Enc.sh (k:=a) n (by omega),Enc.sh (k:=b) n (by omega),Enc.sh (k:=c) n (by omega),Enc.sh (k:=d) n (by omega),Bool.and_true]
instance [Enc a]:Enc (kQ1 a) where
 d:=Enc.d a+1
 eq:=fun x y=>by simp only [kQ1,eqv,eqvL,Enc.eq,Bool.and_true]
 sh:=fun n h x=>by
  cases n with
  | zero=>omega
  | succ n=>simp only [kQ1,shp,shpL,Enc.sh (k:=a) n (by omega),Bool.and_true]
instance [Enc a] [Enc b]:Enc (kQ2 a b) where
 d:=max (Enc.d a) (Enc.d b)+1
 eq:=fun x y=>by
  simp only [kQ2,eqv,eqvL,Enc.eq,Bool.and_true]; rw [Bool.eq_iff_iff]; simp [Prod.ext_iff]
 sh:=fun n h x=>by
  cases n with
  | zero=>omega
  | succ n=>simp only [kQ2,shp,shpL,Enc.sh (k:=a) n (by omega),Enc.sh (k:=b) n (by omega),Bool.and_true]
end
end Vm
end
section
set_option linter.all false
set_option maxHeartbeats 1000000
set_option maxRecDepth 10000
namespace Vm
def ixR{α:Type}(l:List α)(i:Int):Res α:=match vAt l i with
 | some x=>.ok x
 | none=>.bad
def getO{α:Type}:Option α→Res α
 | some a=>.ok a
 | none=>.bad
def mulR(i j:Int):Res Int:=if mulOk i j then .ok (i * j) else .bad
def modR(i j:Int):Res Int:=if 0 < j then .ok (i % j) else .bad
def szR{α:Type}(l:List α):Res (List α):=if l.length≤16777216 then .ok l else .bad
def appR{α:Type}(l:List α)(x:α):Res (List α):=if l.length < 16777216 then .ok (l++[x]) else .bad
def catR{α:Type}(l m:List α):Res (List α):=if l.length+m.length≤16777216 then .ok (l++m) else .bad
def rngI(lo hi:Int):List Int:=(List.range (hi - lo).toNat).map fun (k:Nat)=>lo+(k:Int)
def rngR(hi:Int):Res (List Int):=if rngOk hi then .ok (rngI 0 hi) else .bad
def rng2R(lo hi:Int):Res (List Int):=if rngOk lo && rngOk hi then .ok (rngI lo hi) else .bad
def setR{α:Type}(l:List α)(i:Int)(x:α):Res (List α):=match vIxN l.length i with
 | some n=>.ok (l.set n x)
 | none=>.bad
def enumT{α:Type}(l:List α):List (Int×α):=l.mapIdx fun i x=>((i:Int),x)
def memB{α:Type}[DecidableEq α](x:α)(l:List α):Bool:=decide (x∈l)
theorem memB_iff{α:Type}[DecidableEq α]{x:α}{l:List α}:memB x l=true ↔ x∈l:=by unfold memB; exact decide_eq_true_iff
def lcR{ι α:Type}(c:ι→Res Bool)(f:ι→Res α):List ι→Res (List α)
 | []=>.ok []
 | x :: xs=>(c x).bind fun b=>if b then (f x).bind fun y=>(lcR c f xs).bind fun r=>.ok (y :: r) else lcR c f xs
def mapR{ι α:Type}(f:ι→Res α):List ι→Res (List α)
 | []=>.ok []
 | x :: xs=>(f x).bind fun y=>(mapR f xs).bind fun r=>.ok (y :: r)
inductive Ctl (σ ρ:Type) where
 | nx (s:σ) | bk (s:σ) | rt (r:ρ)
def forT{σ ρ ι:Type}(F:σ→ι→Res (Ctl σ ρ)):List ι→σ→Res (Ctl σ ρ)
 | [],s=>.ok (.nx s)
 | x :: xs,s=>(F s x).bind fun
  | .nx s'=>forT F xs s'
  | .bk s'=>.ok (.nx s')
  | .rt r=>.ok (.rt r)
def forS{σ ι:Type}(F:σ→ι→Res σ):List ι→σ→Res σ
 | [],s=>.ok s
 | x :: xs,s=>(F s x).bind fun s'=>forS F xs s'
def Ctl.then{σ ρ β:Type}(c:Ctl σ ρ)(ret:ρ→Res β)(k:σ→Res β):Res β:=match c with
 | .nx s=>k s
 | .bk s=>k s
 | .rt r=>ret r
section
variable {Γ:En} {α β γ δ ε ι σ τ ρ κ:Type} {a b c:EX} {A B C:Res α}
theorem rV{e:EX}(t:Tg)(k:α→PV)(x:α)(h:e Γ = .ok (t,k x):=by rfl):RefG (tv t k) (e Γ) (.ok x):=h
variable {t u v:Tg} {ka:α→PV} {kb:β→PV} {kc:γ→PV} {kd:δ→PV}
theorem rAddI{A B:Res Int}(ha:RefG (tv t kI) (a Γ) A)(hb:RefG (tv u kI) (b Γ) B):RefG (tv .fz kI) (eAdd a b Γ) (A.bind fun x=>B.bind fun y=>.ok (x+y)) :=
 ha.bind fun x=>hb.bind fun y=>rfl
theorem rSub{A B:Res Int}(ha:RefG (tv t kI) (a Γ) A)(hb:RefG (tv u kI) (b Γ) B):RefG (tv .fz kI) (eOp2 opSub a b Γ) (A.bind fun x=>B.bind fun y=>.ok (x - y)) :=
 ha.bind fun x=>hb.bind fun y=>rfl
theorem rFdivC{A:Res Int}{n:Int}(ha:RefG (tv t kI) (a Γ) A)(h:(0 < n∧n.natAbs.log2 < 9000):=by decide):RefG (tv .fz kI) (eOp2 opFdiv a (eC (.int n)) Γ) (A.bind fun x=>.ok (x / n)) :=
 ha.bind fun x=>by show (opFdiv (.int x) (.int n)).bind fzv=_; rw [opFdiv,if_pos h]; rfl
theorem rMod{A B:Res Int}(ha:RefG (tv t kI) (a Γ) A)(hb:RefG (tv u kI) (b Γ) B):RefG (tv .fz kI) (eOp2 opMod a b Γ) (A.bind fun x=>B.bind fun y=>modR x y) :=
 ha.bind fun x=>hb.bind fun y=>by
  unfold modR; by_cases h:0 < y
  ·rw [if_pos h]; simp [opMod,h,RefG]
  ·rw [if_neg h]; exact trivial
theorem rModC{A:Res Int}{n:Int}(ha:RefG (tv t kI) (a Γ) A)(h:0 < n:=by decide):RefG (tv .fz kI) (eOp2 opMod a (eC (.int n)) Γ) (A.bind fun x=>.ok (x % n)) :=
 ha.bind fun x=>by show (opMod (.int x) (.int n)).bind fzv=_; rw [opMod,if_pos h]; rfl
theorem rNeg{A:Res Int}(ha:RefG (tv t kI) (a Γ) A):RefG (tv .fz kI) (eOp1 opNeg a Γ) (A.bind fun x=>.ok (-x)):=ha.bind fun x=>rfl
theorem rLt{A B:Res Int}(ha:RefG (tv t kI) (a Γ) A)(hb:RefG (tv u kI) (b Γ) B):RefG (tv .fz kB) (eOp2 opLt a b Γ) (A.bind fun x=>B.bind fun y=>.ok (decide (x < y))) :=
 ha.bind fun x=>hb.bind fun y=>rfl
theorem rLe{A B:Res Int}(ha:RefG (tv t kI) (a Γ) A)(hb:RefG (tv u kI) (b Γ) B):RefG (tv .fz kB) (eOp2 opLe a b Γ) (A.bind fun x=>B.bind fun y=>.ok (decide (x≤y))) :=
 ha.bind fun x=>hb.bind fun y=>rfl
theorem rGe{A B:Res Int}(ha:RefG (tv t kI) (a Γ) A)(hb:RefG (tv u kI) (b Γ) B):RefG (tv .fz kB) (eOp2 opGe a b Γ) (A.bind fun x=>B.bind fun y=>.ok (decide (y≤x))) :=
 ha.bind fun x=>hb.bind fun y=>rfl
theorem rEq[DecidableEq α][Enc ka](ha:RefG (tv t ka) (a Γ) A)(hb:RefG (tv u ka) (b Γ) B)(hd:Enc.d ka≤60:=by decide):RefG (tv .fz kB) (eOp2 opEq a b Γ) (A.bind fun x=>B.bind fun y=>.ok (decide (x=y))) :=
 ha.bind fun x=>hb.bind fun y=>by simp [opEq,Enc.sh (k:=ka) 60 hd,Enc.eq,RefG,tv]
theorem rNe[DecidableEq α][Enc ka](ha:RefG (tv t ka) (a Γ) A)(hb:RefG (tv u ka) (b Γ) B)(hd:Enc.d ka≤60:=by decide):RefG (tv .fz kB) (eOp2 opNe a b Γ) (A.bind fun x=>B.bind fun y=>.ok (!decide (x=y))) :=
 ha.bind fun x=>hb.bind fun y=>by simp [opNe,Enc.sh (k:=ka) 60 hd,Enc.eq,RefG,tv]
theorem xV{A:Res Bool}(ha:RefG (tv t kB) (a Γ) A):RefG id (xVal a Γ) A:=by
 cases A with
 | ok b =>
  have h:a Γ = .ok (t,.bl b):=ha
  show (a Γ).bind _=_
  rw [h]; rfl
 | exc c =>
  have h:a Γ = .exc c:=ha
  show (a Γ).bind _=_
  rw [h]; rfl
 | bad=>exact trivial
variable {T U:TX} {D E:Res Bool}
theorem xA(ha:RefG id (T Γ) D)(hb:RefG id (U Γ) E):RefG id (xAnd T U Γ) (D.bind fun x=>if x then E else .ok false):=ha.bind fun x=>by cases x <;> first | exact hb | exact rfl
theorem xO(ha:RefG id (T Γ) D)(hb:RefG id (U Γ) E):RefG id (xOr T U Γ) (D.bind fun x=>if x then .ok true else E):=ha.bind fun x=>by cases x <;> first | exact hb | exact rfl
theorem xN(ha:RefG id (T Γ) D):RefG id (xNot T Γ) (D.bind fun x=>.ok (!x)):=ha.bind fun x=>rfl
@[simp] def ixT:Tg→Tg:=dn
theorem rIxL{A:Res (List α)}{B:Res Int}(ha:RefG (tv t (kL ka)) (a Γ) A)(hb:RefG (tv u kI) (b Γ) B):RefG (tv (dn t) ka) (eIdx a b Γ) (A.bind fun x=>B.bind fun y=>ixR x y) :=
 ha.bind fun x=>hb.bind fun y=>by
  unfold ixR
  cases h:vAt x y with
  | none=>exact trivial
  | some z=>simp [ixV,vAt_map,h,RefG,tv]
theorem rIxT{A:Res (List α)}{B:Res Int}(ha:RefG (tv t (kT ka)) (a Γ) A)(hb:RefG (tv u kI) (b Γ) B):RefG (tv .fz ka) (eIdx a b Γ) (A.bind fun x=>B.bind fun y=>ixR x y) :=
 ha.bind fun x=>hb.bind fun y=>by
  unfold ixR
  cases h:vAt x y with
  | none=>exact trivial
  | some z=>simp [ixV,vAt_map,h,RefG,tv]
theorem rIxS{A:Res (List Nat)}{B:Res Int}(ha:RefG (tv t kS) (a Γ) A)(hb:RefG (tv u kI) (b Γ) B):RefG (tv .fz kS) (eIdx a b Γ) (A.bind fun x=>B.bind fun y=>(ixR x y).bind fun c=>.ok [c]) :=
 ha.bind fun x=>hb.bind fun y=>by
  unfold ixR
  cases h:vAt x y with
  | none=>exact trivial
  | some z=>simp [ixV,h,RefG,tv]
theorem rIxP{i:Int}{pr:α→β}(ha:RefG (tv t ka) (a Γ) A)(h:∀ x,ixV (t,ka x) (.int i) = .ok (u,kb (pr x)):=by intro _; rfl):RefG (tv u kb) (eIdx a (eC (.int i)) Γ) (A.bind fun x=>.ok (pr x)) :=
 ha.bind fun x=>h x
theorem oN:RefG id (oNone Γ) (.ok none):=rfl
theorem oS{A:Res Int}(ha:RefG (tv t kI) (a Γ) A):RefG id (oSome a Γ) (A.bind fun x=>.ok (some x)):=ha.bind fun x=>rfl
variable {lo hi:OX} {L H:Res (Option Int)}
theorem rSlL{A:Res (List α)}(ha:RefG (tv t (kL ka)) (a Γ) A)(hl:RefG id (lo Γ) L)(hh:RefG id (hi Γ) H)(hf:flat1 t=true:=by rfl):RefG (tv (.ow 1) (kL ka)) (eSlice a lo hi Γ) (A.bind fun x=>L.bind fun l=>H.bind fun h=>.ok (cutL x l h)) :=
 ha.bind fun x=>hl.bind fun l=>hh.bind fun h=>by simp [sliceV,hf,cut_map,RefG,tv,-flat1]
theorem rSlT{A:Res (List α)}(ha:RefG (tv t (kT ka)) (a Γ) A)(hl:RefG id (lo Γ) L)(hh:RefG id (hi Γ) H):RefG (tv .fz (kT ka)) (eSlice a lo hi Γ) (A.bind fun x=>L.bind fun l=>H.bind fun h=>.ok (cutL x l h)) :=
 ha.bind fun x=>hl.bind fun l=>hh.bind fun h=>by simp [sliceV,cut_map,RefG,tv]
theorem rSlS{A:Res (List Nat)}(ha:RefG (tv t kS) (a Γ) A)(hl:RefG id (lo Γ) L)(hh:RefG id (hi Γ) H):RefG (tv .fz kS) (eSlice a lo hi Γ) (A.bind fun x=>L.bind fun l=>H.bind fun h=>.ok (cutL x l h)) :=
 ha.bind fun x=>hl.bind fun l=>hh.bind fun h=>rfl
theorem rAddS{A B:Res (List Nat)}(ha:RefG (tv t kS) (a Γ) A)(hb:RefG (tv u kS) (b Γ) B):RefG (tv .fz kS) (eAdd a b Γ) (A.bind fun x=>B.bind fun y=>catR x y) :=
 ha.bind fun x=>hb.bind fun y=>by
  unfold catR
  by_cases h:x.length+y.length≤16777216
  ·rw [if_pos h]; simp [addV,h,RefG,tv]
  ·rw [if_neg h]; exact trivial
theorem rAddL{A B:Res (List α)}(ha:RefG (tv t (kL ka)) (a Γ) A)(hb:RefG (tv u (kL ka)) (b Γ) B)(h1:flat1 t=true:=by rfl)(h2:flat1 u=true:=by rfl):RefG (tv (.ow 1) (kL ka)) (eAdd a b Γ) (A.bind fun x=>B.bind fun y=>catR x y) :=
 ha.bind fun x=>hb.bind fun y=>by
  unfold catR
  by_cases h:x.length+y.length≤16777216
  ·rw [if_pos h]; simp [addV,h,h1,h2,RefG,tv,-flat1]
  ·rw [if_neg h]; exact trivial
theorem rAddT{A B:Res (List α)}(ha:RefG (tv t (kT ka)) (a Γ) A)(hb:RefG (tv u (kT ka)) (b Γ) B):RefG (tv .fz (kT ka)) (eAdd a b Γ) (A.bind fun x=>B.bind fun y=>catR x y) :=
 ha.bind fun x=>hb.bind fun y=>by
  unfold catR
  by_cases h:x.length+y.length≤16777216
  ·rw [if_pos h]; simp [addV,h,RefG,tv]
  ·rw [if_neg h]; exact trivial
theorem rLenL{A:Res (List α)}(ha:RefG (tv t (kL ka)) (a Γ) A):RefG (tv .fz kI) (eLen a Γ) (A.bind fun x=>.ok (x.length:Int)):=ha.bind fun x=>by simp [RefG,tv]
theorem rLenT{A:Res (List α)}(ha:RefG (tv t (kT ka)) (a Γ) A):RefG (tv .fz kI) (eLen a Γ) (A.bind fun x=>.ok (x.length:Int)):=ha.bind fun x=>by simp [RefG,tv]
theorem rLenS{A:Res (List Nat)}(ha:RefG (tv t kS) (a Γ) A):RefG (tv .fz kI) (eLen a Γ) (A.bind fun x=>.ok (x.length:Int)):=ha.bind fun x=>by simp [RefG,tv]
theorem rTupL{A:Res (List α)}(ha:RefG (tv t (kL ka)) (a Γ) A)(hf:flat1 t=true:=by rfl):RefG (tv .fz (kT ka)) (eTuple a Γ) A:=by
 have:=ha.bind (F:=fun x=>match x with
  | (t,.lst l)=>if flat1 t then .ok (.fz,.tup l) else .bad
  | (_,.tup l)=>.ok (.fz,.tup l)
  | _=>.bad) (g:=tv .fz (kT ka)) (k:=fun l=>.ok l) fun x=>by simp [hf,RefG,tv,-flat1]
 cases A <;> exact this
theorem allBl_map:∀ l:List Bool,allBl (l.map .bl) = .ok (l.all id)
 | []=>rfl
 | b :: l=>by rw [List.map_cons,allBl,allBl_map l]; rfl
theorem rAll{A:Res (List Bool)}(ha:RefG (tv t (kL kB)) (a Γ) A):RefG (tv .fz kB) (eAll a Γ) (A.bind fun x=>.ok (x.all id)):=ha.bind fun x=>by
 have:=allBl_map x
 simp [kB,RefG,tv] at this ⊢
 rw [this]; rfl
theorem any_eqv[DecidableEq α][Enc ka](x:α):∀ l:List α,((l.map ka).any fun z=>eqv z (ka x))=decide (x∈l)
 | []=>by simp
 | y :: l=>by
  rw [List.map_cons,List.any_cons,any_eqv x l,Enc.eq,Bool.eq_iff_iff,Bool.or_eq_true,decide_eq_true_eq,decide_eq_true_eq,decide_eq_true_eq,List.mem_cons]
  exact ⟨fun h=>h.elim (fun e=>.inl e.symm) .inr,fun h=>h.elim (fun e=>.inl e.symm) .inr⟩
theorem inB_L[DecidableEq α][Enc ka](hd:Enc.d ka≤50)(x:α)(l:List α):inB (ka x) (kL ka l) = .ok (decide (x∈l)):=by
 simp only [kL,inB]
 rw [Enc.sh (k:=ka) 50 hd,shpL_enc 50 hd,any_eqv]; rfl
theorem rInL[DecidableEq α][Enc ka]{B:Res (List α)}(ha:RefG (tv t ka) (a Γ) A)(hb:RefG (tv u (kL ka)) (b Γ) B)(hd:Enc.d ka≤50:=by decide):RefG (tv .fz kB) (eOp2 opIn a b Γ) (A.bind fun x=>B.bind fun y=>.ok (memB x y)) :=
 ha.bind fun x=>hb.bind fun y=>by
  show (((inB (ka x) (kL ka y)).bind fun b=>.ok (.bl b)):Res PV).bind fzv=_
  rw [inB_L hd]; rfl
theorem rNotInL[DecidableEq α][Enc ka]{B:Res (List α)}(ha:RefG (tv t ka) (a Γ) A)(hb:RefG (tv u (kL ka)) (b Γ) B)(hd:Enc.d ka≤50:=by decide):RefG (tv .fz kB) (eOp2 opNotIn a b Γ) (A.bind fun x=>B.bind fun y=>.ok (!memB x y)) :=
 ha.bind fun x=>hb.bind fun y=>by
  show (((inB (ka x) (kL ka y)).bind fun b=>.ok (.bl (!b))):Res PV).bind fzv=_
  rw [inB_L hd]; rfl
class Pl (k:α→PV):Prop where
 p:∀ a,plainP (k a)=true
instance:Pl kI:=⟨fun _=>rfl⟩
instance:Pl kB:=⟨fun _=>rfl⟩
instance:Pl kS:=⟨fun _=>rfl⟩
instance [Pl ka]:Pl (kO ka):=⟨fun a=>by cases a with
 | none=>rfl
 | some a=>exact Pl.p (k:=ka) a⟩
end
end Vm
end
section
set_option linter.all false
set_option maxHeartbeats 1000000
set_option maxRecDepth 10000
namespace Vm
section
variable {Γ:En} {α β γ δ ε ι σ τ ρ κ:Type} {a b c e:EX} {as:EXs} {A B C:Res α} {t u v:Tg} {ka:α→PV} {kb:β→PV} {kc:γ→PV} {kd:δ→PV}
theorem argsC{f:α→TV}{g:γ→δ}{F:List TV→Res δ}{K:α→Res γ}(ha:RefG f (a Γ) A)(h:∀ x,RefG g ((as Γ).bind fun xs=>F (f x :: xs)) (K x)):RefG g ((eCons a as Γ).bind F) (A.bind K):=by
 show RefG g (((a Γ).bind fun x=>(as Γ).bind fun xs=>.ok (x :: xs)).bind F) _
 rw [bind_assoc]
 refine ha.bind fun x=>?_
 rw [bind_assoc]
 exact h x
theorem argsN{g:γ→δ}{F:List TV→Res δ}{K:Res γ}(h:RefG g (F []) K):RefG g ((eNil Γ).bind F) K:=h
theorem argsE(g:γ→δ)(x:γ){F:List TV→Res δ}(h:F [] = .ok (g x)):RefG g ((eNil Γ).bind F) (.ok x):=h
theorem rCallB{f:FN}{xs:List TV}{g:γ→TV}{R:Res γ}(ps:List PV)(hf:RefG g (f ps) R)(hp:xs.map (·.2)=ps:=by rfl)(hb:xs.any isBw=false:=by rfl):RefG g ((f (xs.map (·.2))).bind fun r=>if xs.any isBw && !stabR r then .bad else .ok r) R:=by
 rw [hp,hb]
 have:=hf.bind (F:=fun r=>if false && !stabR r then .bad else .ok r) (g:=g) (k:=fun x=>.ok x) fun x=>rfl
 cases R <;> exact this
theorem rCallS{f:FN}{xs:List TV}{g:γ→TV}{R:Res γ}(ps:List PV)(hf:RefG g (f ps) R)(hs:∀ x,stabR (g x)=true)(hp:xs.map (·.2)=ps:=by rfl):RefG g ((f (xs.map (·.2))).bind fun r=>if xs.any isBw && !stabR r then .bad else .ok r) R:=by
 rw [hp]
 have:=hf.bind (F:=fun r=>if xs.any isBw && !stabR r then .bad else .ok r) (g:=g) (k:=fun x=>.ok x) fun x=>by rw [hs,Bool.not_true,Bool.and_false]; rfl
 cases R <;> exact this
class St (k:α→PV):Prop where
 s:∀ a,stab (k a)=true
instance:St kI:=⟨fun _=>rfl⟩
instance:St kB:=⟨fun _=>rfl⟩
instance:St kS:=⟨fun _=>rfl⟩
instance:St kN:=⟨fun _=>rfl⟩
instance [St ka]:St (kO ka):=⟨fun a=>by cases a with
 | none=>rfl
 | some a=>exact St.s (k:=ka) a⟩
theorem stabL_map[St ka]:∀ l:List α,stabL (l.map ka)=true
 | []=>rfl
 | x :: l=>by rw [List.map_cons,stabL,St.s,stabL_map l]; rfl
instance [St ka]:St (kT ka):=⟨fun l=>by simp only [kT,stab]; exact stabL_map l⟩
instance [St ka]:St (kP1 ka):=⟨fun x=>by simp only [kP1,stab,stabL,St.s]; rfl⟩
instance [St ka] [St kb]:St (kP2 ka kb):=⟨fun x=>by simp only [kP2,stab,stabL,St.s]; rfl⟩
instance [St ka] [St kb] [St kc]:St (kP3 ka kb kc):=⟨fun x=>by simp only [kP3,stab,stabL,St.s]; rfl⟩
instance [St ka] [St kb] [St kc] [St kd]:St (kP4 ka kb kc kd):=⟨fun x=>by simp only [kP4,stab,stabL,St.s]; rfl⟩
theorem st_fz[St ka](x:α):stabR (tv .fz ka x)=true:=St.s (k:=ka) x
abbrev itv{α:Type}(fl:Bool)(f:α→TV)(xs:List α):Bool×List TV:=(fl,xs.map f)
@[simp] def noBw:Tg→Bool
 | .bw _=>false
 | _=>true
theorem iSeqL{A:Res (List α)}(ha:RefG (tv t (kL ka)) (a Γ) A)(ht:noBw t=true:=by rfl):RefG (itv true (tv .fz ka)) (jSeq a Γ) A:=by
 have:=ha.bind (F:=fun x=>match x.2 with
  | .lst l=>match x.1 with
   | .bw d=>.ok (false,l.map fun p=>(dn (.bw d),p))
   | _=>.ok (true,l.map fun p=>(.fz,p))
  | .tup l=>.ok (true,l.map fun p=>(.fz,p))
  | .str l=>.ok (true,l.map fun c=>(.fz,.str [c]))
  | _=>.bad) (g:=itv true (tv .fz ka)) (k:=fun l=>.ok l) fun x=>by
   cases t with
   | bw d=>cases ht
   | fz=>simp [RefG,itv,tv]
   | ow d=>simp [RefG,itv,tv]
 cases A <;> exact this
theorem iSeqT{A:Res (List α)}(ha:RefG (tv t (kT ka)) (a Γ) A):RefG (itv true (tv .fz ka)) (jSeq a Γ) A:=by
 have:=ha.bind (F:=fun x=>match x.2 with
  | .lst l=>match x.1 with
   | .bw d=>.ok (false,l.map fun p=>(dn (.bw d),p))
   | _=>.ok (true,l.map fun p=>(.fz,p))
  | .tup l=>.ok (true,l.map fun p=>(.fz,p))
  | .str l=>.ok (true,l.map fun c=>(.fz,.str [c]))
  | _=>.bad) (g:=itv true (tv .fz ka)) (k:=fun l=>.ok l) fun x=>by simp [RefG,itv,tv]
 cases A <;> exact this
def signs(l:List Nat):List (List Nat):=l.map fun c=>[c]
theorem rngL_I(lo hi:Int):rngL lo hi=(rngI lo hi).map .int:=by unfold rngL rngI; rw [List.map_map]; rfl
theorem iRng{A:Res Int}(ha:RefG (tv t kI) (a Γ) A):RefG (itv true (tv .fz kI)) (jRange a Γ) (A.bind fun n=>rngR n):=ha.bind fun n=>by
 unfold rngR
 by_cases h:rngOk n=true
 ·rw [if_pos h]
  show RefG _ (if rngOk n then _ else _) _
  rw [if_pos h,rngL_I]
  simp [RefG,itv,tv]
 ·rw [if_neg h]; exact trivial
theorem iRng2{A B:Res Int}(ha:RefG (tv t kI) (a Γ) A)(hb:RefG (tv u kI) (b Γ) B):RefG (itv true (tv .fz kI)) (jRange2 a b Γ) (A.bind fun m=>B.bind fun n=>rng2R m n):=ha.bind fun m=>hb.bind fun n=>by
 unfold rng2R
 by_cases h:(rngOk m && rngOk n)=true
 ·rw [if_pos h]
  show RefG _ (if rngOk m && rngOk n then _ else _) _
  rw [if_pos h,rngL_I]
  simp [RefG,itv,tv]
 ·rw [if_neg h]; exact trivial
theorem lcGo_R{ki:ι→TV}{pat:Pat}{c:TX}{e:EX}{C:ι→Res Bool}{E:ι→Res α}{f:α→TV}(hp:∀ x,putV (f x) = .ok (f x).2)(hb:∀ x,∃ Γ',bindP Γ (ki x) pat = .ok Γ'∧RefG id (c Γ') (C x)∧RefG f (e Γ') (E x)) :
  ∀ xs:List ι,RefG (fun l:List α=>l.map fun x=>(f x).2) (lcGo Γ pat c e (xs.map ki)) (lcR C E xs)
 | []=>rfl
 | x :: xs=>by
  obtain ⟨Γ',h1,h2,h3⟩:=hb x
  rw [List.map_cons,lcGo,h1,bind_ok,lcR]
  refine h2.bind fun b=>?_
  cases b with
  | false=>exact lcGo_R hp hb xs
  | true =>
   refine h3.bind fun y=>?_
   rw [hp,bind_ok]
   exact (lcGo_R hp hb xs).bind fun r=>rfl
theorem noExc_R{f:α→β}{o:Res β}{r:Res α}(h:RefG f o r):RefG f (noExc o) (noExc r):=by
 cases r with
 | ok x =>
  have h:o = .ok (f x):=h
  rw [h]; exact rfl
 | exc c=>exact trivial
 | bad=>exact trivial
theorem rLC{it:IX}{X:Res (List ι)}{ki:ι→TV}{fl:Bool}{own:List Nat}{pat:Pat}{c:TX}{e:EX}{C:ι→Res Bool}{E:ι→Res α}(hi:RefG (itv fl ki) (it Γ) X)
  (hb:∀ x,∃ Γ',bindP (wipeE Γ own) (ki x) pat = .ok Γ'∧RefG id (c Γ') (C x)∧RefG (tv t ka) (e Γ') (E x))(hp:∀ p,putV (t,p) = .ok p:=by intro _; rfl) :
  RefG (tv (.ow 1) (kL ka)) (eLC own it pat c e Γ) (X.bind fun xs=>(noExc (lcR C E xs)).bind szR):=by
 refine hi.bind fun xs=>?_
 refine (noExc_R (lcGo_R (fun x=>hp _) hb xs)).bind fun l=>?_
 unfold szR
 by_cases h:l.length≤16777216
 ·rw [if_pos h,if_pos (by simpa using h)]; rfl
 ·rw [if_neg h]; exact trivial
theorem lcR_map{C:ι→Res Bool}{E:ι→Res α}(h:∀ x,C x = .ok true):∀ xs,lcR C E xs=mapR E xs
 | []=>rfl
 | x :: xs=>by rw [lcR,mapR,h,bind_ok,if_pos rfl,lcR_map h xs]
theorem rLM{it:IX}{X:Res (List ι)}{ki:ι→TV}{fl:Bool}{own:List Nat}{pat:Pat}{e:EX}{E:ι→Res α}(hi:RefG (itv fl ki) (it Γ) X)
  (hb:∀ x,∃ Γ',bindP (wipeE Γ own) (ki x) pat = .ok Γ'∧RefG (tv t ka) (e Γ') (E x))(hp:∀ p,putV (t,p) = .ok p:=by intro _; rfl) :
  RefG (tv (.ow 1) (kL ka)) (eLC own it pat xYes e Γ) (X.bind fun xs=>(noExc (mapR E xs)).bind szR):=by
 have:=rLC (C:=fun _=>.ok true) (E:=E) (c:=xYes) hi (fun x=>by
  obtain ⟨Γ',h1,h2⟩:=hb x
  exact ⟨Γ',h1,rfl,h2⟩) hp
 have e2:(fun xs=>(noExc (lcR (fun _=>.ok true) E xs)).bind szR)=fun xs=>(noExc (mapR E xs)).bind szR:=funext fun xs=>by rw [lcR_map fun _=>rfl]
 rw [e2] at this
 exact this
def RG(EP:En→Prop)(Post:Out→β→Prop)(o:Out):Res β→Prop
 | .ok x=>Post o x
 | .exc c=>∃ Γ',o = .exc c Γ'∧EP Γ'
 | .bad=>True
def NxP(P:σ→En→Prop):Out→σ→Prop:=fun o s=>∃ Γ',o = .nx Γ'∧P s Γ'
def RtP(f:ρ→TV):Out→ρ→Prop:=fun o x=>(∃ Γ',o = .rt (f x).1 (f x).2 Γ') ∨ ∃ Γ',o = .nx Γ'∧f x=(.fz,.non)
def LpP(ws:List Nat)(st:σ→En)(f:ρ→TV):Out→Ctl σ ρ→Prop:=fun o c=>match c with
 | .nx s=>∃ Γ',(o = .nx Γ' ∨ o = .ct Γ')∧wipeE Γ' ws=st s
 | .bk s=>∃ Γ',o = .bk Γ'∧wipeE Γ' ws=st s
 | .rt x=>∃ Γ',o = .rt (f x).1 (f x).2 Γ'
def LsP(ws:List Nat)(st:σ→En):Out→σ→Prop:=fun o s=>∃ Γ',(o = .nx Γ' ∨ o = .ct Γ')∧wipeE Γ' ws=st s
def CtlP(st:σ→En)(f:ρ→TV):Out→Ctl σ ρ→Prop:=fun o c=>match c with
 | .nx s=>o = .nx (st s)
 | .bk s=>o = .nx (st s)
 | .rt x=>∃ Γ',o = .rt (f x).1 (f x).2 Γ'
variable {EP:En→Prop} {Post:Out→β→Prop} {o:Out} {r:Res β} {d x y rest:ST} {S:Res σ} {u':σ→En} {K:σ→Res β}
abbrev Prim(EP:En→Prop)(d:ST)(Γ:En)(S:Res σ)(u:σ→En):Prop:=RG EP (NxP fun s Γ'=>Γ'=u s) (d Γ) S
theorem gPrim(h:Prim EP d Γ S u')(q:∀ s,RG EP Post (rest (u' s)) (K s)):RG EP Post (dSeq d rest Γ) (S.bind K):=by
 cases S with
 | ok s =>
  obtain ⟨Γ',h1,rfl⟩:=h
  show RG EP Post ((d Γ).then rest) _
  rw [h1]; exact q s
 | exc c =>
  obtain ⟨Γ',h1,h2⟩:=h
  show RG EP Post ((d Γ).then rest) _
  rw [h1]; exact ⟨Γ',rfl,h2⟩
 | bad=>exact trivial
theorem gPrim1(h:Prim EP d Γ S u')(q:∀ s,RG EP Post (.nx (u' s)) (K s)):RG EP Post (d Γ) (S.bind K):=by
 cases S with
 | ok s =>
  obtain ⟨Γ',h1,rfl⟩:=h
  rw [h1]; exact q s
 | exc c=>exact h
 | bad=>exact trivial
theorem gOk{s:β}(h:Post o s):RG EP Post o (.ok s):=h
theorem gNil(h:RG EP Post (rest Γ) r):RG EP Post (dSeq dNil rest Γ) r:=h
theorem gNil1(h:RG EP Post (.nx Γ) r):RG EP Post (dNil Γ) r:=h
theorem gAssoc(h:RG EP Post (dSeq x (dSeq y rest) Γ) r):RG EP Post (dSeq (dSeq x y) rest Γ) r:=by
 have e:(dSeq (dSeq x y) rest) Γ=dSeq x (dSeq y rest) Γ:=by
  show ((x Γ).then y).then rest=(x Γ).then (dSeq y rest)
  cases x Γ <;> rfl
 rw [e]; exact h
theorem gFrz(i:Nat){d:Nat}(p:PV)(hg:Γ.get i=some (.ow d,p))(h:RG EP Post (rest (Γ.set i (some (.fz,p)))) r):RG EP Post (dFrz i rest Γ) r:=by
 show RG EP Post (match Γ.get i with
  | some (.ow _,p)=>rest (Γ.set i (some (.fz,p)))
  | some (.fz,p)=>rest Γ
  | _=>.bad) r
 rw [hg]; exact h
variable {T:TX} {D:Res Bool} {R1 R2:Res β} {S1 S2:Res σ}
theorem gIf(ht:RefG id (T Γ) D)(h1:RG EP Post (x Γ) R1)(h2:RG EP Post (y Γ) R2)(hE:EP Γ):RG EP Post (dIf T x y Γ) (D.bind fun c=>if c then R1 else R2):=by
 cases D with
 | ok c =>
  have ht:T Γ = .ok c:=ht
  show RG EP Post (aft (T Γ) Γ _) _
  rw [ht]
  cases c <;> first | exact h1 | exact h2
 | exc c =>
  have ht:T Γ = .exc c:=ht
  show RG EP Post (aft (T Γ) Γ _) _
  rw [ht]
  exact ⟨Γ,rfl,hE⟩
 | bad=>exact trivial
theorem gIfD(ht:RefG id (T Γ) D)(h1:RG EP Post (dSeq x rest Γ) R1)(h2:RG EP Post (dSeq y rest Γ) R2)(hE:EP Γ):RG EP Post (dSeq (dIf T x y) rest Γ) (D.bind fun c=>if c then R1 else R2):=by
 cases D with
 | ok c =>
  have ht:T Γ = .ok c:=ht
  show RG EP Post ((aft (T Γ) Γ _).then rest) _
  rw [ht]
  cases c <;> first | exact h1 | exact h2
 | exc c =>
  have ht:T Γ = .exc c:=ht
  show RG EP Post ((aft (T Γ) Γ _).then rest) _
  rw [ht]
  exact ⟨Γ,rfl,hE⟩
 | bad=>exact trivial
theorem gSeq{P:σ→En→Prop}(h:RG EP (NxP P) (d Γ) S)(q:∀ s Γ',P s Γ'→RG EP Post (rest Γ') (K s)):RG EP Post (dSeq d rest Γ) (S.bind K):=by
 cases S with
 | ok s =>
  obtain ⟨Γ',h1,h2⟩:=h
  show RG EP Post ((d Γ).then rest) _
  rw [h1]; exact q s Γ' h2
 | exc c =>
  obtain ⟨Γ',h1,h2⟩:=h
  show RG EP Post ((d Γ).then rest) _
  rw [h1]; exact ⟨Γ',rfl,h2⟩
 | bad=>exact trivial
@[simp] def retT:Tg→Tg
 | .bw 0=>.fz
 | t=>t
@[simp] def retOk:Tg→Bool
 | .bw (_+1)=>false
 | _=>true
theorem ret_is(t:Tg)(p:PV)(Γ:En)(h:retOk t=true):(match ((t,p):TV) with
 | (.bw 0,p)=>Out.rt .fz p Γ
 | (.bw _,_)=>.bad
 | (t,p)=>.rt t p Γ) = .rt (retT t) p Γ:=by
 match t,h with
 | .fz,_=>rfl
 | .ow _,_=>rfl
 | .bw 0,_=>rfl
theorem gRet{E:Res α}{K:α→Res β}(h:RefG (tv t ka) (e Γ) E)(q:∀ x,RG EP Post (.rt (retT t) (ka x) Γ) (K x))(hE:EP Γ)(ht:retOk t=true:=by rfl):RG EP Post (dRet e Γ) (E.bind K):=by
 cases E with
 | ok x =>
  have h:e Γ = .ok (t,ka x):=h
  show RG EP Post (aft (e Γ) Γ _) _
  rw [h]
  show RG EP Post (match ((t,ka x):TV) with
   | (.bw 0,p)=>Out.rt .fz p Γ
   | (.bw _,_)=>.bad
   | (t,p)=>.rt t p Γ) _
  rw [ret_is _ _ _ ht]
  exact q x
 | exc c =>
  have h:e Γ = .exc c:=h
  show RG EP Post (aft (e Γ) Γ _) _
  rw [h]; exact ⟨Γ,rfl,hE⟩
 | bad=>exact trivial
theorem gRetS{E:Res α}{K:α→Res β}(h:RefG (tv t ka) (e Γ) E)(q:∀ x,RG EP Post (.rt (retT t) (ka x) Γ) (K x))(hE:EP Γ)(ht:retOk t=true:=by rfl):RG EP Post (dSeq (dRet e) rest Γ) (E.bind K):=by
 have:=gRet (K:=K) h q hE ht
 cases E with
 | ok x =>
  have h:e Γ = .ok (t,ka x):=h
  show RG EP Post ((aft (e Γ) Γ _).then rest) _
  rw [h]
  show RG EP Post (Out.then (match ((t,ka x):TV) with
   | (.bw 0,p)=>Out.rt .fz p Γ
   | (.bw _,_)=>.bad
   | (t,p)=>.rt t p Γ) rest) _
  rw [ret_is _ _ _ ht]
  exact q x
 | exc c =>
  have h:e Γ = .exc c:=h
  show RG EP Post ((aft (e Γ) Γ _).then rest) _
  rw [h]; exact ⟨Γ,rfl,hE⟩
 | bad=>exact trivial
theorem gRetV(i:Nat){p:PV}(hg:dRetV i Γ = .rt t p Γ)(q:RG EP Post (.rt t p Γ) r):RG EP Post (dRetV i Γ) r:=by rw [hg]; exact q
theorem gRetVS(i:Nat){p:PV}(hg:dRetV i Γ = .rt t p Γ)(q:RG EP Post (.rt t p Γ) r):RG EP Post (dSeq (dRetV i) rest Γ) r:=by
 show RG EP Post ((dRetV i Γ).then rest) r
 rw [hg]; exact q
theorem gRaiseS(c:Nat)(hE:EP Γ):RG EP Post (dSeq (dRaise c) rest Γ) (.exc c):=⟨Γ,rfl,hE⟩
theorem prim_of{d:ST}{F:TV→Out}{f:α→TV}{E:Res α}(h:RefG f (e Γ) E)(hE:EP Γ){S:α→Res σ}(hd:d Γ=aft (e Γ) Γ F)(q:∀ x,RG EP (NxP fun s Γ'=>Γ'=u' s) (F (f x)) (S x)):Prim EP d Γ (E.bind S) u':=by
 show RG EP _ (d Γ) _
 rw [hd]
 cases E with
 | ok x =>
  have h:e Γ = .ok (f x):=h
  rw [h]; exact q x
 | exc c =>
  have h:e Γ = .exc c:=h
  rw [h]; exact ⟨Γ,rfl,hE⟩
 | bad=>exact trivial
theorem bind_id(E:Res α):(E.bind fun x=>.ok x)=E:=by cases E <;> rfl
theorem pSet(i:Nat){E:Res α}(h:RefG (tv t ka) (e Γ) E)(hE:EP Γ)(hp:∀ p,putV (t,p) = .ok p:=by intro _; rfl):Prim EP (dSet i e) Γ E (fun x=>Γ.set i (some (.fz,ka x))):=by
 have:=prim_of (EP:=EP) (d:=dSet i e) (u':=fun x=>Γ.set i (some (.fz,ka x))) (S:=fun x=>.ok x) h hE rfl fun x=>by
  show RG EP _ (aft (putV (t,ka x)) Γ _) _
  rw [hp]; exact ⟨_,rfl,rfl⟩
 rw [bind_id] at this
 exact this
theorem pSetO(i:Nat){d:Nat}{E:Res α}(h:RefG (tv (.ow d) ka) (e Γ) E)(hE:EP Γ):Prim EP (dSetO i e) Γ E (fun x=>Γ.set i (some (.ow d,ka x))):=by
 have:=prim_of (EP:=EP) (d:=dSetO i e) (u':=fun x=>Γ.set i (some (.ow d,ka x))) (S:=fun x=>.ok x) h hE rfl fun x=>⟨_,rfl,rfl⟩
 rw [bind_id] at this
 exact this
theorem pEx{E:Res α}{f:α→TV}(h:RefG f (e Γ) E)(hE:EP Γ):Prim EP (dEx e) Γ (E.bind fun _=>.ok ()) (fun _=>Γ) :=
 prim_of (EP:=EP) (d:=dEx e) h hE rfl fun x=>⟨_,rfl,rfl⟩
theorem pApp(i:Nat){E:Res α}{l:List α}(h:RefG (tv t ka) (e Γ) E)(hE:EP Γ)(hg:Γ.get i=some (.ow 1,kL ka l))(hp:∀ p,putV (t,p) = .ok p:=by intro _; rfl):Prim EP (dApp i e) Γ (E.bind fun x=>appR l x) (fun l=>Γ.set i (some (.ow 1,kL ka l))):=by
 refine prim_of (EP:=EP) (d:=dApp i e) (F:=fun x=>aft (putV x) Γ fun p=>if (l.map ka).length < 16777216 then .nx (Γ.set i (some (.ow 1,.lst (l.map ka++[p])))) else .bad) h hE ?_ fun x=>?_
 ·show (match Γ.get i with
   | some (.ow 1,.lst l)=>aft (e Γ) Γ fun x=>aft (putV x) Γ fun p=>if l.length < 16777216 then .nx (Γ.set i (some (.ow 1,.lst (l++[p])))) else .bad
   | _=>.bad)=_
  rw [hg]; rfl
 ·show RG EP _ (aft (putV (t,ka x)) Γ _) _
  rw [hp]
  show RG EP _ (if (l.map ka).length < 16777216 then _ else _) _
  unfold appR
  by_cases hz:l.length < 16777216
  ·rw [if_pos hz,if_pos (by simpa using hz)]; exact ⟨_,rfl,by simp⟩
  ·rw [if_neg hz]; exact trivial
theorem pSetIx(i:Nat){j:EX}{J:Res Int}{E:Res α}{l:List α}(h:RefG (tv t ka) (e Γ) E)(hj:RefG (tv u kI) (j Γ) J)(hE:EP Γ)(hg:Γ.get i=some (.ow 1,kL ka l))(hp:∀ p,putV (t,p) = .ok p:=by intro _; rfl):Prim EP (dSetIx i j e) Γ (E.bind fun x=>J.bind fun n=>setR l n x) (fun l=>Γ.set i (some (.ow 1,kL ka l))):=by
 refine prim_of (EP:=EP) (d:=dSetIx i j e) (F:=fun x=>aft (j Γ) Γ fun y=>aft (putV x) Γ fun p=>match y.2 with
   | .int k=>match vIxN (l.map ka).length k with
    | some n=>.nx (Γ.set i (some (.ow 1,.lst ((l.map ka).set n p))))
    | none=>.bad
   | _=>.bad) h hE ?_ fun x=>?_
 ·show (match Γ.get i with
   | some (.ow 1,.lst l)=>aft (e Γ) Γ fun x=>aft (j Γ) Γ fun y=>aft (putV x) Γ fun p=>match y.2 with
    | .int k=>match vIxN l.length k with
     | some n=>.nx (Γ.set i (some (.ow 1,.lst (l.set n p))))
     | none=>.bad
    | _=>.bad
   | _=>.bad)=_
  rw [hg]; rfl
 ·cases J with
  | ok n =>
   have hj:j Γ = .ok (u,.int n):=hj
   show RG EP _ (aft (j Γ) Γ _) (setR l n x)
   rw [hj]
   show RG EP _ (aft (putV (t,ka x)) Γ _) _
   rw [hp]
   show RG EP _ (match vIxN (l.map ka).length n with
    | some n=>.nx (Γ.set i (some (.ow 1,.lst ((l.map ka).set n (ka x)))))
    | none=>.bad) _
   rw [List.length_map]
   unfold setR
   cases vIxN l.length n with
   | none=>exact trivial
   | some m=>exact ⟨_,rfl,by simp [kL,List.map_set]⟩
  | exc c =>
   have hj:j Γ = .exc c:=hj
   show RG EP _ (aft (j Γ) Γ _) _
   rw [hj]; exact ⟨Γ,rfl,hE⟩
  | bad=>exact trivial
theorem forL_T{ki:ι→TV}{pat:Pat}{ws:List Nat}{body:ST}{st:σ→En}{f:ρ→TV}{F:σ→ι→Res (Ctl σ ρ)}(hb:∀ s x,∃ Γ',bindP (st s) (ki x) pat = .ok Γ'∧RG EP (LpP ws st f) (body Γ') (F s x)) :
  ∀ (xs:List ι) (s:σ),RG EP (CtlP st f) (forL pat ws body (xs.map ki) (st s)) (forT F xs s)
 | [],s=>rfl
 | x :: xs,s=>by
  obtain ⟨Γ',h1,h2⟩:=hb s x
  rw [List.map_cons,forL,h1,forT]
  show RG EP _ (match body Γ' with
   | .nx Γ2=>forL pat ws body (xs.map ki) (wipeE Γ2 ws)
   | .ct Γ2=>forL pat ws body (xs.map ki) (wipeE Γ2 ws)
   | .bk Γ2=>.nx (wipeE Γ2 ws)
   | o=>o) _
  cases hF:F s x with
  | ok c =>
   rw [hF] at h2
   cases c with
   | nx s' =>
    obtain ⟨Γ2,h3,h4⟩:=h2
    rcases h3 with h3 | h3 <;> (rw [h3]; simp only [h4]; exact forL_T hb xs s')
   | bk s' =>
    obtain ⟨Γ2,h3,h4⟩:=h2
    rw [h3]; simp only [h4]; exact rfl
   | rt y =>
    obtain ⟨Γ2,h2⟩:=(h2:∃ Γ2,body Γ' = .rt (f y).1 (f y).2 Γ2)
    rw [h2]; exact ⟨_,rfl⟩
  | exc c =>
   rw [hF] at h2
   obtain ⟨Γ2,h3,h4⟩:=h2
   rw [h3]; exact ⟨Γ2,rfl,h4⟩
  | bad=>exact trivial
theorem gForT{it:IX}{X:Res (List ι)}{ki:ι→TV}{pat:Pat}{ws:List Nat}{body:ST}{f:ρ→TV}{F:σ→ι→Res (Ctl σ ρ)}(st:σ→En)(s0:σ)(hi:RefG (itv true ki) (it Γ) X)(h0:wipeE Γ ws=st s0)(hb:∀ s x,∃ Γ',bindP (st s) (ki x) pat = .ok Γ'∧RG EP (LpP ws st f) (body Γ') (F s x))(hE:EP Γ) :
  RG EP (CtlP st f) (dFor it pat ws body Γ) (X.bind fun xs=>forT F xs s0):=by
 cases X with
 | ok xs =>
  have hi:it Γ = .ok (true,xs.map ki):=hi
  show RG EP _ (aft (it Γ) Γ _) _
  rw [hi]
  show RG EP _ (forL pat ws body (xs.map ki) (wipeE Γ ws)) _
  rw [h0]
  exact forL_T hb xs s0
 | exc c =>
  have hi:it Γ = .exc c:=hi
  show RG EP _ (aft (it Γ) Γ _) _
  rw [hi]; exact ⟨Γ,rfl,hE⟩
 | bad=>exact trivial
theorem forL_S{ki:ι→TV}{pat:Pat}{ws:List Nat}{body:ST}{st:σ→En}{F:σ→ι→Res σ}(hb:∀ s x,∃ Γ',bindP (st s) (ki x) pat = .ok Γ'∧RG EP (LsP ws st) (body Γ') (F s x)) :
  ∀ (xs:List ι) (s:σ),RG EP (NxP fun s Γ'=>Γ'=st s) (forL pat ws body (xs.map ki) (st s)) (forS F xs s)
 | [],s=>⟨_,rfl,rfl⟩
 | x :: xs,s=>by
  obtain ⟨Γ',h1,h2⟩:=hb s x
  rw [List.map_cons,forL,h1,forS]
  show RG EP _ (match body Γ' with
   | .nx Γ2=>forL pat ws body (xs.map ki) (wipeE Γ2 ws)
   | .ct Γ2=>forL pat ws body (xs.map ki) (wipeE Γ2 ws)
   | .bk Γ2=>.nx (wipeE Γ2 ws)
   | o=>o) _
  cases hF:F s x with
  | ok s' =>
   rw [hF] at h2
   obtain ⟨Γ2,h3,h4⟩:=h2
   rcases h3 with h3 | h3 <;> (rw [h3]; simp only [h4]; exact forL_S hb xs s')
  | exc c =>
   rw [hF] at h2
   obtain ⟨Γ2,h3,h4⟩:=h2
   rw [h3]; exact ⟨Γ2,rfl,h4⟩
  | bad=>exact trivial
theorem pFor{it:IX}{X:Res (List ι)}{ki:ι→TV}{pat:Pat}{ws:List Nat}{body:ST}{F:σ→ι→Res σ}(st:σ→En)(s0:σ)(hi:RefG (itv true ki) (it Γ) X)(h0:wipeE Γ ws=st s0)(hb:∀ s x,∃ Γ',bindP (st s) (ki x) pat = .ok Γ'∧RG EP (LsP ws st) (body Γ') (F s x))(hE:EP Γ) :
  Prim EP (dFor it pat ws body) Γ (X.bind fun xs=>forS F xs s0) st:=by
 cases X with
 | ok xs =>
  have hi:it Γ = .ok (true,xs.map ki):=hi
  show RG EP _ (aft (it Γ) Γ _) _
  rw [hi]
  show RG EP _ (forL pat ws body (xs.map ki) (wipeE Γ ws)) _
  rw [h0]
  exact forL_S hb xs s0
 | exc c =>
  have hi:it Γ = .exc c:=hi
  show RG EP _ (aft (it Γ) Γ _) _
  rw [hi]; exact ⟨Γ,rfl,hE⟩
 | bad=>exact trivial
theorem gCtl{st:σ→En}{f:ρ→TV}{R:Res (Ctl σ ρ)}{ret:ρ→Res β}(h:RG EP (CtlP st f) (d Γ) R)(q:∀ s,RG EP Post (rest (st s)) (K s))(hr:∀ x Γ',RG EP Post (.rt (f x).1 (f x).2 Γ') (ret x)):RG EP Post (dSeq d rest Γ) (R.bind fun c=>c.then ret K):=by
 show RG EP Post ((d Γ).then rest) _
 cases R with
 | ok c =>
  cases c with
  | nx s =>
   have h:d Γ = .nx (st s):=h
   rw [h]; exact q s
  | bk s =>
   have h:d Γ = .nx (st s):=h
   rw [h]; exact q s
  | rt x =>
   obtain ⟨Γ2,h⟩:=(h:∃ Γ2,d Γ = .rt (f x).1 (f x).2 Γ2)
   rw [h]; exact hr x Γ2
 | exc c =>
  obtain ⟨Γ2,h3,h4⟩:=h
  rw [h3]; exact ⟨Γ2,rfl,h4⟩
 | bad=>exact trivial
theorem tFn{np ns:Nat}{body:ST}{args:List PV}{f:ρ→TV}{R:Res ρ}(h:RG (fun _=>True) (RtP f) (body (args.map (fun p=>some (.fz,p))++List.replicate (ns - np) none)) R)(hl:args.length=np:=by rfl):RefG f (runFn np ns body args) R:=by
 unfold runFn
 rw [if_pos hl]
 cases R with
 | ok x =>
  rcases h with ⟨Γ',h⟩ | ⟨Γ',h1,h2⟩
  ·rw [h]; exact rfl
  ·rw [h1]; show _=_; rw [h2]
 | exc c =>
  obtain ⟨Γ',h1,_⟩:=h
  rw [h1]; exact rfl
 | bad=>exact trivial
end
end Vm
end
section
set_option linter.all false
set_option maxHeartbeats 1000000
set_option maxRecDepth 10000
namespace Vm
section
variable {Γ:En} {α β γ δ ι σ ρ κ:Type} {a b c e:EX} {ka:α→PV} {kb:β→PV}
theorem coL{c:α→β}(h:∀ x,kb (c x)=ka x)(x:List α):kL kb (List.map c x)=kL ka x:=by
 simp only [kL,List.map_map]
 congr 1
 exact List.map_congr_left fun y _=>h y
theorem coT{c:α→β}(h:∀ x,kb (c x)=ka x)(x:List α):kT kb (List.map c x)=kT ka x:=by
 simp only [kT,List.map_map]
 congr 1
 exact List.map_congr_left fun y _=>h y
def tvB(x:TV):Res Bool:=match x.2 with
 | .bl b=>.ok b
 | _=>.bad
variable {EP:En→Prop} {Post:Out→β→Prop} {d rest:ST} {S:Res σ} {K:σ→Res β}
end
end Vm
end
section
set_option linter.all false
set_option maxHeartbeats 1000000
set_option maxRecDepth 10000
namespace Vm
theorem tkLt_irr(x:Tk):tkLt x x=false:=by cases x <;> simp [tkLt]
theorem lexT_app:∀ (l a b:List Tk),lexT (l++a) (l++b)=lexT a b
 | [],_,_=>rfl
 | x :: l,a,b=>by rw [List.cons_append,List.cons_append,lexT,tkLt_irr,lexT_app l a b]; simp
class Ordk {α:Type} [DecidableEq α] (k:α→PV) where
 lt:α→α→Bool
 d:Nat
 tok:∀ a b l m,lexT (toks (k a)++l) (toks (k b)++m)=(lt a b || (decide (a=b) && lexT l m))
 irr:∀ a,lt a a=false
 al:∀ a b,alk (k a) (k b)=true
 sh:∀ n,d≤n→∀ a,shp n (k a)=true
 nn:∀ a,isNon (k a)=false
theorem ltv_k{α:Type}[DecidableEq α]{k:α→PV}[Ordk k](a b:α):ltv (k a) (k b)=Ordk.lt k a b:=by
 have:=Ordk.tok (k:=k) a b [] []
 rw [List.append_nil,List.append_nil] at this
 unfold ltv
 rw [this]
 have e:lexT [] []=false:=rfl
 rw [e,Bool.and_false,Bool.or_false]
instance:Ordk kI where
 lt:=fun a b=>decide (a < b)
 d:=0
 tok:=fun a b l m=>by
  simp only [kI,toks,List.cons_append,List.nil_append,lexT,tkLt]
  rw [Bool.eq_iff_iff]
  by_cases h:a < b
  ·simp [h]
  ·by_cases e:a=b
   ·simp [e]
   ·have:b < a:=by omega
    simp [h,e,this]
 irr:=fun a=>by simp
 al:=fun _ _=>rfl
 sh:=fun n _ a=>by cases n <;> rfl
 nn:=fun _=>rfl
instance:Ordk kS where
 lt:=fun a b=>decide (a < b)
 d:=0
 tok:=fun a b l m=>by
  simp only [kS,toks,List.cons_append,List.nil_append,lexT,tkLt]
  by_cases h:a < b
  ·simp [h]
  ·by_cases e:a=b
   ·simp [e,List.lt_irrefl]
   ·have:b < a:=by
     rcases List.le_iff_lt_or_eq.mp (List.not_lt.mp h) with z | z
     ·exact z
     ·exact absurd z.symm e
    simp [h,e,this]
 irr:=fun a=>by simp [List.lt_irrefl]
 al:=fun _ _=>rfl
 sh:=fun n _ a=>by cases n <;> rfl
 nn:=fun _=>rfl
section
variable {α β γ δ:Type} [DecidableEq α] [DecidableEq β] {a:α→PV} {b:β→PV}
instance [Ordk a] [Ordk b]:Ordk (kP2 a b) where
 lt:=fun x y=>Ordk.lt a x.1 y.1 || (decide (x.1=y.1) && Ordk.lt b x.2 y.2)
 d:=max (Ordk.d a) (Ordk.d b)+1
 tok:=fun x y l m=>by
  simp only [kP2,toks,toksL,List.cons_append,List.append_assoc,List.nil_append]
  have h1:lexT (Sum.inl 1 :: (toks (a x.1)++(Sum.inl 1 :: (toks (b x.2)++(Sum.inl 0 :: l))))) (Sum.inl 1 :: (toks (a y.1)++(Sum.inl 1 :: (toks (b y.2)++(Sum.inl 0 :: m)))))=lexT (toks (a x.1)++(Sum.inl 1 :: (toks (b x.2)++(Sum.inl 0 :: l)))) (toks (a y.1)++(Sum.inl 1 :: (toks (b y.2)++(Sum.inl 0 :: m)))):=lexT_app [Sum.inl 1] _ _
  rw [h1,Ordk.tok]
  have h2:lexT (Sum.inl 1 :: (toks (b x.2)++(Sum.inl 0 :: l))) (Sum.inl 1 :: (toks (b y.2)++(Sum.inl 0 :: m)))=lexT (toks (b x.2)++(Sum.inl 0 :: l)) (toks (b y.2)++(Sum.inl 0 :: m)):=lexT_app [Sum.inl 1] _ _
  rw [h2,Ordk.tok]
  have h3:lexT (Sum.inl 0 :: l) (Sum.inl 0 :: m)=lexT l m:=lexT_app [Sum.inl 0] _ _
  rw [h3]
  have e:decide (x=y)=(decide (x.1=y.1) && decide (x.2=y.2)):=by rw [Bool.eq_iff_iff]; simp [Prod.ext_iff]
  rw [e]
  cases Ordk.lt a x.1 y.1 <;> cases decide (x.1=y.1) <;> cases Ordk.lt b x.2 y.2 <;> cases decide (x.2=y.2) <;> simp
 irr:=fun x=>by simp [Ordk.irr]
 al:=fun x y=>by simp only [kP2,alk,alkL,Ordk.al,Bool.and_self]
 sh:=fun n h x=>by
  cases n with
  | zero=>omega
  | succ n=>simp only [kP2,shp,shpL,Ordk.sh (k:=a) n (by omega),Ordk.sh (k:=b) n (by omega),Bool.and_true]
 nn:=fun _=>rfl
def ltL(lt:α→α→Bool):List α→List α→Bool
 | [],[]=>false
 | [],_ :: _=>true
 | _ :: _,[]=>false
 | x :: xs,y :: ys=>lt x y || (decide (x=y) && ltL lt xs ys)
theorem ltL_irr{lt:α→α→Bool}(h:∀ a,lt a a=false):∀ l,ltL lt l l=false
 | []=>rfl
 | x :: l=>by rw [ltL,h,ltL_irr h l]; simp
theorem tokL[Ordk a]:∀ (x y:List α) (l m:List Tk),lexT (toksL (x.map a)++l) (toksL (y.map a)++m)=(ltL (Ordk.lt a) x y || (decide (x=y) && lexT l m))
 | [],[],l,m=>by
  have:lexT (Sum.inl 0 :: l) (Sum.inl 0 :: m)=lexT l m:=lexT_app [Sum.inl 0] _ _
  simp [toksL,ltL,this]
 | [],y :: ys,l,m=>by simp [toksL,ltL,lexT,tkLt]
 | x :: xs,[],l,m=>by simp [toksL,ltL,lexT,tkLt]
 | x :: xs,y :: ys,l,m=>by
  simp only [List.map_cons,toksL,List.cons_append,List.append_assoc]
  have h1:lexT (Sum.inl 1 :: (toks (a x)++(toksL (xs.map a)++l))) (Sum.inl 1 :: (toks (a y)++(toksL (ys.map a)++m)))=lexT (toks (a x)++(toksL (xs.map a)++l)) (toks (a y)++(toksL (ys.map a)++m)):=lexT_app [Sum.inl 1] _ _
  rw [h1,Ordk.tok,tokL xs ys l m,ltL]
  have e:decide (x :: xs=y :: ys)=(decide (x=y) && decide (xs=ys)):=by rw [Bool.eq_iff_iff]; simp
  rw [e]
  cases Ordk.lt a x y <;> cases decide (x=y) <;> cases ltL (Ordk.lt a) xs ys <;> cases decide (xs=ys) <;> simp
theorem alkL_map[Ordk a]:∀ x y:List α,alkL (x.map a) (y.map a)=true
 | [],[]=>rfl
 | [],_ :: _=>rfl
 | _ :: _,[]=>rfl
 | x :: xs,y :: ys=>by rw [List.map_cons,List.map_cons,alkL,Ordk.al,alkL_map xs ys]; rfl
theorem shpL_ord[Ordk a](n:Nat)(h:Ordk.d a≤n):∀ l:List α,shpL n (l.map a)=true
 | []=>by rw [List.map_nil,shpL]
 | x :: l=>by rw [List.map_cons,shpL,Ordk.sh n h,shpL_ord n h l]; rfl
instance [Ordk a]:Ordk (kT a) where
 lt:=ltL (Ordk.lt a)
 d:=Ordk.d a+1
 tok:=fun x y l m=>by simp only [kT,toks]; exact tokL x y l m
 irr:=ltL_irr Ordk.irr
 al:=fun x y=>by simp only [kT,alk]; exact alkL_map x y
 sh:=fun n h x=>by
  cases n with
  | zero=>omega
  | succ n=>simp only [kT,shp]; exact shpL_ord n (by omega) x
 nn:=fun _=>rfl
theorem ordOk_map[Ordk a](hd:Ordk.d a≤50)(l:List α):ordOk (l.map a)=true:=by
 unfold ordOk
 rw [shpL_ord 50 hd,Bool.and_true,List.all_eq_true]
 intro p hp
 obtain ⟨x,_,rfl⟩:=List.mem_map.mp hp
 rw [Ordk.nn,Bool.not_false,Bool.true_and,List.all_eq_true]
 intro q hq
 obtain ⟨y,_,rfl⟩:=List.mem_map.mp hq
 exact Ordk.al _ _
end
section
variable {Γ:En} {α β γ δ ε ι σ τ ρ κ:Type} {a b c e:EX} {as:EXs} {A:Res α} {t u v:Tg} {ka:α→PV} {kb:β→PV} {kc:γ→PV} {kd:δ→PV}
def sortB(lt:α→α→Bool)(l:List α):List α:=l.mergeSort fun a b=>!lt b a
theorem sortP_map[DecidableEq α][Ordk ka](l:List α):sortP (l.map ka)=(sortB (Ordk.lt ka) l).map ka:=by
 unfold sortP sortB
 rw [List.map_mergeSort]
 intro x _ y _
 rw [ltv_k]
class Srk (k:α→PV):Prop where
 s:(∀ a,∃ x r,k a = .tup (x :: r)) ∨ ∀ a x,k a ≠ .tup x
instance:Srk kI:=⟨.inr fun a x h=>by cases h⟩
instance:Srk kS:=⟨.inr fun a x h=>by cases h⟩
instance:Srk (kP2 ka kb):=⟨.inl fun a=>⟨_,_,rfl⟩⟩
theorem srtOk_map[DecidableEq α][Ordk ka][Srk ka](hd:Ordk.d ka≤50)(l:List α):srtOk (l.map ka)=true:=by
 unfold srtOk
 rw [ordOk_map hd,Bool.true_and,Bool.or_eq_true,List.all_eq_true,List.all_eq_true]
 rcases (Srk.s (k:=ka)) with h | h
 ·left
  intro p hp
  obtain ⟨x,_,rfl⟩:=List.mem_map.mp hp
  obtain ⟨y,r,e⟩:=h x
  rw [e]
 ·right
  intro p hp
  obtain ⟨x,_,rfl⟩:=List.mem_map.mp hp
  have:=h x
  cases e:ka x <;> first | rfl | exact absurd e (this _)
def sortR(lt:α→α→Bool)(l:List α):Res (List α):=if l.length≤16777216 then .ok (sortB lt l) else .bad
def sortTR[DecidableEq α](lt:List α→List α→Bool)(l:List (List α)):Res (List (List α)):=if l.length≤16777216∧l.all (fun x=>!x.isEmpty) then .ok (sortB lt l) else .bad
theorem rSortT[DecidableEq α][Ordk ka]{A:Res (List (List α))}(ha:RefG (tv t (kL (kT ka))) (a Γ) A)(hd:Ordk.d (kT ka)≤50:=by decide)(hf:flat1 t=true:=by rfl):RefG (tv (.ow 1) (kL (kT ka))) (eSorted a Γ) (A.bind fun x=>sortTR (Ordk.lt (kT ka)) x):=ha.bind fun x=>by
 unfold sortTR
 by_cases h:x.length≤16777216∧x.all (fun x=>!x.isEmpty)=true
 ·rw [if_pos h]
  show RefG _ (if flat1 t && srtOk (x.map (kT ka)) && decide ((x.map (kT ka)).length≤16777216) then _ else _) _
  have hs:srtOk (x.map (kT ka))=true:=by
   unfold srtOk
   rw [ordOk_map hd,Bool.true_and,Bool.or_eq_true,List.all_eq_true]
   left
   intro p hp
   obtain ⟨y,hy,rfl⟩:=List.mem_map.mp hp
   have:=List.all_eq_true.mp h.2 y hy
   cases y with
   | nil=>cases this
   | cons z r=>rfl
  rw [hf,hs,if_pos (by simpa using h.1),sortP_map]; exact rfl
 ·rw [if_neg h]; exact trivial
def stepI(i j c:Int):List Int:=(List.range (stepN i j c)).map fun (k:Nat)=>i+(k:Int) * c
def rng3R(i j c:Int):Res (List Int):=if 0 < c∧c < 1073741824∧0≤i∧i < 1073741824∧0≤j∧j < 1073741824 then .ok (stepI i j c) else .bad
end
def asB:Res TV→Res Bool
 | .ok (.fz,.bl b)=>.ok b
 | .exc c=>.exc c
 | _=>.bad
theorem RefG.asB{o:Res TV}:RefG (tv .fz kB) o (asB o):=by
 unfold Vm.asB
 split
 ·exact rfl
 ·exact rfl
 ·exact trivial
section
variable {Γ:En} {a b:EX} {E E2:Res TV}
theorem xVD(ha:RefG id (a Γ) E):RefG id (xVal a Γ) (E.bind fun x=>tvB x):=ha.bind fun _=>RefG.self
@[simp] def isiD (s:String) (x:TV):Res TV:=if isExo x.2 then .bad else .ok (tv .fz kB (kindIs s x.2))
theorem rOp1D{op:PV→Res PV}(ha:RefG id (a Γ) E):RefG id (eOp1 op a Γ) (E.bind fun x=>(op x.2).bind fzv):=ha.bind fun _=>RefG.self
end
end Vm
end
section
set_option linter.all false
set_option maxHeartbeats 1000000
namespace Vm
def repT(n:Nat)(k:Int):Bool:=decide (k≤1000) && decide (-1000≤k) && decide (n≤1000)
@[simp] def mulV2 (x y:TV):Res TV:=match x.2,y.2 with
 | .lst a,.int k=>if flat1 x.1 && repOk a.length k then .ok (.ow 1,.lst (List.replicate k.toNat a).flatten) else .bad
 | .tup a,.int k=>if repT a.length k then .ok (.fz,.tup (List.replicate k.toNat a).flatten) else .bad
 | p,q=>(opMul p q).bind fzv
@[simp] def eMul2 (a b:EX):EX:=fun Γ=>(a Γ).bind fun x=>(b Γ).bind fun y=>mulV2 x y
end Vm
end
section
set_option linter.all false
set_option maxHeartbeats 1000000
set_option maxRecDepth 10000
namespace Vm
section
variable {Γ:En} {α:Type} {a b:EX} {t u:Tg} {ka:α→PV}
theorem rMul2{A B:Res Int}(ha:RefG (tv t kI) (a Γ) A)(hb:RefG (tv u kI) (b Γ) B):RefG (tv .fz kI) (eMul2 a b Γ) (A.bind fun x=>B.bind fun y=>mulR x y) :=
 ha.bind fun x=>hb.bind fun y=>by
  unfold mulR; cases h:mulOk x y with
  | true=>simp [mulV2,h,RefG]
  | false=>exact trivial
def repTR{α:Type}(l:List α)(k:Int):Res (List α):=if repT l.length k then .ok (List.replicate k.toNat l).flatten else .bad
theorem rRepT2{A:Res (List α)}{B:Res Int}(ha:RefG (tv t (kT ka)) (a Γ) A)(hb:RefG (tv u kI) (b Γ) B):RefG (tv .fz (kT ka)) (eMul2 a b Γ) (A.bind fun x=>B.bind fun y=>repTR x y) :=
 ha.bind fun x=>hb.bind fun y=>by
  unfold repTR
  by_cases h:repT x.length y=true
  ·rw [if_pos h]
   show RefG _ (if repT (x.map ka).length y then _ else _) _
   rw [List.length_map,h]
   simp [RefG,tv,List.map_flatten,List.map_replicate]
  ·rw [if_neg h]; exact trivial
end
end Vm
end
section
set_option linter.all false
set_option maxHeartbeats 1000000
namespace Vm
@[simp] def opShr:PV→PV→Res PV
 | .int i,.int j=>if 0≤j∧j≤1000 then .ok (.int (i / 2 ^ j.toNat)) else .bad
 | _,_=>.bad
@[simp] def opBit:PV→PV→Res PV
 | .int i,.int j=>if 0≤i∧0≤j then .ok (.int ((i.toNat &&& j.toNat:Nat):Int)) else .bad
 | _,_=>.bad
end Vm
end
section
set_option linter.all false
set_option maxHeartbeats 1000000
namespace Vm
def takesC(cs:List (Nat×Bool))(c:Nat):Option Bool:=(cs.find? fun x=>x.1 == c).map (·.2)
@[simp] def dTry1 (cs:List (Nat×Bool)) (b h:ST):ST:=fun Γ=>match b Γ with
 | .exc c Γ'=>match takesC cs c with
  | some true=>match h Γ' with
   | .exc _ _=>.bad
   | o=>o
  | some false=>.exc c Γ'
  | none=>.bad
 | o=>o
end Vm
end
section
set_option linter.all false
set_option maxHeartbeats 1000000
set_option maxRecDepth 10000
namespace Vm
section
variable {Γ:En} {a b:EX} {t u:Tg}
end
end Vm
end
section
set_option linter.all false
set_option maxHeartbeats 1000000
set_option maxRecDepth 10000
namespace Vm
end Vm
end
section
set_option linter.all false
set_option maxHeartbeats 1000000
set_option maxRecDepth 10000
namespace Vm
@[simp] theorem bind_ite {α β:Type} (c:Bool) (x y:Res α) (f:α→Res β):(if c then x else y).bind f=if c then x.bind f else y.bind f:=by cases c <;> rfl
@[simp] theorem then_nx' {σ ρ β:Type} (s:σ) (r:ρ→Res β) (k:σ→Res β):(Ctl.nx s).then r k=k s:=rfl
@[simp] theorem then_bk' {σ ρ β:Type} (s:σ) (r:ρ→Res β) (k:σ→Res β):(Ctl.bk s).then r k=k s:=rfl
@[simp] theorem then_rt' {σ ρ β:Type} (x:ρ) (r:ρ→Res β) (k:σ→Res β):(Ctl.rt x:Ctl σ ρ).then r k=r x:=rfl
@[simp] theorem noExc_ok {α:Type} (a:α):noExc (Res.ok a) = .ok a:=rfl
@[simp] theorem signs_length (l:List Nat):(signs l).length=l.length:=by simp [signs]
def gt{α:Type}[Inhabited α](l:List α)(i:Int):α:=l.getD i.toNat default
theorem gt_nat{α:Type}[Inhabited α](l:List α)(k:Nat):gt l (k:Int)=l.getD k default:=rfl
theorem gt_mem{α:Type}[Inhabited α]{l:List α}{i:Int}(h1:i.toNat < l.length):gt l i∈l:=by
 unfold gt; rw [List.getD,List.getElem?_eq_getElem h1]; exact List.getElem_mem h1
theorem ixR_gt{α:Type}[Inhabited α]{l:List α}{i:Int}(h0:0≤i)(h1:i < l.length):ixR l i = .ok (gt l i):=by
 unfold ixR
 rw [vAt_int h0 h1]
 have:i.toNat < l.length:=by omega
 simp [gt,List.getD,this]
theorem ixR_last{α:Type}[Inhabited α]{l:List α}(h:l ≠ []):ixR l (-1) = .ok (l.getLast h):=by
 unfold ixR vAt vIxN
 have:0 < l.length:=List.length_pos_iff.mpr h
 rw [if_neg (by omega),if_pos (by omega)]
 have e:((-1:Int)+(l.length:Int)).toNat=l.length - 1:=by omega
 rw [e,Option.bind_some,← List.getLast?_eq_getElem?,List.getLast?_eq_some_getLast h]
def rngN(n:Nat):List Int:=(List.range n).map fun (k:Nat)=>(k:Int)
@[simp] theorem rngN_length (n:Nat):(rngN n).length=n:=by simp [rngN]
theorem rngI0(n:Int):rngI 0 n=rngN n.toNat:=by unfold rngI rngN; rw [Int.sub_zero]; exact List.map_congr_left fun k _=>by omega
theorem mem_rngN{n:Nat}{x:Int}:x∈rngN n ↔ 0≤x∧x < n:=by
 unfold rngN
 rw [List.mem_map]
 constructor
 ·rintro ⟨k,hk,rfl⟩
  have:k < n:=by simpa using hk
  omega
 ·rintro ⟨a,b⟩
  exact ⟨x.toNat,by simp; omega,by omega⟩
theorem rngN_get{n i:Nat}{x:Int}(h:(rngN n)[i]? = some x):x=i∧i < n:=by
 unfold rngN at h
 rw [List.getElem?_map] at h
 have hi:i < n:=by
  cases e:(List.range n)[i]? with
  | none=>rw [e] at h; cases h
  | some k=>simpa using (List.getElem?_eq_some_iff.mp e).1
 rw [List.getElem?_range hi] at h
 exact ⟨by simpa using h.symm,hi⟩
theorem rngR_nat{n:Nat}(h:n≤1000000000):rngR (n:Int) = .ok (rngN n):=by
 unfold rngR
 rw [if_pos (rngOk_of (by omega) (by omega)),rngI0]; rfl
theorem rngR_int{n:Int}(h0:0≤n)(h:n≤1000000000):rngR n = .ok (rngN n.toNat):=by
 unfold rngR
 rw [if_pos (rngOk_of (by omega) (by omega)),rngI0]
theorem mem_rngI{lo hi x:Int}:x∈rngI lo hi ↔ lo≤x∧x < hi:=by
 unfold rngI
 rw [List.mem_map]
 constructor
 ·rintro ⟨k,hk,rfl⟩
  have:k < (hi - lo).toNat:=by simpa using hk
  omega
 ·rintro ⟨a,b⟩
  exact ⟨(x - lo).toNat,by simp; omega,by omega⟩
@[simp] theorem rngI_length (lo hi:Int):(rngI lo hi).length=(hi - lo).toNat:=by simp [rngI]
theorem rng2R_ok{lo hi:Int}(h0:-1000000000≤lo)(h1:lo≤1000000000)(h2:-1000000000≤hi)(h3:hi≤1000000000):rng2R lo hi = .ok (rngI lo hi):=by
 unfold rng2R
 rw [rngOk_of (by omega) (by omega),rngOk_of (by omega) (by omega)]; rfl
theorem appR_ok{α:Type}{l:List α}{x:α}(h:l.length < 16777216):appR l x = .ok (l++[x]):=if_pos h
theorem catR_ok{α:Type}{l m:List α}(h:l.length+m.length≤16777216):catR l m = .ok (l++m):=if_pos h
theorem szR_ok{α:Type}{l:List α}(h:l.length≤16777216):szR l = .ok l:=if_pos h
theorem setR_ok{α:Type}{l:List α}{i:Int}{x:α}(h0:0≤i)(h1:i < l.length):setR l i x = .ok (l.set i.toNat x):=by
 unfold setR vIxN; rw [if_pos h0,if_pos h1]
theorem modR_ok{i j:Int}(h:0 < j):modR i j = .ok (i % j):=if_pos h
theorem mulR_ok{i j:Int}{m n:Nat}(ha:i.natAbs < 2 ^ m)(hb:j.natAbs < 2 ^ n)(h:m+n < 50000000):mulR i j = .ok (i * j):=if_pos (mulOk_of ha hb h)
@[simp] theorem getO_s {α:Type} (a:α):getO (some a) = .ok a:=rfl
theorem mapR_ok{ι α:Type}{f:ι→Res α}{g:ι→α}:∀ {l:List ι},(∀ x∈l,f x = .ok (g x))→mapR f l = .ok (l.map g)
 | [],_=>rfl
 | x :: l,h=>by rw [mapR,h x (by simp),bind_ok,mapR_ok fun y hy=>h y (by simp [hy])]; rfl
theorem mapR_sz{ι α:Type}{f:ι→Res α}(g:ι→α){l:List ι}(h:∀ x∈l,f x = .ok (g x))(hz:l.length≤16777216):(noExc (mapR f l)).bind szR = .ok (l.map g):=by
 rw [mapR_ok h]; exact szR_ok (by simpa using hz)
theorem mapR_ex{ι α:Type}{f:ι→Res α}(G:ι→α→Prop):∀ {l:List ι},(∀ x∈l,∃ y,f x = .ok y∧G x y)→∃ ys,mapR f l = .ok ys∧ys.length=l.length∧∀ (i:Nat) (x:ι),l[i]? = some x→∃ y,ys[i]? = some y∧G x y
 | [],_=>⟨[],rfl,rfl,fun i x h=>by simp at h⟩
 | x :: l,h=>by
  obtain ⟨y,h1,h2⟩:=h x (by simp)
  obtain ⟨ys,h3,h4,h5⟩:=mapR_ex G (l:=l) fun z hz=>h z (by simp [hz])
  refine ⟨y :: ys,by rw [mapR,h1,bind_ok,h3]; rfl,by simp [h4],fun i z hz=>?_⟩
  cases i with
  | zero=>simp at hz; subst hz; exact ⟨y,rfl,h2⟩
  | succ i=>exact h5 i z (by simpa using hz)
theorem mapR_all{ι α:Type}{f:ι→Res α}(G:α→Prop){l:List ι}(h:∀ x∈l,∃ y,f x = .ok y∧G y)(hz:l.length≤16777216):∃ ys,(noExc (mapR f l)).bind szR = .ok ys∧ys.length=l.length∧∀ y∈ys,G y:=by
 obtain ⟨ys,h1,h2,h3⟩:=mapR_ex (fun _ y=>G y) h
 refine ⟨ys,by rw [h1]; exact szR_ok (by omega),h2,fun y hy=>?_⟩
 obtain ⟨i,hi⟩:=List.getElem?_of_mem hy
 have hlt:i < l.length:=by rw [← h2]; exact (List.getElem?_eq_some_iff.mp hi).1
 obtain ⟨z,h4,h5⟩:=h3 i _ (List.getElem?_eq_getElem hlt)
 rw [hi] at h4; cases h4; exact h5
theorem lcR_ok{ι α:Type}{c:ι→Res Bool}{f:ι→Res α}{p:ι→Bool}{g:ι→α}:∀ {l:List ι},(∀ x∈l,c x = .ok (p x)∧(p x=true→f x = .ok (g x)))→lcR c f l = .ok ((l.filter p).map g)
 | [],_=>rfl
 | x :: l,h=>by
  obtain ⟨h1,h2⟩:=h x (by simp)
  have ih:=lcR_ok (l:=l) fun y hy=>h y (by simp [hy])
  rw [lcR,h1,bind_ok]
  cases e:p x with
  | true=>rw [if_pos rfl,h2 e,bind_ok,ih,List.filter_cons_of_pos e]; rfl
  | false=>rw [if_neg Bool.false_ne_true,ih,List.filter_cons_of_neg (by rw [e]; simp)]
theorem lcR_sz{ι α:Type}{c:ι→Res Bool}{f:ι→Res α}(p:ι→Bool)(g:ι→α){l:List ι}(h:∀ x∈l,c x = .ok (p x)∧(p x=true→f x = .ok (g x)))(hz:l.length≤16777216):(noExc (lcR c f l)).bind szR = .ok ((l.filter p).map g):=by
 rw [lcR_ok h]
 refine szR_ok ?_
 rw [List.length_map]
 exact Nat.le_trans (List.length_filter_le _ _) hz
theorem forS_inv{σ ι:Type}{F:σ→ι→Res σ}(I:Nat→σ→Prop)(l:List ι)(s:σ)(h0:I 0 s)(hs:∀ i x s,l[i]? = some x→I i s→∃ s',F s x = .ok s'∧I (i+1) s'):∃ s',forS F l s = .ok s'∧I l.length s':=by
 have go:∀ (m:List ι) (k:Nat) (s:σ),I k s→(∀ j,m[j]? = l[k+j]?)→∃ s',forS F m s = .ok s'∧I (k+m.length) s':=by
  intro m
  induction m with
  | nil=>intro k s hi _; exact ⟨s,rfl,hi⟩
  | cons y m ih =>
   intro k s hi hm
   obtain ⟨s',h1,h2⟩:=hs k y s (by have:=hm 0; simpa using this.symm) hi
   obtain ⟨s2,h3,h4⟩:=ih (k+1) s' h2 fun j=>by have:=hm (j+1); rw [List.getElem?_cons_succ] at this; rw [this]; congr 1; omega
   refine ⟨s2,by rw [forS,h1]; exact h3,?_⟩
   rw [List.length_cons,show k+(m.length+1)=k+1+m.length by omega]
   exact h4
 obtain ⟨s',h1,h2⟩:=go l 0 s h0 fun j=>by rw [Nat.zero_add]
 exact ⟨s',h1,by rw [Nat.zero_add] at h2; exact h2⟩
theorem forT_all{ρ ι:Type}{F:Unit→ι→Res (Ctl Unit ρ)}:∀ {l:List ι},(∀ x∈l,F () x = .ok (.nx ()))→forT F l () = .ok (.nx ())
 | [],_=>rfl
 | x :: l,h=>by rw [forT,h x (by simp),bind_ok]; exact forT_all fun y hy=>h y (by simp [hy])
@[simp] theorem enumT_length {α:Type} (l:List α):(enumT l).length=l.length:=by simp [enumT]
theorem gt_map{α β:Type}[Inhabited α][Inhabited β](f:α→β){l:List α}{i:Int}(h:i.toNat < l.length):gt (l.map f) i=f (gt l i):=by
 unfold gt
 simp [List.getD,h]
theorem map_gt{α:Type}[Inhabited α](l:List α):(rngN l.length).map (gt l)=l:=by
 apply List.ext_getElem?
 intro i
 unfold rngN
 rw [List.map_map,List.getElem?_map]
 by_cases h:i < l.length
 ·rw [List.getElem?_range h,List.getElem?_eq_getElem h]; simp [gt,List.getD,h]
 ·rw [List.getElem?_eq_none (by simp; omega),List.getElem?_eq_none (by omega)]; rfl
end Vm
end
section
set_option Elab.async false
set_option linter.all false
set_option maxRecDepth 100000
set_option maxHeartbeats 1000000
namespace L2
open PySem PySem.Spec PyProof.Rows
theorem okD {P:Program} {w:World} {H:Hp} {h:Heap} {a:Addr} {its:List Value} {xs:List V} (hz:xs.length≤sizeLine) (r:Vals xs its) (e:h.get? a=some { cls:=.type "tuple",data:=.seq its.toArray }) :
  ObjOk P w H h a (.frz { cls:=.type "tuple",data:=.seq its.toArray } (.tup xs)):=⟨e,hz,its,r,_,e,rfl,_,rfl⟩
def NewT(xs:List V)(H:Hp)(Q:VK):Prop:=∀ (p:Addr) (o:Obj),H p=none→o.dict=none→Q (.ref p) (upd H p (.frz o (.tup xs)))
section
variable {X:Cx}
theorem newD{pins:List (Addr×Obj)}{σ:St}{H:Hp}{s:Shared}{Q:VK}{xs:List V}{its:List Value}(t':Nat)(I:Inv X pins σ H s)(hz:xs.length≤sizeLine)(r:Vals xs its)(q:NewT xs H Q) :
  EP X pins σ Q (.ref s.heap.objs.size) { s with heap:=s.heap.push { cls:=.type "tuple",data:=.seq its.toArray },toks:=t' } :=
 ⟨.ref s.heap.objs.size,upd H s.heap.objs.size (.frz { cls:=.type "tuple",data:=.seq its.toArray } (.tup xs)),I.laid (t':=t') (fun b u e=>Heap.get?_push_of_some _ e) (Nat.le_refl _) (okD hz r (Heap.get?_push_size _ rfl)),rfl,q _ _ (I.hok.fresh (Nat.le_refl _)) rfl⟩
def tTupD(t:TA):TE:=fun σ H Q=>t σ H fun xs H1=>xs.length≤sizeLine∧NewT xs H1 Q
theorem pe_tupD{es:List Expr}{t:TA}{pos:Pos}{x1}(h:PA X es t):PE X (.Tuple es x1 pos) (tTupD t):=by
 refine ⟨fun pins s σ H Q I hq=>?_⟩
 refine wpAny_Tuple_spliced (thn (h.run pos pins s σ H _ I hq) fun us s1 ⟨xs,H1,I1,r,z,q⟩=>⟨by rw [← r.length]; exact z,?_⟩)
 exact newD s1.toks I1 z r q
theorem call_tupleD:CallR X (.type "tuple") (fun xs H Q=>∃ p ys,xs=[.ref p]∧((SqL X.K H p ys∧NewT ys H Q) ∨ (SqT X.K H p ys∧Q (.ref p) H))):=by
 intro pins s σ H xs us Q I r h
 obtain ⟨p,ys,rfl,h⟩:=h
 obtain ⟨u,rfl,rx⟩:=vals1 r
 cases rx
 rcases h with ⟨hq,q⟩ | ⟨hq,q⟩
 ·obtain ⟨its,r',pl,hz⟩:=I.list hq
  have hlen:=r'.length
  refine call_tuple_list pl.isList (fun h' kp=>?_) (by simp only [List.size_toArray] <;> omega)
  have I1:Inv X pins σ H { s with heap:=h' }:=I.kept (t':=s.toks) kp
  have I2:Inv X pins σ (upd H h'.objs.size (.frz { cls:=.type "tuple",data:=.seq its.toArray } (.tup ys))) { s with heap:=h'.push { cls:=.type "tuple",data:=.seq its.toArray } } :=
   I1.laid (t':=s.toks) (fun b o e=>Heap.get?_push_of_some _ e) (Nat.le_refl _) (okD hz r' (Heap.get?_push_size _ rfl))
  exact ⟨.ref h'.objs.size,_,I2,rfl,q _ _ (I1.hok.fresh (Nat.le_refl _)) rfl⟩
 ·obtain ⟨its,r',pl,hz⟩:=I.tuple hq
  exact call_tuple_same pl ⟨.ref p,H,I,rfl,q⟩
def rSlD(K:PySem.W.Frag):V→Option Int→Option Int→Hp→VK→Prop:=fun x lo hi H Q=>∃ a xs,x = .ref a∧SqT K H a xs ∧
 (HT.sIx xs.length 0 lo=0∧HT.sIx xs.length xs.length hi=xs.length→Q (.ref a) H)∧(¬ (HT.sIx xs.length 0 lo=0∧HT.sIx xs.length xs.length hi=xs.length)→NewT (cutV xs lo hi) H Q)
theorem sl_tupD:SlR X (rSlD X.K):=by
 intro pins s σ H x v vl vu lo hi sl Q I rx hs pl pu h
 obtain ⟨a,xs,rfl,hx,q1,q2⟩:=h
 cases rx
 obtain ⟨its,r,ht,hz⟩:=I.tuple hx
 have hlen:its.toArray.size=xs.length:=by rw [List.size_toArray]; exact r.length.symm
 refine ⟨"tuple",_,PyProof.Rows.slot_tuple_getitem.lookup,ht.typeIs,?_⟩
 by_cases hw:HT.sIx xs.length 0 lo=0∧HT.sIx xs.length xs.length hi=xs.length
 ·exact getItem_tuple_whole ht hs pl pu (by rw [hlen]; exact hw) ⟨.ref a,H,I,rfl,q1 hw⟩
 ·refine HT.getItem_tuple_cut ht hs pl pu (by rw [hlen]; exact hw) ?_ (by rw [hlen]; exact hz)
  rw [hlen]
  exact newD s.toks I (Nat.le_trans (cutV_length xs lo hi) hz) ((r.drop (HT.sIx xs.length 0 lo)).take (HT.sIx xs.length xs.length hi - HT.sIx xs.length 0 lo)) (q2 hw)
def rCatD(K:PySem.W.Frag):R2:=fun x y H Q=>∃ a b xs ys,x = .ref a∧y = .ref b∧SqT K H a xs∧SqT K H b ys∧xs.length+ys.length≤sizeLine ∧
 (xs=[]→Q (.ref b) H)∧(xs ≠ []→ys=[]→Q (.ref a) H)∧(xs ≠ []→ys ≠ []→NewT (xs++ys) H Q)
theorem op_catD:OpR X (binaryOp .Add) (rCatD X.K):=by
 intro pins s σ H x y v u Q I rx ry h
 obtain ⟨a,b,xs,ys,rfl,rfl,ha,hb,hz,q0,q1,q2⟩:=h
 cases rx
 cases ry
 obtain ⟨its,r1,p1,_⟩:=I.tuple ha
 obtain ⟨its2,r2,p2,_⟩:=I.tuple hb
 by_cases hx:xs=[]
 ·subst hx
  cases r1
  exact cat_tup0 p1 p2 ⟨.ref b,H,I,rfl,q0 rfl⟩
 ·refine HT.cat_tup p1 p2 (fun z=>hx (r1.nil_iff.mp z)) (fun z=>⟨.ref a,H,I,rfl,q1 hx (r2.nil_iff.mp z)⟩) (fun z=>?_) (by rw [← r1.length,← r2.length]; exact hz)
  exact newD s.toks I (by rw [List.length_append]; exact hz) (r1.append r2) (q2 hx (fun w=>z (r2.nil_iff.mpr w)))
def rRepD(K:PySem.W.Frag):R2:=fun x y H Q=>∃ l k xs,x = .ref l∧y = .int k∧SqT K H l xs∧xs ≠ []∧2≤k∧k≤1000∧xs.length≤1000∧NewT (List.replicate k.toNat xs).flatten H Q
theorem op_repD:OpR X (binaryOp .Mult) (rRepD X.K):=by
 intro pins s σ H x y v u Q I rx ry h
 obtain ⟨l,k,xs,rfl,rfl,hT,hne,h1,h2,hz,q⟩:=h
 cases rx
 obtain ⟨t,rfl⟩:=ry
 obtain ⟨its,r,⟨⟨cls,dd,data,sl⟩,ho,hc,n,hd⟩,hs⟩:=I.tuple hT
 simp only at hc hd
 subst hc hd
 have hle:its.length=xs.length:=r.length.symm
 have hn:its ≠ []:=fun e=>hne (by
  rw [e] at hle
  exact List.eq_nil_of_length_eq_zero hle.symm)
 have hi:its.toArray.isEmpty=false:=by
  cases its with
  | nil=>exact absurd rfl hn
  | cons a b=>rfl
 have hsz0:its.toArray.size=xs.length:=by rw [List.size_toArray,hle]
 have hm:((its.toArray.size:Nat):Int) * k≤1000000:=by
  rw [hsz0]
  have a1:((xs.length:Nat):Int) * k≤1000 * k:=Int.mul_le_mul_of_nonneg_right (by omega) (by omega)
  omega
 have flen:(List.replicate k.toNat its).flatten.length≤sizeLine:=by
  rw [PyProof.Rows.lm_len_rep_flat,hle,sizeLine_eq]
  have a1:k.toNat * xs.length≤1000 * 1000:=Nat.mul_le_mul (by omega) hz
  omega
 have c0:(decide (k < -(2 ^ 63)) || decide (k ≥ 2 ^ 63))=false:=by
  rw [decide_eq_false (by omega),decide_eq_false (by omega)] <;> rfl
 have c1:(its.toArray.isEmpty || k == 1)=false:=by
  rw [hi,Bool.false_or]
  exact beq_eq_false_iff_ne.mpr (by omega)
 have c2:(decide (k≤0) || its.toArray.isEmpty)=false:=by
  rw [hi,Bool.or_false]
  exact decide_eq_false (by omega)
 have c4:Builtin.Tuple.tupleTooMany (((its.toArray.size:Nat):Int) * k)=false:=by
  unfold Builtin.Tuple.tupleTooMany
  rw [sizeLine_eq]
  exact decide_eq_false (by omega)
 refine wpAny_binaryOp_repeat_ref (T:="tuple") (U:="int") (by decide) ⟨_,ho,rfl⟩ (fun s'=>typeIs_int s' k t) noFill_tuple_mul F.fills_int_mul F.slot_int_rmul repeat_tuple F.slot_int_index.lookup
  (call_meets F.slot_int_rmul (typeIs_int s k t) F.entry_int_rmul (F.args_int_rmul_2 _ _) (int_rmul_tuple k t l its.toArray n dd sl)
   ⟨ho,rfl,⟨_,ho,rfl⟩,call_meets F.slot_tuple_mul ⟨_,ho,rfl⟩ F.entry_tuple_mul (F.args_tuple_mul_2 _ _) (tuple_mulW l its.toArray n dd sl k t c0 c1 c2 (by omega) c4 (by rw [size_rep,List.size_toArray]; exact flen)) ⟨ho,?_⟩⟩)
 rw [size_rep]
 exact newD s.toks I (by rw [PyProof.Rows.lm_len_rep_flat,sizeLine_eq]; have a1:k.toNat * xs.length≤1000 * 1000:=Nat.mul_le_mul (by omega) hz; omega) (r.rep k.toNat) q
end
end L2
end
section
set_option Elab.async false
set_option linter.all false
set_option maxRecDepth 100000
set_option maxHeartbeats 1000000
namespace Vl
open PySem L2 Vm PyProof.Rows
abbrev tq(t:Obj×List V):HO:=.frz t.1 (.tup t.2)
def TupAt(F:Hp)(a:Addr)(vs:List V):Prop:=∃ o:Obj,o.dict=none∧F a=some (tq (o,vs))
theorem TupAt.up{F G:Hp}{a:Addr}{vs:List V}(h:TupAt F a vs)(g:∀ a xs,F a=some (tq xs)→G a=some (tq xs)):TupAt G a vs:=let ⟨o,d,e⟩:=h; ⟨o,d,g _ _ e⟩
theorem TupAt.mono{F G:Hp}{a:Addr}{vs:List V}(g:Same F G)(h:TupAt F a vs):TupAt G a vs:=h.up fun _ _=>g _ _
theorem TupAt.sq{K:PySem.W.Frag}{F:Hp}{a:Addr}{vs:List V}(h:TupAt F a vs):SqT K F a vs:=let ⟨o,_,e⟩:=h; .inl (.inr ⟨o,e⟩)
theorem TupAt.new{F:Hp}{a:Addr}{vs:List V}{o:Obj}(d:o.dict=none):TupAt (upd F a (tq (o,vs))) a vs:=⟨o,d,upd_same⟩
theorem same_new{H:Hp}{p:Addr}{o:HO}(h:H p=none):Same H (upd H p o):=fun b x e=>by
 rw [upd_ne (ne_of_none e h)]; exact e
structure KK where
 fr:PySem.W.Frag
 P:Program
 w:World
 mg:Str→Option Value
instance:Coe KK PySem.W.Frag:=⟨KK.fr⟩
def noBoolV:Value→Bool
 | .bool _=>false
 | _=>true
def plIs(k:Leaf)(v:Value):Bool:=Leaf.isOf k v && noBoolV v
theorem plIs_leaf{k:Leaf}{v:Value}(h:plIs k v=true):Leaf.isOf k v=true:=by unfold plIs at h; rw [Bool.and_eq_true] at h; exact h.1
def plK(prog:Program)(w:World):KeyKind prog w Leaf where
 is:=plIs
 hash:=fun k=>k.key.hash w
 inj:=fun v a b ha hb=>(leafKind prog w).inj v a b (plIs_leaf ha) (plIs_leaf hb)
 byValue:=fun k v h=>(leafKind prog w).byValue k v (plIs_leaf h)
 pyHash:=fun hv h=>(leafKind prog w).pyHash (plIs_leaf hv) h
 eqBool:=fun hu hv h=>(leafKind prog w).eqBool (plIs_leaf hu) (plIs_leaf hv) h
 «strs»:=fun k x t v h=>by
  have e:=(leafKind prog w).strs k x t v (plIs_leaf h)
  have e:Leaf.isOf k v=v.isStr x:=e
  unfold plIs
  rw [e]
  cases v <;> first | rfl | exact Bool.and_true _
mutual
def keyG:PV→Bool
 | .non=>true
 | .int _=>true
 | .str l=>strG l
 | .tup l=>keyGL l
 | _=>false
def keyGL:List PV→Bool
 | []=>true
 | p :: ps=>keyG p && keyGL ps
end
mutual
def nkOf:PV→NestedKey
 | .int i=>.num i
 | .str l=>.text ⟨l.toArray⟩
 | .tup l=>.tup (nkOfL l)
 | _=>.none
def nkOfL:List PV→List NestedKey
 | []=>[]
 | p :: ps=>nkOf p :: nkOfL ps
end
mutual
def KeyV (F:Hp):NestedKey→V→Prop
 | .none,v=>v = .non
 | .num i,v=>v = .int i
 | .text x,v=>v = .str x
 | .tup l,v=>∃ a vs,v = .ref a∧TupAt F a vs∧KeyVs F l vs
def KeyVs (F:Hp):List NestedKey→List V→Prop
 | [],vs=>vs=[]
 | p :: ps,vs=>∃ v r,vs=v :: r∧KeyV F p v∧KeyVs F ps r
end
mutual
theorem KeyV.tups {F G:Hp} (g:∀ a xs,F a=some (tq xs)→G a=some (tq xs)):∀ (p:NestedKey) (v:V),KeyV F p v→KeyV G p v
 | .none,v,h=>h
 | .num _,v,h=>h
 | .text _,v,h=>h
 | .tup l,v,h=>by
  unfold KeyV at h ⊢
  obtain ⟨a,vs,h1,h2,h3⟩:=h
  exact ⟨a,vs,h1,h2.up g,KeyVs.tups g l vs h3⟩
theorem KeyVs.tups {F G:Hp} (g:∀ a xs,F a=some (tq xs)→G a=some (tq xs)):∀ (p:List NestedKey) (v:List V),KeyVs F p v→KeyVs G p v
 | [],v,h=>h
 | p :: ps,v,h=>by
  unfold KeyVs at h ⊢
  obtain ⟨u,r,h1,h2,h3⟩:=h
  exact ⟨u,r,h1,KeyV.tups g p u h2,KeyVs.tups g ps r h3⟩
end
def dHO(a:Addr)(o:Obj):HO:=.ext fun h=>h.get? a=some o
def LeafK(K:KK)(o:Obj)(nks:List NestedKey)(vs:List V):Prop:=∃ (kvs:List (Leaf×V)) (rs:List (Leaf×Value)) (es:Array DictEntry) (ep:Nat),o.ExactDict∧o.data = .dict es ep∧nks=kvs.map (fun p=>p.1.key)∧vs=kvs.map (·.2) ∧
 L2.KV kvs rs∧KeysOf (plK K.P K.w) es∧Pairs (plK K.P K.w) es.toList rs∧(rs.map (·.1)).Nodup∧kvs.length≤sizeLine
abbrev KN(F:Hp):List (NestedKey×V)→List (NestedKey×Addr×Value)→Prop:=Paired fun p q=>p.1=q.1∧KeyV F p.1 (.ref q.2.1)∧p.1.depth≤8∧RelV p.2 q.2.2
def TupK(K:KK)(F:Hp)(o:Obj)(nks:List NestedKey)(vs:List V):Prop:=∃ (kvs:List (NestedKey×V)) (xs:List (NestedKey×Addr×Value)) (es:Array DictEntry) (ep:Nat),o.ExactDict∧o.data = .dict es ep∧nks=kvs.map (·.1)∧vs=kvs.map (·.2) ∧
 KN F kvs xs∧es.toList=xs.map (entryOfKey (nestedKind K.P K.w))∧(xs.map (·.1)).Nodup∧kvs.length≤sizeLine
def DicK(K:KK)(F:Hp)(o:Obj)(nks:List NestedKey)(vs:List V):Prop:=LeafK K o nks vs ∨ TupK K F o nks vs
theorem DicK.tups{K:KK}{F G:Hp}{o:Obj}{nks:List NestedKey}{vs:List V}(g:∀ a xs,F a=some (tq xs)→G a=some (tq xs))(h:DicK K F o nks vs):DicK K G o nks vs:=by
 rcases h with h | ⟨kvs,xs,es,ep,h1,h2,h3,h4,h5,h6⟩
 ·exact .inl h
 ·exact .inr ⟨kvs,xs,es,ep,h1,h2,h3,h4,Paired.mapP h5 fun p q z=>⟨z.1,KeyV.tups g _ _ z.2.1,z.2.2⟩,h6⟩
theorem DicK.len{K:KK}{F:Hp}{o:Obj}{nks:List NestedKey}{vs:List V}(h:DicK K F o nks vs):nks.length=vs.length:=by
 rcases h with ⟨kvs,_,_,_,_,_,rfl,rfl,_⟩ | ⟨kvs,_,_,_,_,_,rfl,rfl,_⟩ <;> simp
def xName:Nat→Str
 | 0=>"VellumError"
 | 1=>"NoRow"
 | 2=>"NoPrices"
 | 3=>"NoSlips"
 | 4=>"NoNotes"
 | 5=>"NoLine"
 | 6=>"NoName"
 | 7=>"TwiceNamed"
 | _=>"TooMany"
def KK.xc(K:KK)(c:Nat):Value:=(K.mg (xName c)).getD .none
def fldN:List Str:=["rows_kept","days_kept","prices_now","fresh_now"]
def fldZ(vs:List V):List (Str×V):=fldN.zip vs
def excHO(oe:Obj):HO:=.frz oe (.ext fun _=>True)
def ExcO(K:KK)(c:Nat)(oe:Obj):Prop:=oe.cls=K.xc c∧oe.dict=none∧∃ vs,oe.data = .fields vs
mutual
def Rep (K:KK) (F:Hp):PV→V→Prop
 | .non,v=>v = .non
 | .bl b,v=>v = .bl b
 | .int i,v=>v = .int i
 | .str l,v=>v = .str ⟨l.toArray⟩∧strG l=true
 | .tup l,v=>∃ a vs,v = .ref a∧TupAt F a vs∧RepL K F l vs
 | .lst l,v=>∃ a vs,v = .ref a∧SqL K F a vs∧RepL K F l vs
 | .dic ks l,v=>∃ a o vs,v = .ref a∧F a=some (dHO a o)∧(a == sysModules)=false∧DicK K F o (ks.map nkOf) vs∧ks.all keyG=true∧RepL K F l vs
 | .exo 0 l,v=>∃ a Ch dx vs,v = .ref a∧F a=some (.ins Ch dx (fldZ vs))∧K.mg "House" = some (.ref Ch)∧l.length≤4∧RepL K F l vs
 | .exo 1 l,v=>∃ s a,l=[.str s]∧v = .ref a∧K.mg ⟨s.toArray⟩=some (.ref a)
 | .exo (c+2) _,v=>∃ a oe,v = .ref a∧F a=some (excHO oe)∧ExcO K c oe
def RepL (K:KK) (F:Hp):List PV→List V→Prop
 | [],vs=>vs=[]
 | p :: ps,vs=>∃ v r,vs=v :: r∧Rep K F p v∧RepL K F ps r
end
section
variable {K:KK} {F F' H H':Hp}
mutual
theorem Rep.mono (e:Same F F'):∀ (p:PV) (v:V),Rep K F p v→Rep K F' p v
 | .non,v,h=>h
 | .bl b,v,h=>h
 | .int i,v,h=>h
 | .str l,v,h=>h
 | .tup l,v,h=>by
  unfold Rep at h ⊢
  obtain ⟨a,vs,h1,h2,h3⟩:=h
  exact ⟨a,vs,h1,h2.mono e,RepL.mono e l vs h3⟩
 | .lst l,v,h=>by
  unfold Rep at h ⊢
  obtain ⟨a,vs,h1,h2,h3⟩:=h
  exact ⟨a,vs,h1,e.seq h2,RepL.mono e l vs h3⟩
 | .dic _ l,v,h=>by
  unfold Rep at h ⊢
  obtain ⟨a,o,vs,h1,h2,h3,h4,h5,h6⟩:=h
  exact ⟨a,o,vs,h1,e _ _ h2,h3,h4.tups fun _ _=>e _ _,h5,RepL.mono e l vs h6⟩
 | .exo 0 l,v,h=>by
  unfold Rep at h ⊢
  obtain ⟨a,Ch,dx,vs,h1,h2,h3,h4,h5⟩:=h
  exact ⟨a,Ch,dx,vs,h1,e _ _ h2,h3,h4,RepL.mono e l vs h5⟩
 | .exo 1 _,v,h=>by
  unfold Rep at h ⊢
  exact h
 | .exo (c+2) _,v,h=>by
  unfold Rep at h ⊢
  obtain ⟨a,oe,h1,h2,h3⟩:=h
  exact ⟨a,oe,h1,e _ _ h2,h3⟩
theorem RepL.mono (e:Same F F'):∀ (ps:List PV) (vs:List V),RepL K F ps vs→RepL K F' ps vs
 | [],vs,h=>h
 | p :: ps,vs,h=>by
  unfold RepL at h ⊢
  obtain ⟨v,r,h1,h2,h3⟩:=h
  exact ⟨v,r,h1,Rep.mono e p v h2,RepL.mono e ps r h3⟩
end
theorem RepL.len:∀ {ps:List PV} {vs:List V},RepL K F ps vs→vs.length=ps.length
 | [],vs,h=>by unfold RepL at h; rw [h]; rfl
 | p :: ps,vs,h=>by
  unfold RepL at h
  obtain ⟨v,r,rfl,_,h3⟩:=h
  simp [RepL.len h3]
theorem RepL.get:∀ {ps:List PV} {vs:List V} {i:Nat} {p:PV},RepL K F ps vs→ps[i]? = some p→∃ v,vs[i]? = some v∧Rep K F p v
 | [],vs,i,p,h,e=>by simp at e
 | q :: ps,vs,0,p,h,e=>by
  unfold RepL at h
  obtain ⟨v,r,rfl,h2,_⟩:=h
  simp at e; subst e
  exact ⟨v,rfl,h2⟩
 | q :: ps,vs,i+1,p,h,e=>by
  unfold RepL at h
  obtain ⟨v,r,rfl,_,h3⟩:=h
  simp at e
  obtain ⟨u,h4,h5⟩:=RepL.get h3 e
  exact ⟨u,by simpa using h4,h5⟩
theorem RepL.getV:∀ {ps:List PV} {vs:List V} {i:Nat} {v:V},RepL K F ps vs→vs[i]? = some v→∃ p,ps[i]? = some p∧Rep K F p v
 | [],vs,i,p,h,e=>by unfold RepL at h; subst h; simp at e
 | q :: ps,vs,0,p,h,e=>by
  unfold RepL at h
  obtain ⟨v,r,rfl,h2,_⟩:=h
  simp at e; subst e
  exact ⟨q,rfl,h2⟩
 | q :: ps,vs,i+1,p,h,e=>by
  unfold RepL at h
  obtain ⟨v,r,rfl,_,h3⟩:=h
  simp at e
  obtain ⟨u,h4,h5⟩:=RepL.getV h3 e
  exact ⟨u,by simpa using h4,h5⟩
theorem RepL.append:∀ {ps qs:List PV} {vs us:List V},RepL K F ps vs→RepL K F qs us→RepL K F (ps++qs) (vs++us)
 | [],qs,vs,us,h,g=>by unfold RepL at h; subst h; exact g
 | p :: ps,qs,vs,us,h,g=>by
  unfold RepL at h
  obtain ⟨v,r,rfl,h2,h3⟩:=h
  show RepL K F (p :: (ps++qs)) (v :: (r++us))
  unfold RepL
  exact ⟨v,r++us,rfl,h2,RepL.append h3 g⟩
theorem RepL.nil:RepL K F [] []:=by unfold RepL; rfl
theorem RepL.cons{p:PV}{ps:List PV}{v:V}{vs:List V}(h:Rep K F p v)(g:RepL K F ps vs):RepL K F (p :: ps) (v :: vs):=by
 unfold RepL; exact ⟨v,vs,rfl,h,g⟩
theorem RepL.drop:∀ {ps:List PV} {vs:List V} (n:Nat),RepL K F ps vs→RepL K F (ps.drop n) (vs.drop n)
 | _,_,0,h=>h
 | [],vs,n+1,h=>by unfold RepL at h; subst h; exact RepL.nil
 | p :: ps,vs,n+1,h=>by
  unfold RepL at h
  obtain ⟨v,r,rfl,_,h3⟩:=h
  exact RepL.drop n h3
theorem RepL.take:∀ {ps:List PV} {vs:List V} (n:Nat),RepL K F ps vs→RepL K F (ps.take n) (vs.take n)
 | _,_,0,h=>RepL.nil
 | [],vs,n+1,h=>by unfold RepL at h; subst h; exact RepL.nil
 | p :: ps,vs,n+1,h=>by
  unfold RepL at h
  obtain ⟨v,r,rfl,h2,h3⟩:=h
  exact RepL.cons h2 (RepL.take n h3)
theorem RepL.set{q:PV}{u:V}(g:Rep K F q u):∀ {ps:List PV} {vs:List V} (n:Nat),RepL K F ps vs→RepL K F (ps.set n q) (vs.set n u)
 | [],vs,n,h=>by unfold RepL at h; subst h; exact RepL.nil
 | p :: ps,vs,0,h=>by
  unfold RepL at h
  obtain ⟨v,r,rfl,h2,h3⟩:=h
  exact RepL.cons g h3
 | p :: ps,vs,n+1,h=>by
  unfold RepL at h
  obtain ⟨v,r,rfl,h2,h3⟩:=h
  exact RepL.cons h2 (RepL.set g n h3)
theorem RepL.reverse:∀ {ps:List PV} {vs:List V},RepL K F ps vs→RepL K F ps.reverse vs.reverse
 | [],vs,h=>by unfold RepL at h; subst h; exact RepL.nil
 | p :: ps,vs,h=>by
  unfold RepL at h
  obtain ⟨v,r,rfl,h2,h3⟩:=h
  rw [List.reverse_cons,List.reverse_cons]
  exact RepL.append (RepL.reverse h3) (RepL.cons h2 RepL.nil)
def toV:PV→V
 | .bl b=>.bl b
 | .int i=>.int i
 | .str l=>.str ⟨l.toArray⟩
 | _=>.non
theorem rep_int{i:Int}:Rep K F (.int i) (.int i):=by unfold Rep; rfl
theorem rep_bl{b:Bool}:Rep K F (.bl b) (.bl b):=by unfold Rep; rfl
theorem rep_non:Rep K F .non .non:=by unfold Rep; rfl
theorem rep_str{l:List Nat}(h:strG l=true):Rep K F (.str l) (.str ⟨l.toArray⟩):=by unfold Rep; exact ⟨rfl,h⟩
def OwnL(Q:List Addr→PV→V→Prop):List (List Addr)→List PV→List V→Prop
 | [],[],[]=>True
 | f :: fs,p :: ps,v :: vs=>Q f p v∧OwnL Q fs ps vs
 | _,_,_=>False
def Hold(K:KK)(F:Hp)(ho:Option HO)(a:Addr)(p:PV)(l:List PV)(vs:List V):Prop :=
 (p = .lst l∧ho=some (.lst vs)) ∨ (∃ ks o,p = .dic ks l∧ho=some (dHO a o)∧(a == sysModules)=false∧DicK K F o (ks.map nkOf) vs∧ks.all keyG=true) ∨
 ∃ Ch dx,p = .exo 0 l∧ho=some (.ins Ch dx (fldZ vs))∧K.mg "House" = some (.ref Ch)∧l.length≤4
theorem Hold.tups{K:KK}{F G:Hp}{ho:Option HO}{a:Addr}{p:PV}{l:List PV}{vs:List V}(g:∀ a xs,F a=some (tq xs)→G a=some (tq xs))(h:Hold K F ho a p l vs):Hold K G ho a p l vs:=by
 rcases h with h | ⟨ks,o,h1,h2,h3,h4,h5⟩ | h
 ·exact .inl h
 ·exact .inr (.inl ⟨ks,o,h1,h2,h3,h4.tups g,h5⟩)
 ·exact .inr (.inr h)
theorem Hold.there{K:KK}{F:Hp}{ho:Option HO}{a:Addr}{p:PV}{l:List PV}{vs:List V}(h:Hold K F ho a p l vs):∃ o,ho=some o∧∀ xs,o ≠ tq xs:=by
 rcases h with ⟨_,h⟩ | ⟨_,_,_,h,_⟩ | ⟨_,_,_,h,_⟩
 ·exact ⟨_,h,fun _ z=>by cases z⟩
 ·exact ⟨_,h,fun _ z=>by cases z⟩
 ·exact ⟨_,h,fun _ z=>by cases z⟩
def Own(K:KK)(F H:Hp):Nat→List Addr→PV→V→Prop
 | 0,fp,p,v=>fp=[]∧Rep K F p v
 | d+1,fp,p,v=>(∃ l a vs fps,v = .ref a∧Hold K F (H a) a p l vs∧fp=a :: fps.flatten∧OwnL (Own K F H d) fps l vs) ∨ (fp=[]∧boxed p=false∧Rep K F p v)
theorem Own.lst{K:KK}{F H:Hp}{d:Nat}{fp:List Addr}{l:List PV}{v:V}(h:Own K F H (d+1) fp (.lst l) v):∃ l' a vs fps,PV.lst l = .lst l'∧v = .ref a∧H a=some (.lst vs)∧fp=a :: fps.flatten∧OwnL (Own K F H d) fps l' vs:=by
 rcases h with ⟨l',a,vs,fps,h1,h2,h3,h4⟩ | ⟨_,h,_⟩
 ·rcases h2 with ⟨e,h2⟩ | ⟨_,_,e,_⟩ | ⟨_,_,e,_⟩
  ·exact ⟨l',a,vs,fps,e,h1,h2,h3,h4⟩
  ·cases e
  ·cases e
 ·cases h
theorem Own.mkL{K:KK}{F H:Hp}{d:Nat}{fp:List Addr}{p:PV}{v:V}(h:∃ l' a vs fps,p = .lst l'∧v = .ref a∧H a=some (.lst vs)∧fp=a :: fps.flatten∧OwnL (Own K F H d) fps l' vs):Own K F H (d+1) fp p v:=by
 obtain ⟨l',a,vs,fps,e,h1,h2,h3,h4⟩:=h
 exact .inl ⟨l',a,vs,fps,h1,.inl ⟨e,h2⟩,h3,h4⟩
theorem Own.unbox{K:KK}{F H:Hp}{p:PV}(hp:boxed p=false):∀ {d:Nat} {fp:List Addr} {v:V},Own K F H d fp p v→fp=[]∧Rep K F p v
 | 0,fp,v,h=>h
 | d+1,fp,v,h=>by
  rcases h with ⟨_,_,_,_,_,⟨e,_⟩ | ⟨_,_,e,_⟩ | ⟨_,_,e,_⟩,_⟩ | ⟨h1,_,h2⟩
  ·rw [e] at hp; cases hp
  ·rw [e] at hp; cases hp
  ·rw [e] at hp; cases hp
  ·exact ⟨h1,h2⟩
theorem OwnL.imp{Q R:List Addr→PV→V→Prop}:∀ {fs:List (List Addr)} {ps:List PV} {vs:List V},OwnL Q fs ps vs→(∀ f∈fs,∀ p v,Q f p v→R f p v)→OwnL R fs ps vs
 | [],[],[],h,_=>trivial
 | f :: fs,p :: ps,v :: vs,h,g=>⟨g f (by simp) p v h.1,OwnL.imp h.2 fun f hf=>g f (by simp [hf])⟩
 | [],[],_ :: _,h,_=>h.elim
 | [],_ :: _,_,h,_=>h.elim
 | _ :: _,[],_,h,_=>h.elim
 | _ :: _,_ :: _,[],h,_=>h.elim
theorem Own.mono(e:Same F F'):∀ (d:Nat) {fp:List Addr} {p:PV} {v:V},Own K F H d fp p v→(∀ a∈fp,H' a=H a)→Own K F' H' d fp p v
 | 0,fp,p,v,h,_=>⟨h.1,Rep.mono e p v h.2⟩
 | d+1,fp,p,v,h,g=>by
  rcases h with ⟨l,a,vs,fps,h1,h2,h3,h4⟩ | ⟨h1,h2,h3⟩
  rotate_left
  ·exact .inr ⟨h1,h2,Rep.mono e _ _ h3⟩
  refine .inl ⟨l,a,vs,fps,h1,by rw [g a (by simp [h3])]; exact h2.tups fun _ _=>e _ _,h3,h4.imp fun f hf p v q=>Own.mono e d q fun b hb=>g b ?_⟩
  rw [h3]
  exact List.mem_cons_of_mem _ (List.mem_flatten.mpr ⟨f,hf,hb⟩)
theorem Own.there:∀ (d:Nat) {fp:List Addr} {p:PV} {v:V},Own K F H d fp p v→∀ a∈fp,∃ o,H a=some o∧∀ xs,o ≠ tq xs
 | 0,fp,p,v,h,a,ha=>by rw [h.1] at ha; simp at ha
 | d+1,fp,p,v,h,b,hb=>by
  rcases h with ⟨l,a,vs,fps,h1,h2,h3,h4⟩ | ⟨h1,_⟩
  rotate_left
  ·rw [h1] at hb; simp at hb
  rw [h3] at hb
  rcases List.mem_cons.mp hb with rfl | hb
  ·exact h2.there
  ·obtain ⟨f,hf,hb⟩:=List.mem_flatten.mp hb
   clear h3 h2
   have:∀ {fs:List (List Addr)} {ps:List PV} {vs:List V},OwnL (Own K F H d) fs ps vs→f∈fs→∃ o,H b=some o∧∀ xs,o ≠ tq xs:=by
    intro fs
    induction fs with
    | nil=>intro ps vs _ hm; simp at hm
    | cons g gs ih =>
     intro ps vs ho hm
     cases ps with
     | nil=>exact ho.elim
     | cons p ps =>
      cases vs with
      | nil=>exact ho.elim
      | cons v vs =>
       rcases List.mem_cons.mp hm with e | hm
       ·subst e; exact Own.there d ho.1 b hb
       ·exact ih ho.2 hm
   exact this h4 hf
theorem Own.same(hf:Same F F')(hh:Same H H'){d:Nat}{fp:List Addr}{p:PV}{v:V}(h:Own K F H d fp p v):Own K F' H' d fp p v :=
 Own.mono hf d h fun a ha=>by
  obtain ⟨o,e,_⟩:=Own.there d h a ha
  rw [e]; exact hh _ _ e
theorem Own.rep(hf:Same F H):∀ (d:Nat) {fp:List Addr} {p:PV} {v:V},Own K F H d fp p v→Rep K H p v
 | 0,fp,p,v,h=>Rep.mono hf p v h.2
 | d+1,fp,p,v,h=>by
  rcases h with ⟨l,a,vs,fps,rfl,h2,h3,h4⟩ | ⟨_,_,h3⟩
  rotate_left
  ·exact Rep.mono hf _ _ h3
  have rl:RepL K H l vs:=by
   clear h3 h2
   have:∀ {fs:List (List Addr)} {ps:List PV} {vs:List V},OwnL (Own K F H d) fs ps vs→RepL K H ps vs:=by
    intro fs
    induction fs with
    | nil =>
     intro ps vs ho
     cases ps with
     | nil=>cases vs with
      | nil=>exact RepL.nil
      | cons v vs=>exact ho.elim
     | cons p ps=>exact ho.elim
    | cons g gs ih =>
     intro ps vs ho
     cases ps with
     | nil=>exact ho.elim
     | cons p ps =>
      cases vs with
      | nil=>exact ho.elim
      | cons v vs=>exact RepL.cons (Own.rep hf d ho.1) (ih ho.2)
   exact this h4
  rcases h2 with ⟨rfl,h2⟩ | ⟨ks,o,rfl,h2,h5,h6,h7⟩ | ⟨Ch,dx,rfl,h2,h5,h6⟩
  ·unfold Rep
   exact ⟨a,vs,rfl,SqL.of h2,rl⟩
  ·unfold Rep
   exact ⟨a,o,vs,rfl,h2,h5,h6.tups fun _ _=>hf _ _,h7,rl⟩
  ·unfold Rep
   exact ⟨a,Ch,dx,vs,rfl,h2,h5,h6,rl⟩
def frzF(F H:Hp)(fp:List Addr):Hp:=fun a=>if a∈fp then H a else F a
theorem frzF_same(h:∀ a∈fp,F a=none):Same F (frzF F H fp):=fun a o e=>by
 unfold frzF
 rw [if_neg fun ha=>by rw [h a ha] at e; cases e]
 exact e
theorem frzF_in(h:Same F H):Same (frzF F H fp) H:=fun a o e=>by
 unfold frzF at e
 by_cases ha:a∈fp
 ·rw [if_pos ha] at e; exact e
 ·rw [if_neg ha] at e; exact h _ _ e
theorem Own.frz(hs:Same F H){d:Nat}{fp fp':List Addr}{p:PV}{v:V}(h:Own K F H d fp p v)(hn:∀ a∈fp',F a=none)(hsub:∀ a∈fp,a∈fp'):Rep K (frzF F H fp') p v:=by
 have h1:Own K (frzF F H fp') (frzF F H fp') d fp p v:=Own.mono (frzF_same hn) d h fun a ha=>by unfold frzF; rw [if_pos (hsub a ha)]
 exact Own.rep (Same.refl _) d h1
end
def Tups(F H:Hp):Prop:=∀ a xs,H a=some (tq xs)→F a=some (tq xs)
structure Ext (F H F' H':Hp):Prop where
 ff:Same F F'
 hh:Same H H'
 fh:Same F' H'
 tp:Tups F' H'
 nw:∀ a,F' a ≠ none→F a ≠ none ∨ H a=none
section
variable {K:KK} {F H F1 H1 F2 H2:Hp}
theorem Ext.refl(h:Same F H)(t:Tups F H):Ext F H F H:=⟨Same.refl _,Same.refl _,h,t,fun _ q=>.inl q⟩
theorem Ext.trans(a:Ext F H F1 H1)(b:Ext F1 H1 F2 H2):Ext F H F2 H2 :=
 ⟨a.ff.trans b.ff,a.hh.trans b.hh,b.fh,b.tp,fun x q=>by
  rcases b.nw x q with q | q
  ·exact a.nw x q
  ·exact .inr (a.hh.free q)⟩
theorem tups_new{p:Addr}{o:HO}(t:Tups F H)(ho:∀ xs,o ≠ tq xs)(hf:F p=none):Tups F (upd H p o):=fun a xs e=>by
 by_cases ha:a=p
 ·subst ha; rw [upd_same] at e; cases e; exact (ho _ rfl).elim
 ·rw [upd_ne ha] at e; exact t a xs e
theorem Ext.tup(h:Same F H)(t:Tups F H){p:Addr}{o:Obj}{vs:List V}(hp:H p=none):Ext F H (upd F p (tq (o,vs))) (upd H p (tq (o,vs))):=by
 have fp:F p=none:=h.free hp
 refine ⟨same_new fp,same_new hp,fun a o e=>?_,fun a xs e=>?_,fun a q=>?_⟩
 ·by_cases ha:a=p
  ·subst ha; rw [upd_same] at e ⊢; exact e
  ·rw [upd_ne ha] at e ⊢; exact h _ _ e
 ·by_cases ha:a=p
  ·subst ha; rw [upd_same] at e ⊢; exact e
  ·rw [upd_ne ha] at e ⊢; exact t _ _ e
 ·by_cases ha:a=p
  ·subst ha; exact .inr hp
  ·rw [upd_ne ha] at q; exact .inl q
theorem Ext.lst(h:Same F H)(t:Tups F H){p:Addr}{vs:List V}(hp:H p=none):Ext F H F (upd H p (.lst vs)) :=
 ⟨Same.refl _,same_new hp,h.trans (same_new hp),tups_new t (fun _ e=>by cases e) (h.free hp),fun _ q=>.inl q⟩
theorem Ext.frz(e:Ext F H F1 H1){fp:List Addr}(hn:∀ a∈fp,F1 a=none∧H a=none):Ext F H (frzF F1 H1 fp) H1:=by
 refine ⟨e.ff.trans (frzF_same fun a ha=>(hn a ha).1),e.hh,frzF_in e.fh,fun a xs q=>?_,fun a q=>?_⟩
 ·exact frzF_same (fun a ha=>(hn a ha).1) _ _ (e.tp a xs q)
 ·by_cases ha:a∈fp
  ·exact .inr (hn a ha).2
  ·unfold frzF at q; rw [if_neg ha] at q; exact e.nw a q
def RVf(K:KK)(F H Hs:Hp):TV→V→List Addr→Prop
 | (.fz,p),v,_=>Rep K F p v
 | (.bw d,p),v,_=>∃ fp,Own K F H d fp p v
 | (.ow d,p),v,fp=>Own K F H d fp p v∧fp.Nodup∧∀ a∈fp,F a=none∧Hs a=none
def RV(K:KK)(F H Hs:Hp)(x:TV)(v:V):Prop:=∃ fp,RVf K F H Hs x v fp
theorem RVf.ext{Hs:Hp}(e:Ext F H F1 H1):∀ {x:TV} {v:V} {fp:List Addr},RVf K F H Hs x v fp→RVf K F1 H1 Hs x v fp
 | (.fz,p),v,_,h=>Rep.mono e.ff p v h
 | (.bw d,p),v,_,⟨fp,h⟩=>⟨fp,h.same e.ff e.hh⟩
 | (.ow d,p),v,fp,⟨h1,h2,h3⟩=>by
  refine ⟨h1.same e.ff e.hh,h2,fun a ha=>⟨?_,(h3 a ha).2⟩⟩
  cases q:F1 a with
  | none=>rfl
  | some o =>
   rcases e.nw a (by rw [q]; simp) with z | z
   ·exact (z (h3 a ha).1).elim
   ·obtain ⟨vs,z',_⟩:=h1.there d a ha
    rw [z] at z'
    cases z'
theorem RV.ext{Hs:Hp}(e:Ext F H F1 H1){x:TV}{v:V}(h:RV K F H Hs x v):RV K F1 H1 Hs x v:=let ⟨fp,h⟩:=h; ⟨fp,h.ext e⟩
theorem RVf.start{Hs Hs':Hp}(e:Same Hs Hs'):∀ {x:TV} {v:V} {fp:List Addr},RVf K F H Hs' x v fp→RVf K F H Hs x v fp
 | (.fz,p),v,_,h=>h
 | (.bw d,p),v,_,h=>h
 | (.ow d,p),v,fp,⟨h1,h2,h3⟩=>⟨h1,h2,fun a ha=>⟨(h3 a ha).1,e.free (h3 a ha).2⟩⟩
theorem RV.start{Hs Hs':Hp}(e:Same Hs Hs'){x:TV}{v:V}(h:RV K F H Hs' x v):RV K F H Hs x v:=let ⟨fp,h⟩:=h; ⟨fp,h.start e⟩
theorem RV.rep{Hs:Hp}(hf:Same F H):∀ {x:TV} {v:V},RV K F H Hs x v→Rep K H x.2 v
 | (.fz,p),v,⟨_,h⟩=>Rep.mono hf p v h
 | (.bw d,p),v,⟨_,fp,h⟩=>h.rep hf
 | (.ow d,p),v,⟨fp,h,_⟩=>h.rep hf
theorem RV.fz{Hs:Hp}{p:PV}{v:V}(h:Rep K F p v):RV K F H Hs (.fz,p) v:=⟨[],h⟩
theorem RVf.put{Hs:Hp}(e:Ext F1 Hs F H){x:TV}{v:V}{fp:List Addr}{p:PV}(h:RVf K F H Hs x v fp)(hp:putV x = .ok p):∃ F',Ext F1 Hs F' H∧Same F F'∧Rep K F' p v∧∀ a,F' a ≠ none→F a ≠ none ∨ a∈fp:=by
 obtain ⟨t,q⟩:=x
 cases t with
 | fz=>cases hp; exact ⟨F,e,Same.refl _,h,fun _ z=>.inl z⟩
 | bw d =>
  cases d with
  | zero=>cases hp; obtain ⟨fp,h⟩:=h; exact ⟨F,e,Same.refl _,h.2,fun _ z=>.inl z⟩
  | succ d=>cases hp
 | ow d =>
  cases hp
  obtain ⟨h1,h2,h3⟩:=h
  refine ⟨frzF F H fp,e.frz h3,frzF_same fun a ha=>(h3 a ha).1,h1.frz e.fh (fun a ha=>(h3 a ha).1) fun a ha=>ha,fun a z=>?_⟩
  by_cases ha:a∈fp
  ·exact .inr ha
  ·unfold frzF at z; rw [if_neg ha] at z; exact .inl z
theorem RV.put{Hs:Hp}(e:Ext F1 Hs F H){x:TV}{v:V}{p:PV}(h:RV K F H Hs x v)(hp:putV x = .ok p):∃ F',Ext F1 Hs F' H∧Rep K F' p v :=
 let ⟨_,h⟩:=h
 let ⟨F',h1,_,h2,_⟩:=h.put e hp
 ⟨F',h1,h2⟩
def RVs(K:KK)(F H Hs:Hp):List TV→List V→List Addr→Prop
 | [],vs,fp=>vs=[]∧fp=[]
 | x :: xs,vs,fp=>∃ v r f g,vs=v :: r∧fp=f++g∧RVf K F H Hs x v f∧RVs K F H Hs xs r g∧(∀ a∈f,a ∉ g)∧∀ a∈f,Hs a=none∧H a ≠ none
theorem RVs.ext{Hs:Hp}(e:Ext F H F1 H1):∀ {xs:List TV} {vs:List V} {fp:List Addr},RVs K F H Hs xs vs fp→RVs K F1 H1 Hs xs vs fp
 | [],_,_,h=>h
 | x :: xs,vs,fp,h=>by
  obtain ⟨v,r,f,g,h1,h2,h3,h4,h5,h6⟩:=h
  exact ⟨v,r,f,g,h1,h2,h3.ext e,RVs.ext e h4,h5,fun a ha=>⟨(h6 a ha).1,fun z=>(h6 a ha).2 (e.hh.free z)⟩⟩
theorem RVs.reps{Hs:Hp}(hf:Same F H):∀ {xs:List TV} {vs:List V} {fp:List Addr},RVs K F H Hs xs vs fp→RepL K H (xs.map (·.2)) vs
 | [],_,_,h=>by unfold RVs at h; rw [h.1]; exact RepL.nil
 | x :: xs,vs,fp,h=>by
  obtain ⟨v,r,f,g,h1,h2,h3,h4,h5,h6⟩:=h
  subst h1
  exact RepL.cons (RV.rep hf ⟨f,h3⟩) (RVs.reps hf h4)
theorem RVs.put{Hs:Hp}:∀ {xs:List TV} {vs:List V} {fp:List Addr} {ps:List PV} {F:Hp},Ext F1 Hs F H→RVs K F H Hs xs vs fp→putVs xs = .ok ps→∃ F',Ext F1 Hs F' H∧Same F F'∧RepL K F' ps vs∧∀ a,F' a ≠ none→F a ≠ none ∨ a∈fp
 | [],vs,fp,ps,F,e,h,hp=>by
  cases hp
  unfold RVs at h
  rw [h.1]
  exact ⟨F,e,Same.refl _,RepL.nil,fun _ z=>.inl z⟩
 | x :: xs,vs,fp,ps,F,e,h,hp=>by
  obtain ⟨v,r,f,g,h1,h2,h3,h4,h5,h6⟩:=h
  subst h1 h2
  unfold putVs at hp
  cases q:putV x with
  | ok p =>
   rw [q,bind_ok] at hp
   cases q2:putVs xs with
   | ok qs =>
    rw [q2,bind_ok] at hp
    cases hp
    obtain ⟨Fa,e1,s1,r1,n1⟩:=h3.put e q
    have h4':RVs K Fa H Hs xs r g:=by
     have go:∀ {xs:List TV} {vs:List V} {g:List Addr},RVs K F H Hs xs vs g→(∀ a∈f,a ∉ g)→RVs K Fa H Hs xs vs g:=by
      intro xs
      induction xs with
      | nil=>intro vs g h _; exact h
      | cons y ys ih =>
       intro vs g h hd
       obtain ⟨v,r,f',g',h1,h2,h3',h4',h5',h6'⟩:=h
       subst h2
       refine ⟨v,r,f',g',h1,rfl,?_,ih h4' fun a ha hm=>hd a ha (List.mem_append_right _ hm),h5',h6'⟩
       obtain ⟨t,pp⟩:=y
       cases t with
       | fz=>exact Rep.mono s1 _ _ h3'
       | bw d=>obtain ⟨fp',z⟩:=h3'; exact ⟨fp',z.same s1 (Same.refl _)⟩
       | ow d =>
        obtain ⟨z1,z2,z3⟩:=h3'
        refine ⟨z1.same s1 (Same.refl _),z2,fun a ha=>⟨?_,(z3 a ha).2⟩⟩
        cases qa:Fa a with
        | none=>rfl
        | some o =>
         rcases n1 a (by rw [qa]; simp) with z | z
         ·exact (z (z3 a ha).1).elim
         ·exact (hd a z (List.mem_append_left _ ha)).elim
     exact go h4 h5
    obtain ⟨Fb,e2,s2,r2,n2⟩:=RVs.put e1 h4' q2
    refine ⟨Fb,e2,s1.trans s2,RepL.cons (Rep.mono s2 _ _ r1) r2,fun a z=>?_⟩
    rcases n2 a z with z | z
    ·rcases n1 a z with z | z
     ·exact .inl z
     ·exact .inr (List.mem_append_left _ z)
    ·exact .inr (List.mem_append_right _ z)
   | exc c=>rw [q2] at hp; cases hp
   | bad=>rw [q2] at hp; cases hp
  | exc c=>rw [q] at hp; cases hp
  | bad=>rw [q] at hp; cases hp
theorem RVs.news{Hs:Hp}:∀ {xs:List TV} {vs:List V} {fp:List Addr},RVs K F H Hs xs vs fp→∀ a∈fp,Hs a=none∧H a ≠ none
 | [],_,_,h,a,ha=>by unfold RVs at h; rw [h.2] at ha; simp at ha
 | x :: xs,vs,fp,h,a,ha=>by
  obtain ⟨v,r,f,g,h1,h2,h3,h4,h5,h6⟩:=h
  subst h2
  rcases List.mem_append.mp ha with ha | ha
  ·exact h6 a ha
  ·exact RVs.news h4 a ha
theorem RVs.start{Hs Hs':Hp}(e:Same Hs Hs'):∀ {xs:List TV} {vs:List V} {fp:List Addr},RVs K F H Hs' xs vs fp→RVs K F H Hs xs vs fp
 | [],_,_,h=>h
 | x :: xs,vs,fp,h=>by
  obtain ⟨v,r,f,g,h1,h2,h3,h4,h5,h6⟩:=h
  exact ⟨v,r,f,g,h1,h2,h3.start e,RVs.start e h4,h5,fun a ha=>⟨e.free (h6 a ha).1,(h6 a ha).2⟩⟩
theorem RV.norm{Hs:Hp}:∀ {x:TV} {v:V},RV K F H Hs x v→∃ fp,RVf K F H Hs x v fp∧∀ a∈fp,Hs a=none∧H a ≠ none
 | (.fz,p),v,⟨_,h⟩=>⟨[],h,fun _ z=>by simp at z⟩
 | (.bw d,p),v,⟨_,h⟩=>⟨[],h,fun _ z=>by simp at z⟩
 | (.ow d,p),v,⟨fp,h⟩=>⟨fp,h,fun a ha=>⟨(h.2.2 a ha).2,by obtain ⟨vs,z,_⟩:=h.1.there d a ha; rw [z]; simp⟩⟩
end
end Vl
end
section
set_option Elab.async false
set_option linter.all false
set_option maxRecDepth 100000
set_option maxHeartbeats 1000000
namespace Vl
open PySem L2 Vm PyProof.Rows
structure Cn where
 K:KK
 base:Heap
abbrev Cn.mg(C:Cn):Str→Option Value:=C.K.mg
abbrev Cn.P(C:Cn):Program:=C.K.P
abbrev Cn.w(C:Cn):World:=C.K.w
def kkX(X:Cx):KK:=⟨X.K,X.prog,X.w,X.mg⟩
def cnOf(X:Cx):Cn:=⟨kkX X,X.base⟩
def Cn.xc(C:Cn)(c:Nat):Value:=(C.mg (xName c)).getD .none
structure Sta (C:Cn) (cm:Bool) (k:Nat) (N:List Str) (sc:Scope) (X:Cx):Prop where
 cn:cnOf X=C
 n:X.N=N
 s:X.env.scope=sc
 nd:N.Nodup
 c:cm=true→X.calm=true
 r:cm=true→Room k X.A
 u:X.A.units+100 < cLine
structure Good (K:KK) (F0 H0:Hp) (Γ:En) (σ:L2.St) (F H:Hp):Prop where
 ext:Ext F0 H0 F H
 len:Γ.length=σ.length
 slots:∃ fp:Nat→List Addr,(∀ i x,Γ.get i=some x→∃ v,σ[i]? = some (some v)∧RVf K F H H0 x v (fp i))∧∀ i j a,i ≠ j→a∈fp i→a ∉ fp j
def NoBw(Γ:En):Prop:=∀ i d p,Γ.get i ≠ some (.bw d,p)
section
variable {K:KK} {F0 H0 F H F1 H1:Hp} {Γ:En} {σ:L2.St}
theorem Good.next(g:Good K F0 H0 Γ σ F H)(e:Ext F H F1 H1):Good K F0 H0 Γ σ F1 H1:=by
 refine ⟨g.ext.trans e,g.len,?_⟩
 obtain ⟨fp,h1,h2⟩:=g.slots
 refine ⟨fp,fun i x hx=>?_,h2⟩
 obtain ⟨v,h3,h4⟩:=h1 i x hx
 exact ⟨v,h3,h4.ext e⟩
theorem Good.here(g:Good K F0 H0 Γ σ F H):Ext F H F H:=Ext.refl g.ext.fh g.ext.tp
def EOk(C:Cn)(W:WX)(σ:L2.St)(F H:Hp)(Q:VK):Res TV→Prop
 | .ok x=>∀ v F' H',Ext F H F' H'→RV C.K F' H' H x v→Q v H'
 | .exc c=>∀ F' H',Ext F H F' H'→W (C.xc c) none σ H'
 | .bad=>False
def TOk(C:Cn)(W:WX)(σ:L2.St)(F H:Hp)(Q:Bool→Hp→Prop):Res Bool→Prop
 | .ok b=>∀ F' H',Ext F H F' H'→Q b H'
 | .exc c=>∀ F' H',Ext F H F' H'→W (C.xc c) none σ H'
 | .bad=>False
def AOk(C:Cn)(W:WX)(σ:L2.St)(F H:Hp)(Q:List V→Hp→Prop):Res (List TV)→Prop
 | .ok xs=>∀ vs fp F' H',Ext F H F' H'→RVs C.K F' H' H xs vs fp→Q vs H'
 | .exc c=>∀ F' H',Ext F H F' H'→W (C.xc c) none σ H'
 | .bad=>False
variable {C:Cn} {W:WX} {Q:VK}
theorem EOk.next{r:Res TV}(h:EOk C W σ F H Q r)(e:Ext F H F1 H1):EOk C W σ F1 H1 Q r:=by
 cases r with
 | ok x=>exact fun v F' H' e' rv=>h v F' H' (e.trans e') (rv.start e.hh)
 | exc c=>exact fun F' H' e'=>h F' H' (e.trans e')
 | bad=>exact h
theorem TOk.next{Q:Bool→Hp→Prop}{r:Res Bool}(h:TOk C W σ F H Q r)(e:Ext F H F1 H1):TOk C W σ F1 H1 Q r:=by
 cases r with
 | ok x=>exact fun F' H' e'=>h F' H' (e.trans e')
 | exc c=>exact fun F' H' e'=>h F' H' (e.trans e')
 | bad=>exact h
theorem EOk.bind{f:TV→Res TV}{Q1:VK}{r:Res TV}(h:EOk C W σ F H Q (r.bind f))
  (q:∀ x v F1 H1,r = .ok x→Ext F H F1 H1→RV C.K F1 H1 H x v→EOk C W σ F H Q (f x)→Q1 v H1):EOk C W σ F H Q1 r:=by
 cases r with
 | ok x=>exact fun v F' H' e rv=>q x v F' H' rfl e rv h
 | exc c=>exact h
 | bad=>exact h
theorem EOk.bindT{f:TV→Res Bool}{Q:Bool→Hp→Prop}{Q1:VK}{r:Res TV}(h:TOk C W σ F H Q (r.bind f))
  (q:∀ x v F1 H1,r = .ok x→Ext F H F1 H1→RV C.K F1 H1 H x v→TOk C W σ F H Q (f x)→Q1 v H1):EOk C W σ F H Q1 r:=by
 cases r with
 | ok x=>exact fun v F' H' e rv=>q x v F' H' rfl e rv h
 | exc c=>exact h
 | bad=>exact h
theorem TOk.bind{f:Bool→Res TV}{Q1:Bool→Hp→Prop}{r:Res Bool}(h:EOk C W σ F H Q (r.bind f))
  (q:∀ x F1 H1,r = .ok x→Ext F H F1 H1→EOk C W σ F H Q (f x)→Q1 x H1):TOk C W σ F H Q1 r:=by
 cases r with
 | ok x=>exact fun F' H' e=>q x F' H' rfl e h
 | exc c=>exact h
 | bad=>exact h
theorem TOk.bindT{f:Bool→Res Bool}{Q Q1:Bool→Hp→Prop}{r:Res Bool}(h:TOk C W σ F H Q (r.bind f))
  (q:∀ x F1 H1,r = .ok x→Ext F H F1 H1→TOk C W σ F H Q (f x)→Q1 x H1):TOk C W σ F H Q1 r:=by
 cases r with
 | ok x=>exact fun F' H' e=>q x F' H' rfl e h
 | exc c=>exact h
 | bad=>exact h
theorem AOk.bind{f:List TV→Res TV}{Q1:List V→Hp→Prop}{r:Res (List TV)}(h:EOk C W σ F H Q (r.bind f))
  (q:∀ xs vs fp F1 H1,r = .ok xs→Ext F H F1 H1→RVs C.K F1 H1 H xs vs fp→EOk C W σ F H Q (f xs)→Q1 vs H1):AOk C W σ F H Q1 r:=by
 cases r with
 | ok x=>exact fun v fp F' H' e rv=>q x v fp F' H' rfl e rv h
 | exc c=>exact h
 | bad=>exact h
end
section
variable (C:Cn) (cm:Bool) (k:Nat) (N:List Str) (sc:Scope)
def DE(e:Expr)(E:EX):Prop:=∃ tb:WX→TE,(∀ X,Sta C cm k N sc X→∀ W,Takes X W→PE X e (tb W)) ∧
 ∀ W σ Γ F0 H0 F H Q,Good C.K F0 H0 Γ σ F H→EOk C W σ F H Q (E Γ)→tb W σ H Q
def DT(e:Expr)(E:TX):Prop:=∃ tb:WX→TT,(∀ X,Sta C cm k N sc X→∀ W,Takes X W→PT X e (tb W)) ∧
 ∀ W σ Γ F0 H0 F H Q,Good C.K F0 H0 Γ σ F H→TOk C W σ F H Q (E Γ)→tb W σ H Q
def DW(e:Expr)(E:TX):Prop:=∃ tb:WX→TT,(∀ X,Sta C cm k N sc X→∀ W,Takes X W→PW X e (tb W)) ∧
 ∀ W σ Γ F0 H0 F H Q,Good C.K F0 H0 Γ σ F H→TOk C W σ F H Q (E Γ)→tb W σ H Q
def DA(es:List Expr)(E:EXs):Prop:=∃ tb:WX→TA,(∀ X,Sta C cm k N sc X→∀ W,Takes X W→PA X es (tb W)) ∧
 ∀ W σ Γ F0 H0 F H Q,Good C.K F0 H0 Γ σ F H→AOk C W σ F H Q (E Γ)→tb W σ H Q
end
section
variable {C:Cn} {cm:Bool} {k:Nat} {N:List Str} {sc:Scope} {a b c:Expr} {A B:EX} {pos:Pos}
theorem de_var (i:Nat) {x:Str} (hN:N[i]? = some x:=by rfl) (hv:Vis sc x:=by first | exact Or.inl rfl | exact Or.inr (Or.inl rfl) | exact Or.inr (Or.inr rfl)) (hd:(x == ("__debug__":Str))=false:=by decide)
  (hcd:(x == ("__classdict__":Str))=false:=by decide):DE C cm k N sc (.Name x pos) (eVar i):=by
 refine ⟨fun _=>tVar i,fun X S W _=>pe_var (by rw [S.n]; exact hN) (by rw [S.s]; exact hv) hd hcd,fun W σ Γ F0 H0 F H Q g h=>?_⟩
 obtain ⟨fp,h1,_⟩:=g.slots
 unfold eVar at h
 cases e:Γ.get i with
 | none=>rw [e] at h; exact h.elim
 | some x =>
  obtain ⟨t,p⟩:=x
  obtain ⟨v,h3,h4⟩:=h1 i _ e
  refine ⟨v,h3,?_⟩
  rw [e] at h
  cases t with
  | fz=>exact h v F H g.here ⟨[],h4⟩
  | bw d=>exact h v F H g.here ⟨[],h4⟩
  | ow d=>exact h v F H g.here ⟨[],_,h4.1⟩
theorem de_int{i:Int}{j}:DE C cm k N sc (.Constant (.int i) j pos) (eC (.int i)):=⟨fun _=>tC (.int i),fun _ _ _ _=>pe_int,fun W σ Γ F0 H0 F H Q g h=>h _ F H g.here (.fz rep_int)⟩
theorem de_bl{i:Bool}{j}:DE C cm k N sc (.Constant (.bool i) j pos) (eC (.bl i)):=⟨fun _=>tC (.bl i),fun _ _ _ _=>pe_bl,fun W σ Γ F0 H0 F H Q g h=>h _ F H g.here (.fz rep_bl)⟩
theorem de_non{j}:DE C cm k N sc (.Constant .none j pos) (eC .non):=⟨fun _=>tC .non,fun _ _ _ _=>pe_non,fun W σ Γ F0 H0 F H Q g h=>h _ F H g.here (.fz rep_non)⟩
theorem de_str{x:Str}{j}(l:List Nat)(hx:x=⟨l.toArray⟩:=by rfl)(hl:strG l=true:=by rfl):DE C cm k N sc (.Constant (.str x) j pos) (eC (.str l)):=⟨fun _=>tC (.str x),fun _ _ _ _=>pe_str,fun W σ Γ F0 H0 F H Q g h=>h _ F H g.here (.fz (by rw [hx]; exact rep_str hl))⟩
theorem EOk.fzv{W:WX}{σ:L2.St}{F H F1 H1:Hp}{Q:VK}{r:Res PV}(h:EOk C W σ F H Q (r.bind Vm.fzv))(e:Ext F H F1 H1):∀ p v,r = .ok p→Rep C.K F1 p v→Q v H1:=fun p v hr rp=>by
 subst hr
 exact h v F1 H1 e (.fz rp)
def Op2(C:Cn)(r:R2)(op:PV→PV→Res PV):Prop:=∀ p q v u H Q,Rep C.K H p v→Rep C.K H q u→match op p q with
 | .ok z=>((∀ F,Rep C.K F z (toV z))→Q (toV z) H)→r v u H Q
 | .exc _=>False
 | .bad=>True
theorem de_op2{op:Operator}{r:R2}{f:PV→PV→Res PV}(ho:∀ X,Sta C cm k N sc X→OpR X (binaryOp op) r)(ho2:Op2 C r f)(ha:DE C cm k N sc a A)(hb:DE C cm k N sc b B):DE C cm k N sc (.BinOp a op b pos) (eOp2 f A B):=by
 obtain ⟨ta,pa,qa⟩:=ha
 obtain ⟨tb,pb,qb⟩:=hb
 refine ⟨fun W=>tOp r (ta W) (tb W),fun X S W T=>pe_op (ho X S) (pa X S W T) (pb X S W T),fun W σ Γ F0 H0 F H Q g h=>?_⟩
 refine qa W σ Γ F0 H0 F H _ g (EOk.bind h fun x v F1 H1 ex e1 r1 h1=>?_)
 refine qb W σ Γ F0 H0 F1 H1 _ (g.next e1) (EOk.bind (h1.next e1) fun y u F2 H2 ey e2 r2 h2=>?_)
 have q:=ho2 x.2 y.2 v u H2 Q ((r1.ext e2).rep e2.fh) (r2.rep e2.fh)
 cases e:f x.2 y.2 with
 | ok z =>
  rw [e] at q h2
  exact q fun rz=>(h2.next e2).fzv (Ext.refl e2.fh e2.tp) z (toV z) rfl (rz _)
 | exc c=>rw [e] at q; exact q.elim
 | bad=>rw [e] at h2; exact h2.elim
end
end Vl
end
section
set_option Elab.async false
set_option linter.all false
set_option maxRecDepth 100000
set_option maxHeartbeats 1000000
namespace Vl
open PySem L2 Vm PyProof.Rows
mutual
def dat:PV→PyData
 | .non=>.none
 | .bl b=>.bool b
 | .int i=>.int i
 | .str l=>.str ⟨l.toArray⟩
 | .tup l=>.tuple (datL l)
 | .lst l=>.list (datL l)
 | .dic _ _=>.none
 | .exo _ _=>.none
def datL:List PV→List PyData
 | []=>[]
 | x :: xs=>dat x :: datL xs
end
theorem datL_map:∀ l:List PV,datL l=l.map dat
 | []=>rfl
 | x :: xs=>by rw [datL,datL_map xs]; rfl
section
variable {K:KK} {H:Hp}
mutual
theorem rep_dp:∀ (n:Nat) (p:PV) (v:V),shp n p=true→Rep K H p v→Dp K H v (dat p)∧(dat p).canLay0=true∧(dat p).depth≤n
 | n,.non,v,_,h=>by unfold Rep at h; subst h; exact ⟨.non,rfl,Nat.zero_le _⟩
 | n,.bl b,v,_,h=>by unfold Rep at h; subst h; exact ⟨.bl b,rfl,Nat.zero_le _⟩
 | n,.int i,v,_,h=>by unfold Rep at h; subst h; exact ⟨.int i,rfl,Nat.zero_le _⟩
 | n,.str l,v,_,h=>by
  unfold Rep at h
  obtain ⟨rfl,h2⟩:=h
  refine ⟨.str _,?_,Nat.zero_le _⟩
  unfold strG at h2
  simp only [Bool.and_eq_true] at h2
  show PyData.strOk ⟨l.toArray⟩=true
  unfold PyData.strOk
  simp only [List.all_toArray]
  exact h2.2
 | 0,.tup l,v,s,_=>by unfold shp at s; cases s
 | 0,.lst l,v,s,_=>by unfold shp at s; cases s
 | n+1,.tup l,v,s,h=>by
  unfold shp at s
  unfold Rep at h
  obtain ⟨a,vs,rfl,h2,h3⟩:=h
  obtain ⟨d1,d2,d3⟩:=rep_dpL n l vs s h3
  exact ⟨.tup ((TupAt.sq h2)) d1,by unfold dat PyData.canLay0; exact d2,by unfold dat PyData.depth; omega⟩
 | n+1,.lst l,v,s,h=>by
  unfold shp at s
  unfold Rep at h
  obtain ⟨a,vs,rfl,h2,h3⟩:=h
  obtain ⟨d1,d2,d3⟩:=rep_dpL n l vs s h3
  exact ⟨.lst h2 d1,by unfold dat PyData.canLay0; exact d2,by unfold dat PyData.depth; omega⟩
 | n,.dic _ _,v,s,_=>by unfold shp at s; cases s
 | n,.exo _ _,v,s,_=>by unfold shp at s; cases s
theorem rep_dpL:∀ (n:Nat) (l:List PV) (vs:List V),shpL n l=true→RepL K H l vs→DpAll K H vs (datL l)∧PyData.canLayAll0 (datL l)=true∧PyData.depthAll (datL l)≤n
 | n,[],vs,_,h=>by unfold RepL at h; subst h; exact ⟨.nil,rfl,Nat.zero_le _⟩
 | n,x :: xs,vs,s,h=>by
  unfold shpL at s
  rw [Bool.and_eq_true] at s
  unfold RepL at h
  obtain ⟨v,r,rfl,h2,h3⟩:=h
  obtain ⟨a1,a2,a3⟩:=rep_dp n x v s.1 h2
  obtain ⟨b1,b2,b3⟩:=rep_dpL n xs r s.2 h3
  refine ⟨.cons a1 b1,by unfold datL PyData.canLayAll0; rw [a2,b2]; rfl,by unfold datL PyData.depthAll; omega⟩
end
end
mutual
theorem eqv_dat:∀ (n m:Nat) (p q:PV),shp n p=true→shp m q=true→PyData.eqv (dat p) (dat q)=eqv p q
 | n,m,.non,q,_,h=>by cases q <;> first | rfl | (simp [shp] at h)
 | n,m,.bl b,q,_,h=>by cases q <;> first | rfl | (simp [shp] at h)
 | n,m,.int b,q,_,h=>by cases q <;> first | rfl | (simp [shp] at h)
 | n,m,.str b,q,_,h=>by
  cases q with
  | str c =>
   show ((⟨b.toArray⟩:Str) == ⟨c.toArray⟩)=(b == c)
   by_cases e:b=c
   ·subst e; simp
   ·have e2:(⟨b.toArray⟩:Str) ≠ ⟨c.toArray⟩:=fun z=>e (by injection z with z1; simpa using congrArg Array.toList z1)
    rw [beq_eq_false_iff_ne.mpr e,beq_eq_false_iff_ne.mpr e2]
  | dic _=>simp [shp] at h
  | exo _ _=>simp [shp] at h
  | _=>rfl
 | n,m,.tup l,q,s,h=>by
  cases n with
  | zero=>simp [shp] at s
  | succ n =>
   cases q with
   | tup k =>
    cases m with
    | zero=>simp [shp] at h
    | succ m =>
     unfold shp at s h
     show PyData.eqvAll (datL l) (datL k)=eqvL l k
     exact eqv_datL n m l k s h
   | dic _=>simp [shp] at h
   | exo _ _=>simp [shp] at h
   | _=>rfl
 | n,m,.lst l,q,s,h=>by
  cases n with
  | zero=>simp [shp] at s
  | succ n =>
   cases q with
   | lst k =>
    cases m with
    | zero=>simp [shp] at h
    | succ m =>
     unfold shp at s h
     show PyData.eqvAll (datL l) (datL k)=eqvL l k
     exact eqv_datL n m l k s h
   | dic _=>simp [shp] at h
   | exo _ _=>simp [shp] at h
   | _=>rfl
 | n,m,.dic _ _,q,s,_=>by simp [shp] at s
 | n,m,.exo _ _,q,s,_=>by simp [shp] at s
theorem eqv_datL:∀ (n m:Nat) (p q:List PV),shpL n p=true→shpL m q=true→PyData.eqvAll (datL p) (datL q)=eqvL p q
 | _,_,[],[],_,_=>rfl
 | _,_,[],_ :: _,_,_=>rfl
 | _,_,_ :: _,[],_,_=>rfl
 | n,m,x :: xs,y :: ys,s,h=>by
  unfold shpL at s h
  rw [Bool.and_eq_true] at s h
  show (PyData.eqv (dat x) (dat y) && PyData.eqvAll (datL xs) (datL ys))=(eqv x y && eqvL xs ys)
  rw [eqv_dat n m x y s.1 h.1,eqv_datL n m xs ys s.2 h.2]
end
theorem shaped_dat{K:KK}{H:Hp}{n:Nat}{p:PV}{v:V}(hn:n≤64)(s:shp n p=true)(h:Rep K H p v):SeqAt.shaped (dat p)=true:=by
 obtain ⟨_,h2,h3⟩:=rep_dp n p v s h
 unfold SeqAt.shaped
 rw [h2,decide_eq_true (by omega)]
 rfl
section
variable {C:Cn} {cm:Bool} {k:Nat} {N:List Str} {sc:Scope} {a b c:Expr} {A B:EX} {pos:Pos} {X:Cx}
theorem Sta.K(S:Sta C cm k N sc X):X.K=C.K:=by have:=S.cn; subst this; rfl
theorem Sta.KK(S:Sta C cm k N sc X):kkX X=C.K:=by have:=S.cn; subst this; rfl
theorem mul_fits'{i j:Int}(h:mulOk i j=true):IntMulOk i j:=by
 have h3:i.natAbs.log2+j.natAbs.log2 < 50000000:=of_decide_eq_true h
 have b:∀ x:Int,Builtin.Int.intBits x≤x.natAbs.log2+1:=fun x=>by
  unfold Builtin.Int.intBits
  split <;> omega
 have h1:=b i
 have h2:=b j
 have e:bitsLine=134217728:=by decide
 unfold IntMulOk
 intro z
 rw [Bool.and_eq_true] at z
 have z2:=z.2
 unfold Builtin.Int.intTooBig at z2
 have z3:=of_decide_eq_true z2
 rw [e] at z3
 omega
theorem op_mulV:OpR X (binaryOp .Mult) (rI (fun i j=>mulOk i j=true) fun i j=>.int (i * j)):=opI fun _ _ _ _ _ _ _ hc q=>mul_int q (mul_fits' hc)
theorem op2_int{g:Int→Int→Int}{Cd:Int→Int→Prop}{f:PV→PV→Res PV}(h1:∀ p q z,f p q = .ok z→∃ i j,p = .int i∧q = .int j∧Cd i j∧z = .int (g i j))(h2:∀ p q c,f p q ≠ .exc c):Op2 C (rI Cd fun i j=>.int (g i j)) f:=by
 intro p q v u H Q rp rq
 cases e:f p q with
 | ok z =>
  obtain ⟨i,j,rfl,rfl,hc,rfl⟩:=h1 p q z e
  unfold Rep at rp rq
  subst rp rq
  exact fun hq=>⟨i,j,rfl,rfl,hc,hq fun F=>rep_int⟩
 | exc c=>exact h2 p q c e
 | bad=>trivial
theorem op2_cmp{g:Int→Int→Bool}{f:PV→PV→Res PV}(h1:∀ p q z,f p q = .ok z→∃ i j,p = .int i∧q = .int j∧z = .bl (g i j))(h2:∀ p q c,f p q ≠ .exc c):Op2 C (rI0 fun i j=>.bl (g i j)) f:=by
 intro p q v u H Q rp rq
 cases e:f p q with
 | ok z =>
  obtain ⟨i,j,rfl,rfl,rfl⟩:=h1 p q z e
  unfold Rep at rp rq
  subst rp rq
  exact fun hq=>⟨i,j,rfl,rfl,hq fun F=>rep_bl⟩
 | exc c=>exact h2 p q c e
 | bad=>trivial
theorem op2_sub:Op2 C (rI (fun _ _=>True) fun i j=>.int (i - j)) opSub:=op2_int (g:=fun i j=>i - j) (by intro p q z h; cases p <;> cases q <;> simp_all [opSub]) (by intro p q c h; cases p <;> cases q <;> simp_all [opSub])
theorem op2_mod:Op2 C (rI (fun _ j=>0 < j) fun i j=>.int (i % j)) opMod:=op2_int (g:=fun i j=>i % j) (by intro p q z h; cases p <;> cases q <;> simp_all [opMod]; split at h <;> simp_all) (by intro p q c h; cases p <;> cases q <;> simp_all [opMod]; split at h <;> simp_all)
theorem op2_fdiv:Op2 C (rI CDivW fun i j=>.int (i / j)) opFdiv:=op2_int (g:=fun i j=>i / j) (by intro p q z h; cases p <;> cases q <;> simp_all [opFdiv]; split at h <;> simp_all [CDivW]) (by intro p q c h; cases p <;> cases q <;> simp_all [opFdiv]; split at h <;> simp_all)
theorem op2_lt:Op2 C (rI0 fun i j=>.bl (decide (i < j))) opLt:=op2_cmp (g:=fun i j=>decide (i < j)) (by intro p q z h; cases p <;> cases q <;> simp_all [opLt]) (by intro p q c h; cases p <;> cases q <;> simp_all [opLt])
theorem op2_le:Op2 C (rI0 fun i j=>.bl (decide (i≤j))) opLe:=op2_cmp (g:=fun i j=>decide (i≤j)) (by intro p q z h; cases p <;> cases q <;> simp_all [opLe]) (by intro p q c h; cases p <;> cases q <;> simp_all [opLe])
theorem op2_ge:Op2 C (rI0 fun i j=>.bl (decide (j≤i))) opGe:=op2_cmp (g:=fun i j=>decide (j≤i)) (by intro p q z h; cases p <;> cases q <;> simp_all [opGe]) (by intro p q c h; cases p <;> cases q <;> simp_all [opGe])
theorem op2_eq:Op2 C (rEqD C.K) opEq:=by
 intro p q v u H Q rp rq
 unfold opEq
 by_cases h:(shp 60 p && shp 60 q)=true
 ·rw [if_pos h]
  rw [Bool.and_eq_true] at h
  intro hq
  have d:=(rep_dp 60 p v h.1 rp).1
  have d':=(rep_dp 60 q u h.2 rq).1
  refine ⟨dat p,dat q,d,d',shaped_dat (by omega) h.1 rp,shaped_dat (by omega) h.2 rq,?_⟩
  rw [eqv_dat 60 60 p q h.1 h.2]
  exact hq fun F=>rep_bl
 ·rw [if_neg h]; trivial
theorem op2_ne:Op2 C (rNeD C.K) opNe:=by
 intro p q v u H Q rp rq
 unfold opNe
 by_cases h:(shp 60 p && shp 60 q)=true
 ·rw [if_pos h]
  rw [Bool.and_eq_true] at h
  intro hq
  have d:=(rep_dp 60 p v h.1 rp).1
  have d':=(rep_dp 60 q u h.2 rq).1
  refine ⟨dat p,dat q,d,d',shaped_dat (by omega) h.1 rp,shaped_dat (by omega) h.2 rq,?_⟩
  rw [eqv_dat 60 60 p q h.1 h.2]
  exact hq fun F=>rep_bl
 ·rw [if_neg h]; trivial
theorem de_sub(ha:DE C cm k N sc a A)(hb:DE C cm k N sc b B):DE C cm k N sc (.BinOp a .Sub b pos) (eOp2 opSub A B) :=
 de_op2 (r:=rI (fun _ _=>True) fun i j=>.int (i - j)) (fun X S=>opI fun _ _ _ _ _ _ _ _ q=>sub_int q) op2_sub ha hb
theorem de_mod(ha:DE C cm k N sc a A)(hb:DE C cm k N sc b B):DE C cm k N sc (.BinOp a .Mod b pos) (eOp2 opMod A B) :=
 de_op2 (r:=rI (fun _ j=>0 < j) fun i j=>.int (i % j)) (fun X S=>op_mod) op2_mod ha hb
theorem de_fdiv(ha:DE C cm k N sc a A)(hb:DE C cm k N sc b B):DE C cm k N sc (.BinOp a .FloorDiv b pos) (eOp2 opFdiv A B) :=
 de_op2 (r:=rI CDivW fun i j=>.int (i / j)) (fun X S=>op_fdivW) op2_fdiv ha hb
def DCm(C:Cn)(cm:Bool)(k:Nat)(N:List Str)(sc:Scope)(op:CmpOp)(a b:Expr)(E:EX):Prop:=∃ tb:WX→TE,(∀ X,Sta C cm k N sc X→∀ W,Takes X W→PC X op a b (tb W)) ∧
 ∀ W σ Γ F0 H0 F H Q,Good C.K F0 H0 Γ σ F H→EOk C W σ F H Q (E Γ)→tb W σ H Q
theorem pc_of{op:CmpOp}{r:R2}{ta tb:TE}(ho:OpR X (compareOp op) r)(ha:PE X a ta)(hb:PE X b tb):PC X op a b (tOp r ta tb) :=
 ⟨fun pins s σ H Q I h=>binT ha hb I h fun v u s2 x y H2 I2 rx ry q=>ho pins s2 σ H2 x y v u Q I2 rx ry q⟩
theorem dc_op{op:CmpOp}{r:R2}{f:PV→PV→Res PV}(ho:∀ X,Sta C cm k N sc X→OpR X (compareOp op) r)(ho2:Op2 C r f)(ha:DE C cm k N sc a A)(hb:DE C cm k N sc b B):DCm C cm k N sc op a b (eOp2 f A B):=by
 obtain ⟨ta,pa,qa⟩:=ha
 obtain ⟨tb,pb,qb⟩:=hb
 refine ⟨fun W=>tOp r (ta W) (tb W),fun X S W T=>pc_of (ho X S) (pa X S W T) (pb X S W T),fun W σ Γ F0 H0 F H Q g h=>?_⟩
 refine qa W σ Γ F0 H0 F H _ g (EOk.bind h fun x v F1 H1 ex e1 r1 h1=>?_)
 refine qb W σ Γ F0 H0 F1 H1 _ (g.next e1) (EOk.bind (h1.next e1) fun y u F2 H2 ey e2 r2 h2=>?_)
 have q:=ho2 x.2 y.2 v u H2 Q ((r1.ext e2).rep e2.fh) (r2.rep e2.fh)
 cases e:f x.2 y.2 with
 | ok z =>
  rw [e] at q h2
  exact q fun rz=>(h2.next e2).fzv (Ext.refl e2.fh e2.tp) z (toV z) rfl (rz _)
 | exc c=>rw [e] at q; exact q.elim
 | bad=>rw [e] at h2; exact h2.elim
theorem de_c{op:CmpOp}{E:EX}(h:DCm C cm k N sc op a b E)(hm:behindInMarks op b=false:=by rfl):DE C cm k N sc (.Compare a [op] [b] pos) E:=by
 obtain ⟨tb,pb,qb⟩:=h
 exact ⟨tb,fun X S W T=>pe_cmp (pb X S W T) hm,qb⟩
theorem dc_lt(ha:DE C cm k N sc a A)(hb:DE C cm k N sc b B):DCm C cm k N sc .Lt a b (eOp2 opLt A B):=dc_op (r:=rI0 fun i j=>.bl (decide (i < j))) (fun X S=>op_lt) op2_lt ha hb
theorem dc_le(ha:DE C cm k N sc a A)(hb:DE C cm k N sc b B):DCm C cm k N sc .LtE a b (eOp2 opLe A B):=dc_op (r:=rI0 fun i j=>.bl (decide (i≤j))) (fun X S=>op_le) op2_le ha hb
theorem dc_ge(ha:DE C cm k N sc a A)(hb:DE C cm k N sc b B):DCm C cm k N sc .GtE a b (eOp2 opGe A B):=dc_op (r:=rI0 fun i j=>.bl (decide (j≤i))) (fun X S=>op_ge) op2_ge ha hb
theorem dc_eq(ha:DE C cm k N sc a A)(hb:DE C cm k N sc b B):DCm C cm k N sc .Eq a b (eOp2 opEq A B):=dc_op (r:=rEqD C.K) (fun X S=>by rw [← S.K]; exact op_eqD (by have:=S.u; omega)) op2_eq ha hb
theorem dc_ne(ha:DE C cm k N sc a A)(hb:DE C cm k N sc b B):DCm C cm k N sc .NotEq a b (eOp2 opNe A B):=dc_op (r:=rNeD C.K) (fun X S=>by rw [← S.K]; exact op_neD (by have:=S.u; omega)) op2_ne ha hb
end
end Vl
end
section
set_option Elab.async false
set_option linter.all false
set_option maxRecDepth 100000
set_option maxHeartbeats 1000000
namespace Vl
open PySem L2 Vm PyProof.Rows
section
variable {C:Cn} {cm:Bool} {k:Nat} {N:List Str} {sc:Scope} {a b c:Expr} {A B:EX} {T U:TX} {pos:Pos} {X:Cx}
end
section
variable {C:Cn} {cm:Bool} {k:Nat} {N:List Str} {sc:Scope} {a b c:Expr} {A B:EX} {T U:TX} {pos:Pos} {X:Cx}
theorem de_un1{f:PV→Res PV}{e:Expr}(tm:TE→TE)(r:V→Hp→VK→Prop)(hp:∀ X,Sta C cm k N sc X→∀ t,PE X a t→PE X e (tm t))(ht:∀ t,tm t=fun σ H Q=>t σ H fun v H1=>r v H1 Q)
  (hr:∀ p v H Q,Rep C.K H p v→match f p with
   | .ok z=>((∀ F,Rep C.K F z (toV z))→Q (toV z) H)→r v H Q
   | .exc _=>False
   | .bad=>True)(ha:DE C cm k N sc a A):DE C cm k N sc e (eOp1 f A):=by
 obtain ⟨ta,pa,qa⟩:=ha
 refine ⟨fun W=>tm (ta W),fun X S W T=>hp X S _ (pa X S W T),fun W σ Γ F0 H0 F H Q g h=>?_⟩
 show tm (ta W) σ H Q
 rw [ht]
 refine qa W σ Γ F0 H0 F H _ g (EOk.bind h fun x v F1 H1 ex e1 r1 h1=>?_)
 have q:=hr x.2 v H1 Q (r1.rep e1.fh)
 cases e:f x.2 with
 | ok z =>
  rw [e] at h1 q
  exact q fun rz=>(h1.next e1).fzv (Ext.refl e1.fh e1.tp) z (toV z) rfl (rz _)
 | exc c=>rw [e] at q; exact q.elim
 | bad=>rw [e] at h1; exact h1.elim
theorem de_neg(ha:DE C cm k N sc a A):DE C cm k N sc (.UnaryOp .USub a pos) (eOp1 opNeg A) :=
 de_un1 (fun t=>tUn (rU fun i=>.int (-i)) t) (fun v H Q=>rU (fun i=>.int (-i)) v H Q) (fun X S t h=>pe_un un_neg h) (fun _=>rfl) (fun p v H Q h=>by
  cases p <;> simp only [opNeg] <;> (try trivial)
  unfold Rep at h
  subst h
  exact fun q=>⟨_,rfl,q fun F=>rep_int⟩) ha
theorem rep_isNon{K:KK}{H:Hp}{p:PV}{v:V}(h:Rep K H p v):decide (v = .non)=isNon p:=by
 cases p <;> unfold Rep at h
 case non=>subst h; rfl
 case bl=>subst h; rfl
 case int=>subst h; rfl
 case str=>obtain ⟨rfl,_⟩:=h; rfl
 case tup=>obtain ⟨_,_,rfl,_⟩:=h; rfl
 case lst=>obtain ⟨_,_,rfl,_⟩:=h; rfl
 case dic=>obtain ⟨_,_,_,rfl,_⟩:=h; rfl
 case exo c l =>
  cases c with
  | zero=>obtain ⟨_,_,_,_,rfl,_⟩:=h; rfl
  | succ c =>
   cases c with
   | zero=>obtain ⟨_,_,_,rfl,_⟩:=h; rfl
   | succ c=>obtain ⟨_,_,rfl,_⟩:=h; rfl
theorem dc_isN{j pos'}(ha:DE C cm k N sc a A):DCm C cm k N sc .Is a (.Constant .none j pos') (eOp1 opIsN A):=by
 obtain ⟨ta,pa,qa⟩:=ha
 refine ⟨fun W=>tIsN (ta W),fun X S W T=>pc_isN (pa X S W T),fun W σ Γ F0 H0 F H Q g h=>?_⟩
 refine qa W σ Γ F0 H0 F H _ g (EOk.bind h fun x v F1 H1 ex e1 r1 h1=>?_)
 show Q (.bl (decide (v = .non))) H1
 rw [rep_isNon (r1.rep e1.fh)]
 exact h1 _ F1 H1 e1 (.fz rep_bl)
theorem de_not(ha:DE C cm k N sc a A):DE C cm k N sc (.UnaryOp .Not a pos) (eOp1 opNot A) :=
 de_un1 (fun t=>tNotV t) (fun v H Q=>∃ c,v = .bl c∧Q (.bl (!c)) H) (fun X S t h=>pe_not h) (fun _=>rfl) (fun p v H Q h=>by
  cases p <;> simp only [opNot] <;> (try trivial)
  unfold Rep at h
  subst h
  exact fun q=>⟨_,rfl,q fun F=>rep_bl⟩) ha
theorem dt_val{e:Expr}(h:DE C cm k N sc e A)(he:∀ (env:PySem.Env) (whole:Sem Value),isTrue e env whole=(do let v ← whole; standAt e.pos; holding [v] (truthy v)):=by intro _ _; rfl):DT C cm k N sc e (xVal A):=by
 obtain ⟨ta,pa,qa⟩:=h
 refine ⟨fun W=>tB (ta W),fun X S W T=>pt_val (pa X S W T) (he _),fun W σ Γ F0 H0 F H Q g h=>?_⟩
 refine qa W σ Γ F0 H0 F H _ g (EOk.bindT h fun x v F1 H1 ex e1 r1 h1=>?_)
 have r:=r1.rep e1.fh
 obtain ⟨t,p⟩:=x
 cases p with
 | bl b=>unfold Rep at r; exact ⟨b,r,h1 F1 H1 e1⟩
 | _=>exact h1.elim
theorem dt_c{op:CmpOp}{E:EX}(h:DCm C cm k N sc op a b E)(hm:behindInMarks op b=false:=by rfl):DT C cm k N sc (.Compare a [op] [b] pos) (xVal E):=by
 obtain ⟨tb,pb,qb⟩:=h
 refine ⟨fun W=>tB (tb W),fun X S W T=>pt_cmp (pb X S W T) hm,fun W σ Γ F0 H0 F H Q g h=>?_⟩
 refine qb W σ Γ F0 H0 F H _ g (EOk.bindT h fun x v F1 H1 ex e1 r1 h1=>?_)
 have r:=r1.rep e1.fh
 obtain ⟨t,p⟩:=x
 cases p with
 | bl b=>unfold Rep at r; exact ⟨b,r,h1 F1 H1 e1⟩
 | _=>exact h1.elim
theorem dt_not(h:DT C cm k N sc a T):DT C cm k N sc (.UnaryOp .Not a pos) (xNot T):=by
 obtain ⟨ta,pa,qa⟩:=h
 refine ⟨fun W=>tNot (ta W),fun X S W T=>pt_not (pa X S W T),fun W σ Γ F0 H0 F H Q g h=>?_⟩
 exact qa W σ Γ F0 H0 F H _ g (TOk.bindT h fun b F1 H1 eb e1 h1=>h1 F1 H1 e1)
theorem dt_chain{e:Expr}(h:DW C cm k N sc e T):DT C cm k N sc e T:=by
 obtain ⟨ta,pa,qa⟩:=h
 exact ⟨ta,fun X S W T=>(pa X S W T).pt,qa⟩
theorem dw_and1(h:DT C cm k N sc a T):DW C cm k N sc (.BoolOp .And [a] pos) T:=by
 obtain ⟨ta,pa,qa⟩:=h
 exact ⟨ta,fun X S W T=>pw_and1 (pa X S W T),qa⟩
theorem dw_or1(h:DT C cm k N sc a T):DW C cm k N sc (.BoolOp .Or [a] pos) T:=by
 obtain ⟨ta,pa,qa⟩:=h
 exact ⟨ta,fun X S W T=>pw_or1 (pa X S W T),qa⟩
theorem dw_and{rest:List Expr}(ha:DT C cm k N sc a T)(hb:DW C cm k N sc (.BoolOp .And (b :: rest) pos) U):DW C cm k N sc (.BoolOp .And (a :: b :: rest) pos) (xAnd T U):=by
 obtain ⟨ta,pa,qa⟩:=ha
 obtain ⟨tb,pb,qb⟩:=hb
 refine ⟨fun W=>tAnd (ta W) (tb W),fun X S W T=>pw_and (pa X S W T) (pb X S W T),fun W σ Γ F0 H0 F H Q g h=>?_⟩
 refine qa W σ Γ F0 H0 F H _ g (TOk.bindT h fun c F1 H1 eb e1 h1=>?_)
 cases c with
 | true=>exact iteT (qb W σ Γ F0 H0 F1 H1 Q (g.next e1) (h1.next e1))
 | false=>exact iteF (h1 F1 H1 e1)
theorem dw_or{rest:List Expr}(ha:DT C cm k N sc a T)(hb:DW C cm k N sc (.BoolOp .Or (b :: rest) pos) U):DW C cm k N sc (.BoolOp .Or (a :: b :: rest) pos) (xOr T U):=by
 obtain ⟨ta,pa,qa⟩:=ha
 obtain ⟨tb,pb,qb⟩:=hb
 refine ⟨fun W=>tOr (ta W) (tb W),fun X S W T=>pw_or (pa X S W T) (pb X S W T),fun W σ Γ F0 H0 F H Q g h=>?_⟩
 refine qa W σ Γ F0 H0 F H _ g (TOk.bindT h fun c F1 H1 eb e1 h1=>?_)
 cases c with
 | true=>exact iteT (h1 F1 H1 e1)
 | false=>exact iteF (qb W σ Γ F0 H0 F1 H1 Q (g.next e1) (h1.next e1))
theorem de_one{op}(h:DE C cm k N sc a A):DE C cm k N sc (.BoolOp op [a] pos) A:=by
 obtain ⟨ta,pa,qa⟩:=h
 exact ⟨ta,fun X S W T=>pe_one (pa X S W T),qa⟩
theorem de_and{rest:List Expr}(ha:DE C cm k N sc a A)(hb:DE C cm k N sc (.BoolOp .And (b :: rest) pos) B):DE C cm k N sc (.BoolOp .And (a :: b :: rest) pos) (eAnd A B):=by
 obtain ⟨ta,pa,qa⟩:=ha
 obtain ⟨tb,pb,qb⟩:=hb
 refine ⟨fun W=>tAndV (ta W) (tb W),fun X S W T=>pe_and (pa X S W T) (pb X S W T),fun W σ Γ F0 H0 F H Q g h=>?_⟩
 refine qa W σ Γ F0 H0 F H _ g (EOk.bind h fun x v F1 H1 ex e1 r1 h1=>?_)
 have r:=r1.rep e1.fh
 obtain ⟨t,p⟩:=x
 cases p with
 | bl c =>
  unfold Rep at r
  refine ⟨c,r,?_⟩
  cases c with
  | true=>exact iteT (qb W σ Γ F0 H0 F1 H1 Q (g.next e1) (h1.next e1))
  | false=>exact iteF (h1 _ F1 H1 e1 (.fz rep_bl))
 | _=>exact h1.elim
end
end Vl
end
section
set_option Elab.async false
set_option linter.all false
set_option maxRecDepth 100000
set_option maxHeartbeats 1000000
namespace Vl
open PySem L2 Vm PyProof.Rows
section
variable {C:Cn} {cm:Bool} {k:Nat} {N:List Str} {sc:Scope} {a b c e:Expr} {es:List Expr} {A B:EX} {As:EXs} {T U:TX} {pos:Pos} {X:Cx}
theorem AOk.next{W:WX}{σ:L2.St}{F H F1 H1:Hp}{Q:List V→Hp→Prop}{r:Res (List TV)}(h:AOk C W σ F H Q r)(e:Ext F H F1 H1):AOk C W σ F1 H1 Q r:=by
 cases r with
 | ok x=>exact fun v fp F' H' e' rv=>h v fp F' H' (e.trans e') (rv.start e.hh)
 | exc c=>exact fun F' H' e'=>h F' H' (e.trans e')
 | bad=>exact h
theorem da_nil:DA C cm k N sc [] eNil:=⟨fun _=>tNil,fun _ _ _ _=>pa_nil,fun W σ Γ F0 H0 F H Q g h=>h [] [] F H g.here ⟨rfl,rfl⟩⟩
theorem da_cons(ha:DE C cm k N sc e A)(hs:DA C cm k N sc es As)(hst:∀ env:PySem.Env,starEach (e :: es) env=(false,eval e env) :: starEach es env:=by intro _; rfl):DA C cm k N sc (e :: es) (eCons A As):=by
 obtain ⟨ta,pa,qa⟩:=ha
 obtain ⟨tb,pb,qb⟩:=hs
 refine ⟨fun W=>tCons (ta W) (tb W),fun X S W T=>pa_cons (pa X S W T) (pb X S W T) (hst _),fun W σ Γ F0 H0 F H Q g h=>?_⟩
 refine qa W σ Γ F0 H0 F H _ g ?_
 unfold eCons at h
 cases ex:A Γ with
 | exc c=>rw [ex] at h; exact h
 | bad=>rw [ex] at h; exact h
 | ok x =>
  rw [ex,bind_ok] at h
  intro v F1 H1 e1 r1
  refine qb W σ Γ F0 H0 F1 H1 _ (g.next e1) ?_
  cases exs:As Γ with
  | exc c=>rw [exs] at h; exact fun F' H' e'=>h F' H' (e1.trans e')
  | bad=>rw [exs] at h; exact h
  | ok xs =>
   rw [exs,bind_ok] at h
   intro vs fp F2 H2 e2 r2
   obtain ⟨f,rf,hf⟩:=r1.norm
   refine h (v :: vs) (f++fp) F2 H2 (e1.trans e2) ⟨v,vs,f,fp,rfl,rfl,rf.ext e2,r2.start e1.hh,fun a ha hm=>(hf a ha).2 (r2.news a hm).1,fun a ha=>⟨(hf a ha).1,fun z=>(hf a ha).2 (e2.hh.free z)⟩⟩
theorem put_noexc:∀ {x:TV} {c:Nat},putV x ≠ .exc c
 | (.fz,_),_=>fun h=>by cases h
 | (.ow _,_),_=>fun h=>by cases h
 | (.bw 0,_),_=>fun h=>by cases h
 | (.bw (_+1),_),_=>fun h=>by cases h
theorem putVs_noexc:∀ {xs:List TV} {c:Nat},putVs xs = .exc c→False
 | [],_,h=>by cases h
 | x :: xs,c,h=>by
  unfold putVs at h
  cases q:putV x with
  | ok p =>
   rw [q,bind_ok] at h
   cases q2:putVs xs with
   | ok ps=>rw [q2] at h; cases h
   | exc c=>exact putVs_noexc q2
   | bad=>rw [q2] at h; cases h
  | exc c=>exact put_noexc q
  | bad=>rw [q] at h; cases h
theorem ownl_flat{K:KK}{F H:Hp}:∀ {ps:List PV} {vs:List V},RepL K F ps vs→OwnL (Own K F H 0) (ps.map fun _=>[]) ps vs
 | [],vs,h=>by unfold RepL at h; subst h; trivial
 | p :: ps,vs,h=>by
  unfold RepL at h
  obtain ⟨v,r,rfl,h2,h3⟩:=h
  exact ⟨⟨rfl,h2⟩,ownl_flat h3⟩
theorem flat_nil{α β:Type}:∀ l:List α,(l.map fun _=>([]:List β)).flatten=[]
 | []=>rfl
 | x :: xs=>by rw [List.map_cons,List.flatten_cons,flat_nil xs]; rfl
theorem own_new{K:KK}{F H:Hp}{p:Addr}{ps:List PV}{vs:List V}(h:RepL K F ps vs)(e:H p=some (.lst vs)):Own K F H 1 [p] (.lst ps) (.ref p) :=
 Own.mkL ⟨ps,p,vs,ps.map fun _=>[],rfl,rfl,e,by rw [flat_nil],ownl_flat h⟩
theorem rv_new{K:KK}{F H Hs:Hp}{p:Addr}{ps:List PV}{vs:List V}(h:RepL K F ps vs)(e:H p=some (.lst vs))(hf:F p=none)(hs:Hs p=none):RV K F H Hs (.ow 1,.lst ps) (.ref p) :=
 ⟨[p],own_new h e,by simp,fun a ha=>by simp at ha; subst ha; exact ⟨hf,hs⟩⟩
theorem szL_eq:16777216=sizeLine:=sizeLine_eq.symm
theorem de_tup(hs:DA C cm k N sc es As){x1}:DE C cm k N sc (.Tuple es x1 pos) (eTup As):=by
 obtain ⟨tb,pb,qb⟩:=hs
 refine ⟨fun W=>tTupD (tb W),fun X S W T=>pe_tupD (pb X S W T),fun W σ Γ F0 H0 F H Q g h=>?_⟩
 refine qb W σ Γ F0 H0 F H _ g (AOk.bind h fun xs vs fp F1 H1 ex e1 r1 h1=>?_)
 cases hp:putVs xs with
 | ok ps =>
  rw [hp,bind_ok] at h1
  obtain ⟨F2,e2,s2,r2,_⟩:=RVs.put e1 r1 hp
  by_cases hz:ps.length≤16777216
  ·rw [if_pos hz] at h1
   refine ⟨by rw [r2.len,← szL_eq]; exact hz,fun p o hp hd=>?_⟩
   refine h1 (.ref p) (upd F2 p (tq (o,vs))) _ (e2.trans (Ext.tup e2.fh e2.tp hp)) (.fz ?_)
   unfold Rep
   exact ⟨p,vs,rfl,.new hd,r2.mono (same_new (e2.fh.free hp)) _ _⟩
  ·rw [if_neg hz] at h1; exact h1.elim
 | exc c=>exact (putVs_noexc hp).elim
 | bad=>rw [hp] at h1; exact h1.elim
theorem de_lst(hs:DA C cm k N sc es As):DE C cm k N sc (.List es pos) (eLst As):=by
 obtain ⟨tb,pb,qb⟩:=hs
 refine ⟨fun W=>tLst (tb W),fun X S W T=>pe_lst (pb X S W T),fun W σ Γ F0 H0 F H Q g h=>?_⟩
 refine qb W σ Γ F0 H0 F H _ g (AOk.bind h fun xs vs fp F1 H1 ex e1 r1 h1=>?_)
 cases hp:putVs xs with
 | ok ps =>
  rw [hp,bind_ok] at h1
  obtain ⟨F2,e2,s2,r2,_⟩:=RVs.put e1 r1 hp
  by_cases hz:ps.length≤16777216
  ·rw [if_pos hz] at h1
   refine ⟨by rw [r2.len,← szL_eq]; exact hz,fun p hp=>?_⟩
   exact h1 (.ref p) F2 _ (e2.trans (Ext.lst e2.fh e2.tp hp)) (rv_new r2 upd_same (e2.fh.free hp) (e1.hh.free hp))
  ·rw [if_neg hz] at h1; exact h1.elim
 | exc c=>exact (putVs_noexc hp).elim
 | bad=>rw [hp] at h1; exact h1.elim
end
end Vl
end
section
set_option Elab.async false
set_option linter.all false
set_option maxRecDepth 100000
set_option maxHeartbeats 1000000
namespace Vl
open PySem L2 Vm PyProof.Rows
section
variable {C:Cn} {cm:Bool} {k:Nat} {N:List Str} {sc:Scope} {a b c e:Expr} {es:List Expr} {A B:EX} {As:EXs} {T U:TX} {pos:Pos} {X:Cx}
theorem plain_rep{K:KK}{H:Hp}:∀ {p:PV} {v:V},plainP p=true→Rep K H p v→v=toV p∧flatV v=true
 | .non,v,_,h=>by unfold Rep at h; subst h; exact ⟨rfl,rfl⟩
 | .bl _,v,_,h=>by unfold Rep at h; subst h; exact ⟨rfl,rfl⟩
 | .int _,v,_,h=>by unfold Rep at h; subst h; exact ⟨rfl,rfl⟩
 | .str _,v,_,h=>by unfold Rep at h; obtain ⟨rfl,_⟩:=h; exact ⟨rfl,rfl⟩
 | .tup _,v,h,_=>by simp [plainP] at h
 | .lst _,v,h,_=>by simp [plainP] at h
 | .dic _ _,v,h,_=>by simp [plainP] at h
 | .exo _ _,v,h,_=>by simp [plainP] at h
theorem eqV_toV:∀ {p q:PV},plainP p=true→plainP q=true→eqV (toV p) (toV q)=eqv p q:=by
 intro p q hp hq
 cases p <;> cases q <;> simp [plainP] at hp hq <;> (try rfl)
 rename_i b c
 show ((⟨b.toArray⟩:Str) == ⟨c.toArray⟩)=(b == c)
 by_cases e:b=c
 ·subst e; simp
 ·have e2:(⟨b.toArray⟩:Str) ≠ ⟨c.toArray⟩:=fun z=>e (by injection z with z1; simpa using congrArg Array.toList z1)
  rw [beq_eq_false_iff_ne.mpr e,beq_eq_false_iff_ne.mpr e2]
theorem inV_rep{K:KK}{H:Hp}{p:PV}{v:V}(hp:plainP p=true)(h:Rep K H p v):∀ {l:List PV} {vs:List V},l.all plainP=true→RepL K H l vs→vs.all flatV=true∧inV v vs=l.any fun z=>eqv z p
 | [],vs,_,g=>by unfold RepL at g; subst g; exact ⟨rfl,rfl⟩
 | q :: l,vs,hl,g=>by
  rw [List.all_cons,Bool.and_eq_true] at hl
  unfold RepL at g
  obtain ⟨u,r,rfl,g1,g2⟩:=g
  obtain ⟨i1,i2⟩:=inV_rep hp h hl.2 g2
  obtain ⟨e1,e2⟩:=plain_rep hl.1 g1
  obtain ⟨e3,_⟩:=plain_rep hp h
  refine ⟨by rw [List.all_cons,e2,i1]; rfl,?_⟩
  show (eqV u v || inV v r)=_
  rw [i2,e1,e3,eqV_toV hl.1 hp]
  rfl
def rInP(K:KK)(neg:Bool):R2:=fun x y H Q=>∃ p q b,Rep K H p x∧Rep K H q y∧inB p q = .ok b∧Q (.bl (if neg then !b else b)) H
theorem op_inP(hu:X.A.units+65 < cLine)(neg:Bool):OpR X (compareOp (if neg then .NotIn else .In)) (rInP (kkX X) neg):=by
 intro pins s σ H x y v u Q I rx ry h
 obtain ⟨p,q,b,rp,rq,hb,hq⟩:=h
 unfold inB at hb
 cases q with
 | str t =>
  cases p with
  | str l =>
   match l,hb,rp with
   | [c],hb,rp =>
    unfold Rep at rp rq
    obtain ⟨rfl,_⟩:=rp
    obtain ⟨rfl,_⟩:=rq
    cases hb
    have e:decide (c∈(⟨t.toArray⟩:Str).cps.toList)=t.elem c:=by simp
    cases neg with
    | false=>exact op_in_sign pins s σ H _ _ v u Q I rx ry ⟨c,_,rfl,rfl,by rw [e]; exact hq⟩
    | true=>exact op_notIn_sign pins s σ H _ _ v u Q I rx ry ⟨c,_,rfl,rfl,by rw [e]; exact hq⟩
   | [],hb,_=>cases hb
   | _ :: _ :: _,hb,_=>cases hb
  | _=>cases hb
 | lst l =>
  by_cases hs:(shp 50 p && shpL 50 l)=true
  ·simp only at hb
   rw [if_pos hs] at hb
   cases hb
   rw [Bool.and_eq_true] at hs
   have d1:=rep_dp 50 p x hs.1 rp
   have hl:shp 51 (.lst l)=true:=by unfold shp; exact hs.2
   have d2:=rep_dp 51 (.lst l) y hl rq
   have e:((datL l).any fun z=>PyData.eqv z (dat p))=l.any fun z=>eqv z p:=by
    rw [datL_map,List.any_map]
    have:∀ {l:List PV},shpL 50 l=true→(l.any ((fun z=>PyData.eqv z (dat p)) ∘ dat))=l.any fun z=>eqv z p:=by
     intro l
     induction l with
     | nil=>intro _; rfl
     | cons z l ih =>
      intro h
      unfold shpL at h
      rw [Bool.and_eq_true] at h
      rw [List.any_cons,List.any_cons,ih h.2]
      show (PyData.eqv (dat z) (dat p) || _)=_
      rw [eqv_dat 50 50 z p h.1 hs.1]
    exact this hs.2
   cases neg with
   | false=>exact op_inD hu pins s σ H _ _ v u Q I rx ry ⟨dat p,datL l,d1.1,d2.1,shaped_dat (by omega) hs.1 rp,shaped_dat (by omega) hl rq,by rw [e]; exact hq⟩
   | true=>exact op_notInD hu pins s σ H _ _ v u Q I rx ry ⟨dat p,datL l,d1.1,d2.1,shaped_dat (by omega) hs.1 rp,shaped_dat (by omega) hl rq,by rw [e]; exact hq⟩
  ·simp only at hb
   rw [if_neg hs] at hb; cases hb
 | tup l =>
  by_cases hs:(plainP p && l.all plainP)=true
  ·simp only at hb
   rw [if_pos hs] at hb
   cases hb
   rw [Bool.and_eq_true] at hs
   unfold Rep at rq
   obtain ⟨ad,vs,rfl,h2,h3⟩:=rq
   obtain ⟨i1,i2⟩:=inV_rep hs.1 rp hs.2 h3
   have i3:=(plain_rep hs.1 rp).2
   cases neg with
   | false=>exact op_in_seq pins s σ H _ _ v u Q I rx ry ⟨ad,vs,rfl,.inr ((TupAt.sq h2)),i3,i1,by rw [i2]; exact hq⟩
   | true=>exact op_notIn_seq pins s σ H _ _ v u Q I rx ry ⟨ad,vs,rfl,.inr ((TupAt.sq h2)),i3,i1,by rw [i2]; exact hq⟩
  ·simp only at hb
   rw [if_neg hs] at hb; cases hb
 | _=>cases hb
theorem inB_noexc{p q:PV}{c:Nat}:inB p q ≠ .exc c:=by
 intro h
 unfold inB at h
 split at h
 ·split at h <;> cases h
 ·split at h <;> cases h
 ·split at h <;> cases h
 ·cases h
theorem op2_in:Op2 C (rInP C.K false) opIn:=by
 intro p q v u H Q rp rq
 unfold opIn
 cases e:inB p q with
 | ok b=>exact fun hq=>⟨p,q,b,rp,rq,e,hq fun F=>rep_bl⟩
 | exc c=>exact (inB_noexc e).elim
 | bad=>trivial
theorem op2_notIn:Op2 C (rInP C.K true) opNotIn:=by
 intro p q v u H Q rp rq
 unfold opNotIn
 cases e:inB p q with
 | ok b=>exact fun hq=>⟨p,q,b,rp,rq,e,hq fun F=>rep_bl⟩
 | exc c=>exact (inB_noexc e).elim
 | bad=>trivial
theorem Sta.u'(S:Sta C cm k N sc X):X.A.units+65 < cLine:=by have:=S.u; omega
theorem dc_in(ha:DE C cm k N sc a A)(hb:DE C cm k N sc b B):DCm C cm k N sc .In a b (eOp2 opIn A B):=dc_op (r:=rInP C.K false) (fun X S=>by rw [← S.KK]; exact op_inP S.u' false) op2_in ha hb
theorem dc_notIn(ha:DE C cm k N sc a A)(hb:DE C cm k N sc b B):DCm C cm k N sc .NotIn a b (eOp2 opNotIn A B):=dc_op (r:=rInP C.K true) (fun X S=>by rw [← S.KK]; exact op_inP S.u' true) op2_notIn ha hb
theorem vAt_rep{K:KK}{H:Hp}{l:List PV}{vs:List V}{i:Int}{p:PV}(h:RepL K H l vs)(e:vAt l i=some p):∃ v,L2.atI vs i=some v∧Rep K H p v∧∃ j:Nat,vIxN l.length i=some j∧l[j]? = some p∧vs[j]? = some v:=by
 unfold vAt at e
 cases hj:vIxN l.length i with
 | none=>rw [hj] at e; cases e
 | some j =>
  rw [hj] at e
  obtain ⟨v,h1,h2⟩:=h.get (show l[j]? = some p from e)
  refine ⟨v,?_,h2,j,rfl,e,h1⟩
  show ((vIxN vs.length i).bind fun j=>vs[j]?)=some v
  rw [h.len,hj]
  exact h1
theorem own_part{K:KK}{F H:Hp}{d:Nat}:∀ {fs:List (List Addr)} {ps:List PV} {vs:List V} {j:Nat} {p:PV} {v:V},OwnL (Own K F H d) fs ps vs→ps[j]? = some p→vs[j]? = some v→∃ f,Own K F H d f p v
 | [],[],[],j,p,v,_,h,_=>by simp at h
 | f :: fs,q :: ps,u :: vs,0,p,v,h,h1,h2=>by
  simp at h1 h2
  subst h1 h2
  exact ⟨f,h.1⟩
 | f :: fs,q :: ps,u :: vs,j+1,p,v,h,h1,h2=>own_part (j:=j) h.2 (by simpa using h1) (by simpa using h2)
 | [],[],_ :: _,_,_,_,h,_,_=>h.elim
 | [],_ :: _,_,_,_,_,h,_,_=>h.elim
 | _ :: _,[],_,_,_,_,h,_,_=>h.elim
 | _ :: _,_ :: _,[],_,_,_,h,_,_=>h.elim
theorem ownl_rep{K:KK}{F H:Hp}(hf:Same F H){d:Nat}:∀ {fs:List (List Addr)} {ps:List PV} {vs:List V},OwnL (Own K F H d) fs ps vs→RepL K H ps vs
 | [],[],[],_=>RepL.nil
 | f :: fs,q :: ps,u :: vs,h=>RepL.cons (Own.rep hf d h.1) (ownl_rep hf h.2)
 | [],[],_ :: _,h=>h.elim
 | [],_ :: _,_,h=>h.elim
 | _ :: _,[],_,h=>h.elim
 | _ :: _,_ :: _,[],h=>h.elim
theorem rv_part{K:KK}{F H Hs:Hp}{t:Tg}{l:List PV}{v:V}(hf:Same F H)(h:RV K F H Hs (t,.lst l) v):∃ a vs,v = .ref a∧SqL K H a vs∧RepL K H l vs∧∀ (j:Nat) p u,l[j]? = some p→vs[j]? = some u→∀ Hs',RV K F H Hs' (dn t,p) u:=by
 have own:∀ {d:Nat} {fp:List Addr},Own K F H d fp (.lst l) v→∃ a vs,v = .ref a∧SqL K H a vs∧RepL K H l vs∧∀ (j:Nat) p u,l[j]? = some p→vs[j]? = some u→∀ Hs',RV K F H Hs' (dn (.bw d),p) u:=by
  intro d fp h
  cases d with
  | zero =>
   have r:=h.2
   unfold Rep at r
   obtain ⟨a,vs,rfl,h2,h3⟩:=r
   refine ⟨a,vs,rfl,hf.seq h2,h3.mono hf _ _,fun j p u e1 e2 Hs'=>.fz ?_⟩
   obtain ⟨u',e3,r⟩:=h3.get e1
   rw [e2] at e3; cases e3
   exact r
  | succ d =>
   have rr:=Own.rep hf (d+1) h
   obtain ⟨l',a,vs,fps,e0,rfl,h3,h4,h5⟩:=h.lst
   cases e0
   unfold Rep at rr
   obtain ⟨a',vs',e1,h6,h7⟩:=rr
   cases e1
   have ev:RepL K H l vs:=ownl_rep hf h5
   refine ⟨a,vs,rfl,SqL.of h3,ev,fun j p u e1 e2 Hs'=>?_⟩
   obtain ⟨f,o⟩:=own_part h5 e1 e2
   cases d with
   | zero=>exact .fz o.2
   | succ d=>exact ⟨[],f,o⟩
 cases t with
 | fz =>
  obtain ⟨_,r⟩:=h
  have r:Rep K F (.lst l) v:=r
  unfold Rep at r
  obtain ⟨a,vs,rfl,h2,h3⟩:=r
  refine ⟨a,vs,rfl,hf.seq h2,h3.mono hf _ _,fun j p u e1 e2 Hs'=>.fz ?_⟩
  obtain ⟨u',e3,r⟩:=h3.get e1
  rw [e2] at e3; cases e3
  exact r
 | bw d =>
  obtain ⟨_,fp,h⟩:=h
  exact own h
 | ow d =>
  obtain ⟨fp,h,_⟩:=h
  obtain ⟨a,vs,h1,h2,h3,h4⟩:=own h
  refine ⟨a,vs,h1,h2,h3,?_⟩
  cases d with
  | zero=>exact h4
  | succ d=>cases d with
   | zero=>exact h4
   | succ d=>exact h4
theorem de_idx(ha:DE C cm k N sc a A)(hb:DE C cm k N sc b B)(hs:PlainIx b:=by exact fun _ _=>rfl):DE C cm k N sc (.Subscript a b pos) (eIdx A B):=by
 obtain ⟨ta,pa,qa⟩:=ha
 obtain ⟨tb,pb,qb⟩:=hb
 refine ⟨fun W=>tOp (rIx C.K) (ta W) (tb W),fun X S W T=>by rw [← S.K]; exact pe_ix ix_seq (pa X S W T) (pb X S W T) hs,fun W σ Γ F0 H0 F H Q g h=>?_⟩
 refine qa W σ Γ F0 H0 F H _ g (EOk.bind h fun x v F1 H1 ex e1 r1 h1=>?_)
 refine qb W σ Γ F0 H0 F1 H1 _ (g.next e1) (EOk.bind (h1.next e1) fun y u F2 H2 ey e2 r2 h2=>?_)
 have h3:=h2.next e2
 have ry:=r2.rep e2.fh
 have rx:=r1.ext e2
 obtain ⟨t,p⟩:=x
 obtain ⟨t',q⟩:=y
 have fin:Ext F2 H2 F2 H2:=Ext.refl e2.fh e2.tp
 cases q with
 | int i =>
  unfold Rep at ry
  subst ry
  cases p with
  | lst l =>
   obtain ⟨ad,vs,rfl,s2,r3,part⟩:=rv_part e2.fh rx
   show rIx C.K (.ref ad) (.int i) H2 Q
   cases ei:vAt l i with
   | none =>
    have:EOk C W σ F2 H2 Q (match vAt l i with | some x=>.ok (dn t,x) | none=>.bad):=h3
    rw [ei] at this; exact this.elim
   | some z =>
    have h4:EOk C W σ F2 H2 Q (match vAt l i with | some x=>.ok (dn t,x) | none=>.bad):=h3
    rw [ei] at h4
    obtain ⟨w,e4,r4,j,e5,e6,e7⟩:=vAt_rep r3 ei
    exact .inl ⟨ad,vs,i,w,rfl,rfl,s2,e4,h4 w F2 H2 fin (part j z w e6 e7 _)⟩
  | tup l =>
   have rr:=rx.rep e2.fh
   have rF:Rep C.K F2 (.tup l) v:=by
    cases t with
    | fz=>obtain ⟨_,z⟩:=rx; exact z
    | bw d=>obtain ⟨_,fp,z⟩:=rx; cases d with
     | zero=>exact z.2
     | succ d=>exact (z.unbox rfl).2
    | ow d=>obtain ⟨fp,z,_⟩:=rx; cases d with
     | zero=>exact z.2
     | succ d=>exact (z.unbox rfl).2
   unfold Rep at rF
   obtain ⟨ad,vs,rfl,s2,r3⟩:=rF
   cases ei:vAt l i with
   | none =>
    have:EOk C W σ F2 H2 Q (match vAt l i with | some x=>.ok (.fz,x) | none=>.bad):=h3
    rw [ei] at this; exact this.elim
   | some z =>
    have h4:EOk C W σ F2 H2 Q (match vAt l i with | some x=>.ok (.fz,x) | none=>.bad):=h3
    rw [ei] at h4
    obtain ⟨w,e4,r4,_⟩:=vAt_rep r3 ei
    exact .inr (.inl ⟨ad,vs,i,w,rfl,rfl,(TupAt.sq (TupAt.mono e2.fh s2)),e4,h4 w F2 H2 fin (.fz r4)⟩)
  | str l =>
   have rr:=rx.rep e2.fh
   unfold Rep at rr
   obtain ⟨rfl,hg⟩:=rr
   cases ei:vAt l i with
   | none =>
    have:EOk C W σ F2 H2 Q (match vAt l i with | some x=>.ok (.fz,.str [x]) | none=>.bad):=h3
    rw [ei] at this; exact this.elim
   | some z =>
    have h4:EOk C W σ F2 H2 Q (match vAt l i with | some x=>.ok (.fz,.str [x]) | none=>.bad):=h3
    rw [ei] at h4
    unfold strG at hg
    rw [Bool.and_eq_true] at hg
    have hz:l.length≤16777216:=of_decide_eq_true hg.1
    have hm:z∈l:=by
     unfold vAt at ei
     cases hj:vIxN l.length i with
     | none=>rw [hj] at ei; cases ei
     | some j=>rw [hj] at ei; exact List.mem_of_getElem? (show l[j]? = some z from ei)
    have hz2:=List.all_eq_true.mp hg.2 z hm
    refine .inr (.inr ⟨⟨l.toArray⟩,i,z,rfl,rfl,by rw [← szL_eq]; simpa [Str.length] using hz,ei,h4 _ F2 H2 fin (.fz ?_)⟩)
    refine rep_str ?_
    show (decide (1≤16777216) && (decide (z < 1114112) && true))=true
    rw [hz2]
    rfl
  | _=>exact h3.elim
 | _=>cases p <;> exact h3.elim
end
end Vl
end
section
set_option Elab.async false
set_option linter.all false
set_option maxRecDepth 100000
set_option maxHeartbeats 1000000
namespace Vl
open PySem L2 Vm PyProof.Rows
section
variable {C:Cn} {cm:Bool} {k:Nat} {N:List Str} {sc:Scope} {a b c e:Expr} {es:List Expr} {A B:EX} {As:EXs} {T U:TX} {pos:Pos} {X:Cx}
theorem rv_flat{K:KK}{F H Hs:Hp}{t:Tg}{l:List PV}{v:V}(hf:Same F H)(h:RV K F H Hs (t,.lst l) v)(f1:flat1 t=true):∃ a vs,v = .ref a∧SqL K H a vs∧RepL K F l vs:=by
 have flat:∀ {fs:List (List Addr)} {ps:List PV} {vs:List V},OwnL (Own K F H 0) fs ps vs→RepL K F ps vs:=by
  intro fs
  induction fs with
  | nil=>intro ps vs h; cases ps with
   | nil=>cases vs with
    | nil=>exact RepL.nil
    | cons v vs=>exact h.elim
   | cons p ps=>exact h.elim
  | cons f fs ih=>intro ps vs h; cases ps with
   | nil=>exact h.elim
   | cons p ps=>cases vs with
    | nil=>exact h.elim
    | cons v vs=>exact RepL.cons h.1.2 (ih h.2)
 have zero:∀ {fp:List Addr},Own K F H 0 fp (.lst l) v→∃ a vs,v = .ref a∧SqL K H a vs∧RepL K F l vs:=fun z=>by
  have r:=z.2
  unfold Rep at r
  obtain ⟨a,vs,rfl,h2,h3⟩:=r
  exact ⟨a,vs,rfl,hf.seq h2,h3⟩
 have one:∀ {fp:List Addr},Own K F H 1 fp (.lst l) v→∃ a vs,v = .ref a∧SqL K H a vs∧RepL K F l vs:=fun z=>by
  obtain ⟨l',a,vs,fps,e0,rfl,h3,h4,h5⟩:=z.lst
  cases e0
  exact ⟨a,vs,rfl,SqL.of h3,flat h5⟩
 cases t with
 | fz =>
  obtain ⟨_,r⟩:=h
  exact zero ⟨rfl,r⟩
 | bw d =>
  obtain ⟨_,fp,h⟩:=h
  match d,f1,h with
  | 0,_,h=>exact zero h
  | 1,_,h=>exact one h
  | d+2,f1,_=>cases f1
 | ow d =>
  obtain ⟨fp,h,_⟩:=h
  match d,f1,h with
  | 0,_,h=>exact zero h
  | 1,_,h=>exact one h
  | d+2,f1,_=>cases f1
theorem rv_tup{K:KK}{F H Hs:Hp}{t:Tg}{l:List PV}{v:V}(h:RV K F H Hs (t,.tup l) v):∃ a vs,v = .ref a∧TupAt F a vs∧RepL K F l vs:=by
 have rF:Rep K F (.tup l) v:=by
  cases t with
  | fz=>obtain ⟨_,z⟩:=h; exact z
  | bw d=>obtain ⟨_,fp,z⟩:=h; cases d with
   | zero=>exact z.2
   | succ d=>exact (z.unbox rfl).2
  | ow d=>obtain ⟨fp,z,_⟩:=h; cases d with
   | zero=>exact z.2
   | succ d=>exact (z.unbox rfl).2
 unfold Rep at rF
 exact rF
theorem vSix_eq(n d:Nat)(o:Option Int):HT.sIx n d o=vSix n d o:=by cases o <;> rfl
theorem cutV_rep{K:KK}{F:Hp}{l:List PV}{vs:List V}(h:RepL K F l vs)(lo hi:Option Int):RepL K F (cutL l lo hi) (cutV vs lo hi):=by
 unfold cutL cutV
 rw [h.len,vSix_eq,vSix_eq]
 exact (h.drop _).take _
def DO(C:Cn)(cm:Bool)(k:Nat)(N:List Str)(sc:Scope)(e:Option Expr)(E:OX):Prop:=∃ tb:WX→TO,(∀ X,Sta C cm k N sc X→∀ W,Takes X W→PO X e (tb W)) ∧
 ∀ W σ Γ F0 H0 F H (Q:Option Int→Hp→Prop),Good C.K F0 H0 Γ σ F H→(match E Γ with
  | .ok o=>∀ F' H',Ext F H F' H'→Q o H'
  | .exc c=>∀ F' H',Ext F H F' H'→W (C.xc c) none σ H'
  | .bad=>False)→tb W σ H Q
theorem do_none:DO C cm k N sc none oNone:=⟨fun _=>tNoPart,fun _ _ _ _=>po_none,fun W σ Γ F0 H0 F H Q g h=>h F H g.here⟩
theorem do_some(ha:DE C cm k N sc a A):DO C cm k N sc (some a) (oSome A):=by
 obtain ⟨ta,pa,qa⟩:=ha
 refine ⟨fun W=>tPart (ta W),fun X S W T=>po_some (pa X S W T),fun W σ Γ F0 H0 F H Q g h=>?_⟩
 refine qa W σ Γ F0 H0 F H _ g ?_
 unfold oSome at h
 cases e:A Γ with
 | exc c=>rw [e] at h; exact h
 | bad=>rw [e] at h; exact h
 | ok x =>
  rw [e,bind_ok] at h
  intro v F1 H1 e1 r1
  have r:=r1.rep e1.fh
  obtain ⟨t,p⟩:=x
  cases p with
  | int i=>unfold Rep at r; exact ⟨i,r,h F1 H1 e1⟩
  | _=>exact h.elim
theorem strG_cut{l:List Nat}(h:strG l=true)(lo hi:Option Int):strG (cutL l lo hi)=true:=by
 unfold strG at h ⊢
 rw [Bool.and_eq_true] at h ⊢
 have h1:l.length≤16777216:=of_decide_eq_true h.1
 refine ⟨decide_eq_true ?_,List.all_eq_true.mpr fun x hx=>List.all_eq_true.mp h.2 x ?_⟩
 ·unfold cutL
  rw [List.length_take,List.length_drop]
  omega
 ·unfold cutL at hx
  exact List.mem_of_mem_drop (List.mem_of_mem_take hx)
theorem de_slice{lo hi:Option Expr}{Lo Hi:OX}{p2:Pos}(ha:DE C cm k N sc a A)(hl:DO C cm k N sc lo Lo)(hh:DO C cm k N sc hi Hi):DE C cm k N sc (.Subscript a (.Slice lo hi none p2) pos) (eSlice A Lo Hi):=by
 obtain ⟨ta,pa,qa⟩:=ha
 obtain ⟨tl,pl,ql⟩:=hl
 obtain ⟨th,ph,qh⟩:=hh
 refine ⟨fun W=>tSl (fun x lo hi H Q=>rSlL C.K x lo hi H Q ∨ rSlD C.K x lo hi H Q ∨ rSlS x lo hi H Q) (ta W) (tl W) (th W),fun X S W T=>by rw [← S.K]; exact pe_slice (sl_list.or (sl_tupD.or sl_str)) (pa X S W T) (pl X S W T) (ph X S W T),fun W σ Γ F0 H0 F H Q g h=>?_⟩
 unfold eSlice at h
 refine qa W σ Γ F0 H0 F H _ g (EOk.bind h fun x v F1 H1 ex e1 r1 h1=>?_)
 have h1:=h1.next e1
 refine ql W σ Γ F0 H0 F1 H1 _ (g.next e1) ?_
 cases el:Lo Γ with
 | exc c=>rw [el] at h1; exact h1
 | bad=>rw [el] at h1; exact h1
 | ok ol =>
  rw [el,bind_ok] at h1
  intro F2 H2 e2
  have h2:=h1.next e2
  refine qh W σ Γ F0 H0 F2 H2 _ ((g.next e1).next e2) ?_
  cases eh:Hi Γ with
  | exc c=>rw [eh] at h2; exact h2
  | bad=>rw [eh] at h2; exact h2
  | ok oh =>
   rw [eh,bind_ok] at h2
   intro F3 H3 e3
   have h3:=h2.next e3
   have rx:=(r1.ext e2).ext e3
   obtain ⟨t,p⟩:=x
   have fin:Ext F3 H3 F3 H3:=Ext.refl e3.fh e3.tp
   cases p with
   | lst l =>
    by_cases hf:flat1 t=true
    ·have h4:EOk C W σ F3 H3 Q (if flat1 t then .ok (.ow 1,.lst (cutL l ol oh)) else .bad):=h3
     rw [if_pos hf] at h4
     obtain ⟨ad,vs,rfl,s2,r3⟩:=rv_flat e3.fh rx hf
     refine .inl ⟨ad,vs,rfl,s2,fun p hp=>?_⟩
     exact h4 _ F3 _ (Ext.lst e3.fh e3.tp hp) (rv_new (cutV_rep r3 ol oh) upd_same (e3.fh.free hp) hp)
    ·have h4:EOk C W σ F3 H3 Q (if flat1 t then .ok (.ow 1,.lst (cutL l ol oh)) else .bad):=h3
     rw [if_neg hf] at h4
     exact h4.elim
   | tup l =>
    obtain ⟨ad,vs,rfl,s2,r3⟩:=rv_tup rx
    have h4:EOk C W σ F3 H3 Q (.ok (.fz,.tup (cutL l ol oh))):=h3
    refine .inr (.inl ⟨ad,vs,rfl,(TupAt.sq (TupAt.mono e3.fh s2)),fun hw=>?_,fun _ p o hp hd=>?_⟩)
    ·refine h4 _ F3 H3 fin (.fz ?_)
     have:cutL l ol oh=l:=by
      unfold cutL
      rw [r3.len,vSix_eq,vSix_eq] at hw
      rw [hw.1,hw.2,List.drop_zero,Nat.sub_zero,List.take_length]
     rw [this]
     unfold Rep
     exact ⟨ad,vs,rfl,s2,r3⟩
    ·refine h4 _ (upd F3 p (tq (o,cutV vs ol oh))) _ (Ext.tup e3.fh e3.tp hp) (.fz ?_)
     unfold Rep
     exact ⟨p,_,rfl,.new hd,(cutV_rep r3 ol oh).mono (same_new (e3.fh.free hp)) _ _⟩
   | str l =>
    have rr:=rx.rep e3.fh
    unfold Rep at rr
    obtain ⟨rfl,hg⟩:=rr
    have h4:EOk C W σ F3 H3 Q (.ok (.fz,.str (cutL l ol oh))):=h3
    refine .inr (.inr ⟨_,rfl,?_,?_⟩)
    ·unfold strG at hg
     rw [Bool.and_eq_true] at hg
     have hz:l.length≤16777216:=of_decide_eq_true hg.1
     rw [← szL_eq]; simpa [Str.length] using hz
    ·have e5:cutS ⟨l.toArray⟩ ol oh=⟨(cutL l ol oh).toArray⟩:=by
      unfold cutS cutL
      simp only [Str.length,List.size_toArray,vSix_eq]
     rw [e5]
     exact h4 _ F3 H3 fin (.fz (rep_str (strG_cut hg ol oh)))
   | _=>exact h3.elim
def rCatL(K:PySem.W.Frag):R2:=fun x y H Q=>∃ l b xs zs,x = .ref l∧y = .ref b∧SqL K H l xs∧SqL K H b zs∧xs.length+zs.length≤sizeLine∧∀ p,H p=none→Q (.ref p) (upd H p (.lst (xs++zs)))
theorem op_catL:OpR X (binaryOp .Add) (rCatL X.K):=by
 intro pins s σ H x y v u Q I rx ry h
 obtain ⟨l,b,xs,zs,rfl,rfl,hH,hB,hz,q⟩:=h
 cases rx
 cases ry
 obtain ⟨its,r,⟨⟨cls,dd,data,sl⟩,n,ho,hc,hd1,hd⟩,hl⟩:=I.list hH
 obtain ⟨its2,r2,⟨⟨cls2,dd2,data2,sl2⟩,n2,ho2,hc2,hd12,hd2⟩,hl2⟩:=I.list hB
 simp only at hc hd hc2 hd2
 subst hc hd hc2 hd2
 have e1:=r.length
 have e2:=r2.length
 have e:its.toArray++its2.toArray=(its++its2).toArray:=by simp
 refine concat_meets ⟨_,ho,rfl⟩ ⟨_,ho2,rfl⟩ noFill_list_add seq_list_add PySem.F.slot_list_add PySem.F.entry_list_add (PySem.F.args_list_add_2 _ _) (list_addW l b its.toArray its2.toArray n n2 dd dd2 sl sl2 (by simpa using (by omega:its.length+its2.length≤sizeLine))) ⟨ho,ho2,?_⟩
 rw [e]
 exact ⟨.ref _,_,I.lnew (t':=s.toks) (r.append r2) (by rw [List.length_append]; omega),rfl,q _ I.fresh⟩
def rAddV(K:PySem.W.Frag):R2:=fun x y H Q=>rCatL K x y H Q ∨ rCatD K x y H Q ∨ (fun x y H Q=>∃ i j,x = .str i∧y = .str j∧i.length+j.length≤sizeLine∧Q (.str (i++j)) H) x y H Q ∨ rI0 (fun i j=>.int (i+j)) x y H Q
theorem op_addV:OpR X (binaryOp .Add) (rAddV X.K):=op_catL.or (op_catD.or (op_add_str.or op_add))
theorem strG_app{a b:List Nat}(h:strG a=true)(g:strG b=true)(hz:a.length+b.length≤16777216):strG (a++b)=true:=by
 unfold strG at h g ⊢
 rw [Bool.and_eq_true] at h g ⊢
 refine ⟨decide_eq_true (by rw [List.length_append]; exact hz),?_⟩
 rw [List.all_append,h.2,g.2]
 rfl
theorem de_add(ha:DE C cm k N sc a A)(hb:DE C cm k N sc b B):DE C cm k N sc (.BinOp a .Add b pos) (eAdd A B):=by
 obtain ⟨ta,pa,qa⟩:=ha
 obtain ⟨tb,pb,qb⟩:=hb
 refine ⟨fun W=>tOp (rAddV C.K) (ta W) (tb W),fun X S W T=>by rw [← S.K]; exact pe_op op_addV (pa X S W T) (pb X S W T),fun W σ Γ F0 H0 F H Q g h=>?_⟩
 refine qa W σ Γ F0 H0 F H _ g (EOk.bind h fun x v F1 H1 ex e1 r1 h1=>?_)
 refine qb W σ Γ F0 H0 F1 H1 _ (g.next e1) (EOk.bind (h1.next e1) fun y u F2 H2 ey e2 r2 h2=>?_)
 have h3:=h2.next e2
 have rx:=r1.ext e2
 have ex':=rx.rep e2.fh
 have ey':=r2.rep e2.fh
 obtain ⟨t,p⟩:=x
 obtain ⟨t',q⟩:=y
 have fin:Ext F2 H2 F2 H2:=Ext.refl e2.fh e2.tp
 cases p with
 | lst l =>
  cases q with
  | lst m =>
   have h4:EOk C W σ F2 H2 Q (if flat1 t && flat1 t' && decide (l.length+m.length≤16777216) then .ok (.ow 1,.lst (l++m)) else .bad):=h3
   by_cases hf:(flat1 t && flat1 t' && decide (l.length+m.length≤16777216))=true
   ·rw [if_pos hf] at h4
    rw [Bool.and_eq_true,Bool.and_eq_true] at hf
    have hz:l.length+m.length≤16777216:=of_decide_eq_true hf.2
    obtain ⟨ad,vs,rfl,s2,r3⟩:=rv_flat e2.fh rx hf.1.1
    obtain ⟨bd,us,rfl,s4,r5⟩:=rv_flat e2.fh r2 hf.1.2
    refine .inl ⟨ad,bd,vs,us,rfl,rfl,s2,s4,by rw [r3.len,r5.len,← szL_eq]; exact hz,fun p hp=>?_⟩
    exact h4 _ F2 _ (Ext.lst e2.fh e2.tp hp) (rv_new (r3.append r5) upd_same (e2.fh.free hp) hp)
   ·rw [if_neg hf] at h4; exact h4.elim
  | _=>exact h3.elim
 | tup l =>
  cases q with
  | tup m =>
   have h4:EOk C W σ F2 H2 Q (if l.length+m.length≤16777216 then .ok (.fz,.tup (l++m)) else .bad):=h3
   by_cases hz:l.length+m.length≤16777216
   ·rw [if_pos hz] at h4
    obtain ⟨ad,vs,rfl,s2,r3⟩:=rv_tup rx
    obtain ⟨bd,us,rfl,s4,r5⟩:=rv_tup r2
    refine .inr (.inl ⟨ad,bd,vs,us,rfl,rfl,(TupAt.sq (TupAt.mono e2.fh s2)),(TupAt.sq (TupAt.mono e2.fh s4)),by rw [r3.len,r5.len,← szL_eq]; exact hz,fun z=>?_,fun _ z=>?_,fun _ _ p o hp hd=>?_⟩)
    ·subst z
     have hl:l=[]:=List.eq_nil_of_length_eq_zero (by have:=r3.len; simpa using this.symm)
     subst hl
     refine h4 _ F2 H2 fin (.fz ?_)
     unfold Rep
     exact ⟨bd,us,rfl,s4,r5⟩
    ·subst z
     have hm:m=[]:=List.eq_nil_of_length_eq_zero (by have:=r5.len; simpa using this.symm)
     subst hm
     rw [List.append_nil] at h4
     refine h4 _ F2 H2 fin (.fz ?_)
     unfold Rep
     exact ⟨ad,vs,rfl,s2,r3⟩
    ·refine h4 _ (upd F2 p (tq (o,vs++us))) _ (Ext.tup e2.fh e2.tp hp) (.fz ?_)
     unfold Rep
     exact ⟨p,_,rfl,.new hd,(r3.append r5).mono (same_new (e2.fh.free hp)) _ _⟩
   ·rw [if_neg hz] at h4; exact h4.elim
  | _=>exact h3.elim
 | str l =>
  cases q with
  | str m =>
   unfold Rep at ex' ey'
   obtain ⟨rfl,hg⟩:=ex'
   obtain ⟨rfl,hg2⟩:=ey'
   have h4:EOk C W σ F2 H2 Q ((if l.length+m.length≤16777216 then .ok (.str (l++m)) else .bad:Res PV).bind fzv):=h3
   by_cases hz:l.length+m.length≤16777216
   ·rw [if_pos hz,bind_ok] at h4
    refine .inr (.inr (.inl ⟨_,_,rfl,rfl,by rw [← szL_eq]; simpa [Str.length] using hz,?_⟩))
    have e5:(⟨l.toArray⟩:Str)++(⟨m.toArray⟩:Str)=⟨(l++m).toArray⟩:=by
     show (⟨l.toArray++m.toArray⟩:Str)=_
     simp
    rw [e5]
    exact h4 _ F2 H2 fin (.fz (rep_str (strG_app hg hg2 hz)))
   ·rw [if_neg hz] at h4; exact h4.elim
  | _=>exact h3.elim
 | int i =>
  cases q with
  | int j =>
   unfold Rep at ex' ey'
   subst ex' ey'
   exact .inr (.inr (.inr ⟨i,j,rfl,rfl,h3 _ F2 H2 fin (.fz rep_int)⟩))
  | _=>exact h3.elim
 | _=>exact h3.elim
theorem own_one{K:KK}{F H:Hp}{fp:List Addr}{l:List PV}{v:V}(h:Own K F H 1 fp (.lst l) v):∃ a vs,v = .ref a∧H a=some (.lst vs)∧RepL K F l vs:=by
 obtain ⟨l',a,vs,fps,e0,rfl,h3,h4,h5⟩:=h.lst
 cases e0
 refine ⟨a,vs,rfl,h3,?_⟩
 clear h3 h4 h
 induction fps generalizing l vs with
 | nil=>cases l with
  | nil=>cases vs with
   | nil=>exact RepL.nil
   | cons v vs=>exact h5.elim
  | cons p ps=>exact h5.elim
 | cons f fs ih=>cases l with
  | nil=>exact h5.elim
  | cons p ps=>cases vs with
   | nil=>exact h5.elim
   | cons v vs=>exact RepL.cons h5.1.2 (ih _ h5.2)
theorem rep_flat{K:KK}{F:Hp}{l:List PV}{vs:List V}(h:RepL K F l vs):∀ n:Nat,RepL K F (List.replicate n l).flatten (List.replicate n vs).flatten
 | 0=>RepL.nil
 | n+1=>by
  rw [List.replicate_succ,List.replicate_succ,List.flatten_cons,List.flatten_cons]
  exact h.append (rep_flat h n)
end
end Vl
end
section
set_option Elab.async false
set_option linter.all false
set_option maxRecDepth 100000
set_option maxHeartbeats 1000000
namespace Vl
open PySem L2 Vm PyProof.Rows
section
variable {C:Cn} {cm:Bool} {k:Nat} {N:List Str} {sc:Scope} {a b c e:Expr} {es:List Expr} {A B:EX} {As:EXs} {T U:TX} {pos p:Pos} {X:Cx} {x:Str} {bid:String}
theorem Sta.mg(S:Sta C cm k N sc X):X.mg=C.mg:=by have:=S.cn; subst this; rfl
theorem Sta.gl(S:Sta C cm k N sc X)(h:sc.names.lookup x=some .globalImplicit):Gl X x:=by
 show X.env.scope.names.lookup x=_
 rw [S.s]; exact h
theorem de_b1 {f:TV→Res TV} {r:List V→Hp→VK→Prop} (hc:∀ X,Sta C cm k N sc X→CallR X (.builtin bid) r)
  (hr:∀ W σ x v F H Hs Q,Same F H→Tups F H→RV C.K F H Hs x v→EOk C W σ F H Q (f x)→r [v] H Q) (mx:C.mg x=none) (hv:bootBuiltins x=some (.builtin bid)) (hn:x ≠ "__name__") (hdb:(x == ("__debug__":Str))=false)
  (ha:DE C cm k N sc a A) (hg:sc.names.lookup x=some .globalImplicit)
  (hst:∀ env:PySem.Env,starEach [a] env=(false,eval a env) :: starEach [] env):DE C cm k N sc (.Call (.Name x p) [a] [] pos) (fun Γ=>(A Γ).bind f):=by
 obtain ⟨ta,pa,qa⟩:=ha
 refine ⟨fun W=>tCB r (tCons (ta W) tNil),fun X S W T=>pe_callB (hc X S) (S.gl hg) (by rw [S.mg]; exact mx) hv (pa_cons (pa X S W T) pa_nil (hst _)) hn hdb (hst _) rfl,fun W σ Γ F0 H0 F H Q g h=>?_⟩
 refine qa W σ Γ F0 H0 F H _ g (EOk.bind h fun x v F1 H1 ex e1 r1 h1=>?_)
 exact hr W σ x v F1 H1 H Q e1.fh e1.tp r1 (h1.next e1)
theorem de_t1 {f:TV→Res TV} {r:List V→Hp→VK→Prop} (hc:∀ X,Sta C cm k N sc X→CallR X (.type bid) r)
  (hr:∀ W σ x v F H Hs Q,Same F H→Tups F H→RV C.K F H Hs x v→EOk C W σ F H Q (f x)→r [v] H Q) (mx:C.mg x=none) (hv:bootBuiltins x=some (.type bid)) (hn:x ≠ "__name__") (hdb:(x == ("__debug__":Str))=false)
  (ha:DE C cm k N sc a A) (hg:sc.names.lookup x=some .globalImplicit)
  (hst:∀ env:PySem.Env,starEach [a] env=(false,eval a env) :: starEach [] env):DE C cm k N sc (.Call (.Name x p) [a] [] pos) (fun Γ=>(A Γ).bind f):=by
 obtain ⟨ta,pa,qa⟩:=ha
 refine ⟨fun W=>tCB r (tCons (ta W) tNil),fun X S W T=>pe_callTy (hc X S) (S.gl hg) (by rw [S.mg]; exact mx) hv (pa_cons (pa X S W T) pa_nil (hst _)) hn hdb (hst _) rfl,fun W σ Γ F0 H0 F H Q g h=>?_⟩
 refine qa W σ Γ F0 H0 F H _ g (EOk.bind h fun x v F1 H1 ex e1 r1 h1=>?_)
 exact hr W σ x v F1 H1 H Q e1.fh e1.tp r1 (h1.next e1)
theorem rep_lst{K:KK}{H:Hp}{l:List PV}{v:V}(h:Rep K H (.lst l) v):∃ a vs,v = .ref a∧SqL K H a vs∧RepL K H l vs:=by
 unfold Rep at h; exact h
theorem rep_tup{K:KK}{H:Hp}{l:List PV}{v:V}(h:Rep K H (.tup l) v):∃ a vs,v = .ref a∧TupAt H a vs∧RepL K H l vs:=by
 unfold Rep at h; exact h
theorem strG_len{l:List Nat}(h:strG l=true):(⟨l.toArray⟩:Str).length≤sizeLine:=by
 unfold strG at h
 rw [Bool.and_eq_true] at h
 have hz:l.length≤16777216:=of_decide_eq_true h.1
 rw [← szL_eq]; simpa [Str.length] using hz
theorem de_len (ha:DE C cm k N sc a A) (mx:C.mg "len" = none) (hg:sc.names.lookup ("len":Str)=some .globalImplicit:=by rfl)
  (hst:∀ env:PySem.Env,starEach [a] env=(false,eval a env) :: starEach [] env:=by intro _; rfl):DE C cm k N sc (.Call (.Name "len" p) [a] [] pos) (eLen A) :=
 de_b1 (r:=fun xs H Q=>∃ x n,xs=[x]∧LenV C.K x H n∧Q (.int n) H) (fun X S=>by rw [← S.K]; exact call_len) (fun W σ x v F H Hs Q hf ht rv h=>by
  have r:=rv.rep hf
  obtain ⟨t,q⟩:=x
  have fin:Ext F H F H:=Ext.refl hf ht
  cases q with
  | lst l =>
   obtain ⟨ad,vs,rfl,s2,r3⟩:=rep_lst r
   refine ⟨_,l.length,rfl,?_,h _ F H fin (.fz rep_int)⟩
   exact .inl ⟨vs,s2,r3.len.symm⟩
  | tup l =>
   obtain ⟨ad,vs,rfl,s2,r3⟩:=rep_tup r
   refine ⟨_,l.length,rfl,?_,h _ F H fin (.fz rep_int)⟩
   exact .inr ⟨vs,(TupAt.sq s2),r3.len.symm⟩
  | str l =>
   unfold Rep at r
   obtain ⟨rfl,hg⟩:=r
   refine ⟨_,l.length,rfl,⟨strG_len hg,by simp [Str.length]⟩,h _ F H fin (.fz rep_int)⟩
  | dic ks l=>exact h.elim
  | _=>exact h.elim) mx PySem.boot_len (by decide) (by decide) ha hg hst
theorem de_tuple (ha:DE C cm k N sc a A) (mx:C.mg "tuple" = none) (hg:sc.names.lookup ("tuple":Str)=some .globalImplicit:=by rfl)
  (hst:∀ env:PySem.Env,starEach [a] env=(false,eval a env) :: starEach [] env:=by intro _; rfl):DE C cm k N sc (.Call (.Name "tuple" p) [a] [] pos) (eTuple A) :=
 de_t1 (r:=fun xs H Q=>∃ p ys,xs=[.ref p]∧((SqL C.K H p ys∧NewT ys H Q) ∨ (SqT C.K H p ys∧Q (.ref p) H))) (fun X S=>by rw [← S.K]; exact call_tupleD) (fun W σ x v F H Hs Q hf ht rv h=>by
  obtain ⟨t,q⟩:=x
  have fin:Ext F H F H:=Ext.refl hf ht
  cases q with
  | lst l =>
   have h:EOk C W σ F H Q (if flat1 t then .ok (.fz,.tup l) else .bad):=h
   by_cases f1:flat1 t=true
   ·rw [if_pos f1] at h
    obtain ⟨ad,vs,rfl,s2,r3⟩:=rv_flat hf rv f1
    refine ⟨ad,vs,rfl,.inl ⟨s2,fun p o hp hd=>?_⟩⟩
    refine h _ (upd F p (tq (o,vs))) _ (Ext.tup hf ht hp) (.fz ?_)
    unfold Rep
    exact ⟨p,_,rfl,.new hd,r3.mono (same_new (hf.free hp)) _ _⟩
   ·rw [if_neg f1] at h; exact h.elim
  | tup l =>
   obtain ⟨ad,vs,rfl,s2,r3⟩:=rv_tup rv
   refine ⟨ad,vs,rfl,.inr ⟨(TupAt.sq (TupAt.mono hf s2)),h _ F H fin (.fz ?_)⟩⟩
   unfold Rep
   exact ⟨ad,vs,rfl,s2,r3⟩
  | _=>exact h.elim) mx (by decide +kernel) (by decide) (by decide) ha hg hst
theorem rep_bools{K:KK}{H:Hp}:∀ {l:List PV} {vs:List V} {b:Bool},RepL K H l vs→allBl l = .ok b→∃ bs:List Bool,vs=bs.map V.bl∧bs.all id=b
 | [],vs,b,h,e=>by unfold RepL at h; subst h; cases e; exact ⟨[],rfl,rfl⟩
 | p :: l,vs,b,h,e=>by
  unfold RepL at h
  obtain ⟨v,r,rfl,h2,h3⟩:=h
  cases p with
  | bl c =>
   unfold allBl at e
   cases e2:allBl l with
   | ok d =>
    rw [e2,bind_ok] at e
    cases e
    obtain ⟨bs,rfl,h4⟩:=rep_bools h3 e2
    unfold Rep at h2
    subst h2
    exact ⟨c :: bs,rfl,by rw [List.all_cons,h4]; rfl⟩
   | exc c=>rw [e2] at e; cases e
   | bad=>rw [e2] at e; cases e
  | _=>cases e
theorem allB_noexc:∀ {l:List PV} {c:Nat},allBl l ≠ .exc c
 | [],c,h=>by cases h
 | p :: l,c,h=>by
  cases p with
  | bl i =>
   unfold allBl at h
   cases e:allBl l with
   | ok d=>rw [e] at h; cases h
   | exc c=>exact allB_noexc e
   | bad=>rw [e] at h; cases h
  | _=>cases h
theorem de_all (ha:DE C true k N sc a A) (mx:C.mg "all" = none) (hg:sc.names.lookup ("all":Str)=some .globalImplicit:=by rfl)
  (hst:∀ env:PySem.Env,starEach [a] env=(false,eval a env) :: starEach [] env:=by intro _; rfl):DE C true k N sc (.Call (.Name "all" p) [a] [] pos) (eAll A) :=
 de_b1 (r:=rAll C.K) (fun X S=>by rw [← S.K]; exact cr_all (S.c rfl)) (fun W σ x v F H Hs Q hf ht rv h=>by
  have r:=rv.rep hf
  obtain ⟨t,q⟩:=x
  cases q with
  | lst l =>
   obtain ⟨ad,vs,rfl,s2,r3⟩:=rep_lst r
   cases e:allBl l with
   | ok b =>
    have h:EOk C W σ F H Q ((allBl l).bind fun b=>.ok (.fz,.bl b)):=h
    rw [e] at h
    obtain ⟨bs,rfl,rfl⟩:=rep_bools r3 e
    exact ⟨ad,bs,rfl,s2,h _ F H (Ext.refl hf ht) (.fz rep_bl)⟩
   | exc c=>exact (allB_noexc e).elim
   | bad =>
    have h:EOk C W σ F H Q ((allBl l).bind fun b=>.ok (.fz,.bl b)):=h
    rw [e] at h; exact h.elim
  | _=>exact h.elim) mx (by decide +kernel) (by decide) (by decide) ha hg hst
def kT(u t:String):Bool:=u == t || (u == "bool" && t == "int")
theorem kit_tab:∀ u∈["NoneType","bool","int","str","tuple","list","dict"],∀ t∈["tuple","list","str","int","bool"],kitB u t=some (kT u t):=by decide +kernel
theorem kit_at {u t:String} (hu:u∈["NoneType","bool","int","str","tuple","list","dict"]) (ht:t = "tuple" ∨ t = "list" ∨ t = "str" ∨ t = "int" ∨ t = "bool") {b:Bool} (hb:kT u t=b):kitB u t=some b:=by
 rw [← hb]
 exact kit_tab u hu t (by rcases ht with rfl | rfl | rfl | rfl | rfl <;> simp)
def rIsiD(K:PySem.W.Frag):List V→Hp→VK→Prop:=fun xs H Q=>rIsi K xs H Q ∨ (∃ a o t b,xs=[.ref a,.ty t]∧H a=some (dHO a o)∧o.ExactDict∧kitB "dict" t=some b∧Q (.bl b) H) ∨ ∃ a vs t b,xs=[.ref a,.ty t]∧TupAt H a vs∧kitB "tuple" t=some b∧Q (.bl b) H
theorem call_isiD:CallR X (.builtin "isinstance") (rIsiD X.K):=by
 intro pins s σ H xs us Q I r h
 rcases h with h | ⟨a,o,t,b,rfl,h1,h2,h3,q⟩ | ⟨a,vs,t,b,rfl,⟨o,_,h1⟩,h3,q⟩
 ·exact call_isi pins s σ H xs us Q I r h
 ·obtain ⟨u1,u2,rfl,r1,r2⟩:=vals2 r
  cases (show u1=Value.ref a from r1)
  cases (show u2=Value.type t from r2)
  obtain ⟨hg,_⟩:=(show ObjOk X.prog X.w H s.heap a (dHO a o) from I.hok a _ h1)
  exact PySem.W.kia_one PySem.W.kitx_dict I.kIn ⟨o,hg,h2.1⟩ (kit_ty h3) (fun z=>nomatch z) fun tk=>⟨.bl b,H,I.tok tk,rfl,q⟩
 ·obtain ⟨u1,u2,rfl,r1,r2⟩:=vals2 r
  cases (show u1=Value.ref a from r1)
  cases (show u2=Value.type t from r2)
  obtain ⟨hg,_,_,_,o',hg',hc,_⟩:=(show ObjOk X.prog X.w H s.heap a (tq (o,vs)) from I.hok a _ h1)
  exact PySem.W.kia_one PySem.W.kitx_tuple I.kIn ⟨o',hg',hc⟩ (kit_ty h3) (fun z=>nomatch z) fun tk=>⟨.bl b,H,I.tok tk,rfl,q⟩
theorem de_isI (ha:DE C cm k N sc a A) (t:String) {p2:Pos} (mx:C.mg "isinstance" = none) (mt:C.mg (Str.ofString t)=none) (ht:(t = "tuple" ∨ t = "list" ∨ t = "str" ∨ t = "int" ∨ t = "bool"):=by decide) (hg:sc.names.lookup ("isinstance":Str)=some .globalImplicit:=by rfl) (hg2:sc.names.lookup (Str.ofString t)=some .globalImplicit:=by rfl)
  (hst:∀ env:PySem.Env,starEach [a,.Name (Str.ofString t) p2] env=(false,eval a env) :: starEach [.Name (Str.ofString t) p2] env:=by intro _; rfl):DE C cm k N sc (.Call (.Name "isinstance" p) [a,.Name (Str.ofString t) p2] [] pos) (eIsI A t):=by
 obtain ⟨ta,pa,qa⟩:=ha
 have hv:bootBuiltins (Str.ofString t)=some (.type t)∧Str.ofString t ≠ "__name__"∧(Str.ofString t == ("__debug__":Str))=false:=by
  rcases ht with rfl | rfl | rfl | rfl | rfl <;> exact ⟨by decide +kernel,by decide,by decide⟩
 refine ⟨fun W=>tCB (rIsiD C.K) (tCons (ta W) (tCons (tC (.ty t)) tNil)),fun X S W T=>by rw [← S.K]; exact pe_callB call_isiD (S.gl hg) (by rw [S.mg]; exact mx) (by decide +kernel) (pa_cons (pa X S W T) (pa_cons (pe_bltn (S.gl hg2) (by rw [S.mg]; exact mt) hv.1 rfl hv.2.1 hv.2.2) pa_nil) (hst _)) (by decide) (by decide) (hst _) rfl,fun W σ Γ F0 H0 F H Q g h=>?_⟩
 refine qa W σ Γ F0 H0 F H _ g (EOk.bind h fun x v F1 H1 ex e1 r1 h1=>?_)
 have r:=r1.rep e1.fh
 have h2:=h1.next e1
 have h2:EOk C W σ F1 H1 Q ((if isExo x.2=true then .bad else Res.ok (.bl (kindIs t x.2)):Res PV).bind fzv):=h2
 by_cases hex:isExo x.2=true
 ·rw [if_pos hex] at h2; exact h2.elim
 rw [if_neg hex] at h2
 have fin:=h2 _ F1 H1 (Ext.refl e1.fh e1.tp) (.fz rep_bl)
 have go:∀ u:String,TyX C.K H1 v (.type u)→kitB u t=some (kindIs t x.2)→rIsiD C.K [v,.ty t] H1 Q:=fun u h3 h4 =>
  .inl ⟨v,.ty t,.type u,.type t,_,rfl,.ty t,h3,kit_ty h4,fin⟩
 obtain ⟨tg,q⟩:=x
 cases q with
 | non=>unfold Rep at r; subst r; exact go "NoneType" (.base .non) (kit_at (by simp) ht (by rcases ht with rfl | rfl | rfl | rfl | rfl <;> rfl))
 | bl b=>unfold Rep at r; subst r; exact go "bool" (.base (.bl b)) (kit_at (by simp) ht (by rcases ht with rfl | rfl | rfl | rfl | rfl <;> rfl))
 | int i=>unfold Rep at r; subst r; exact go "int" (.base (.int i)) (kit_at (by simp) ht (by rcases ht with rfl | rfl | rfl | rfl | rfl <;> rfl))
 | str l=>unfold Rep at r; obtain ⟨rfl,_⟩:=r; exact go "str" (.base (.str _)) (kit_at (by simp) ht (by rcases ht with rfl | rfl | rfl | rfl | rfl <;> rfl))
 | tup l=>obtain ⟨ad,vs,rfl,s2,r3⟩:=rep_tup r; exact .inr (.inr ⟨ad,vs,t,_,rfl,s2,kit_at (u:="tuple") (by simp) ht (by rcases ht with rfl | rfl | rfl | rfl | rfl <;> rfl),fin⟩)
 | lst l =>
  obtain ⟨ad,vs,rfl,s2,r3⟩:=rep_lst r
  have ty:TyX C.K H1 (.ref ad) (.type "list"):=by
   rcases s2 with (z | ⟨o,z⟩) | ⟨o,its,n,z,z2,_⟩
   ·exact .base (.lst z)
   ·exact .base (.frz z)
   ·exact .kList z z2
  exact go "list" ty (kit_at (by simp) ht (by rcases ht with rfl | rfl | rfl | rfl | rfl <;> rfl))
 | dic ks l =>
  unfold Rep at r
  obtain ⟨ad,o,vs,rfl,s2,_,dk,_⟩:=r
  have hx:o.ExactDict:=by
   rcases dk with ⟨_,_,_,_,z,_⟩ | ⟨_,_,_,_,z,_⟩ <;> exact z
  exact .inr (.inl ⟨ad,o,t,_,rfl,s2,hx,kit_at (u:="dict") (by simp) ht (by rcases ht with rfl | rfl | rfl | rfl | rfl <;> rfl),fin⟩)
 | exo c l=>exact (hex rfl).elim
end
end Vl
end
section
set_option Elab.async false
set_option linter.all false
set_option maxRecDepth 100000
set_option maxHeartbeats 1000000
namespace Vl
open PySem L2 Vm PyProof.Rows
def spOf(C:Cn)(n:Nat)(f:FN):Sp:=fun vs H Q E=>∃ F ps,vs.length=n∧Same F H∧Tups F H∧RepL C.K F ps vs∧match f ps with
 | .ok x=>∀ v F' H',Ext F H F' H'→RV C.K F' H' H x v→Q v H'
 | .exc c=>∀ F' H',Ext F H F' H'→E (C.xc c) none H'
 | .bad=>False
structure Cal (C:Cn) (x:Str) (n k:Nat) (f:FN):Prop where
 ex:∃ ad fd ps,ps.length=n∧FnOk C.P C.w C.K C.mg C.base (L2.CX C.P C.w) k ad fd ps (spOf C n f)∧PySem.W.keepIn C.K (.ref ad)=true∧Binds C.K fd ps []∧C.mg x=some (.ref ad)
section
variable {C:Cn} {cm:Bool} {k:Nat} {N:List Str} {sc:Scope} {a b c e:Expr} {es:List Expr} {A B:EX} {As:EXs} {T U:TX} {pos p:Pos} {X:Cx} {x:Str}
theorem RV.ofFz{K:KK}{F H Hs:Hp}{p:PV}{v:V}:RV K F H Hs (.fz,p) v→Rep K F p v:=fun ⟨_,h⟩=>h
mutual
theorem stab_rep {K:KK} {F G:Hp} (g:∀ a xs,F a=some (tq xs)→G a=some (tq xs)):∀ (p:PV) (v:V),stab p=true→Rep K F p v→Rep K G p v
 | .non,v,_,h=>h
 | .bl _,v,_,h=>h
 | .int _,v,_,h=>h
 | .str _,v,_,h=>h
 | .tup l,v,s,h=>by
  unfold stab at s
  unfold Rep at h ⊢
  obtain ⟨a,vs,h1,h2,h3⟩:=h
  exact ⟨a,vs,h1,h2.up g,stab_repL g l vs s h3⟩
 | .lst _,v,s,_=>by simp [stab] at s
 | .dic _ _,v,s,_=>by simp [stab] at s
 | .exo _ _,v,s,_=>by simp [stab] at s
theorem stab_repL {K:KK} {F G:Hp} (g:∀ a xs,F a=some (tq xs)→G a=some (tq xs)):∀ (l:List PV) (vs:List V),stabL l=true→RepL K F l vs→RepL K G l vs
 | [],vs,_,h=>h
 | p :: l,vs,s,h=>by
  unfold stabL at s
  rw [Bool.and_eq_true] at s
  unfold RepL at h ⊢
  obtain ⟨v,r,h1,h2,h3⟩:=h
  exact ⟨v,r,h1,stab_rep g p v s.1 h2,stab_repL g l r s.2 h3⟩
end
theorem stab_own{K:KK}{F G H:Hp}(g:∀ a xs,F a=some (tq xs)→G a=some (tq xs)):∀ (d:Nat) {fp:List Addr} {p:PV} {v:V},stabO d p=true→Own K F H d fp p v→Own K G H d fp p v
 | 0,fp,p,v,s,h=>⟨h.1,stab_rep g p v (by unfold stabO at s; exact s) h.2⟩
 | d+1,fp,p,v,s,h=>by
  rcases h with ⟨l,a,vs,fps,h2,h3,h4,h5⟩ | ⟨_,h2,_⟩
  rotate_left
  ·cases p <;> first | (simp [stabO] at s; done) | cases h2
  refine .inl ⟨l,a,vs,fps,h2,h3.tups g,h4,?_⟩
  have s:l.all (stabO d)=true:=by
   rcases h3 with ⟨rfl,_⟩ | ⟨ks,o,rfl,_⟩ | ⟨_,_,rfl,_⟩
   ·unfold stabO at s; exact s
   ·unfold stabO at s; exact s
   ·simp [stabO] at s
  clear h4 h3
  have go:∀ {fs:List (List Addr)} {ps:List PV} {vs:List V},ps.all (stabO d)=true→OwnL (Own K F H d) fs ps vs→OwnL (Own K G H d) fs ps vs:=by
   intro fs
   induction fs with
   | nil=>intro ps vs _ h; cases ps with
    | nil=>cases vs with
     | nil=>trivial
     | cons v vs=>exact h.elim
    | cons p ps=>exact h.elim
   | cons f fs ih=>intro ps vs hs h; cases ps with
    | nil=>exact h.elim
    | cons p ps=>cases vs with
     | nil=>exact h.elim
     | cons v vs =>
      rw [List.all_cons,Bool.and_eq_true] at hs
      exact ⟨stab_own g d hs.1 h.1,ih hs.2 h.2⟩
  exact go s h5
theorem putVs_of:∀ {xs:List TV},xs.any isBw=false→putVs xs = .ok (xs.map (·.2))
 | [],_=>rfl
 | x :: xs,h=>by
  rw [List.any_cons,Bool.or_eq_false_iff] at h
  unfold putVs
  have e:putV x = .ok x.2:=by
   obtain ⟨t,p⟩:=x
   match t,h.1 with
   | .fz,_=>rfl
   | .ow d,_=>rfl
   | .bw 0,_=>rfl
   | .bw (d+1),h=>cases h
  rw [e,bind_ok,putVs_of h.2]
  rfl
open Classical in
noncomputable def tupF(F H:Hp):Hp:=fun a=>if ∃ xs,H a=some (tq xs) then H a else F a
theorem tupF_tup{F H:Hp}{a:Addr}{xs}(h:H a=some (tq xs)):tupF F H a=some (tq xs):=by unfold tupF; rw [if_pos ⟨xs,h⟩]; exact h
theorem tupF_cases{F H:Hp}(a:Addr):(∃ xs,H a=some (tq xs)) ∨ tupF F H a=F a:=by
 by_cases h:∃ xs,H a=some (tq xs)
 ·exact .inl h
 ·unfold tupF; rw [if_neg h]; exact .inr rfl
theorem Ext.tupF{F1 H1 H':Hp}(hf:Same F1 H1)(ht:Tups F1 H1)(hh:Same H1 H'):Ext F1 H1 (tupF F1 H') H':=by
 refine ⟨fun a o e=>?_,hh,fun a o e=>?_,fun a xs e=>tupF_tup e,fun a q=>?_⟩
 ·rcases tupF_cases (F:=F1) (H:=H') a with ⟨xs,z⟩ | z
  ·rw [tupF_tup z]
   rw [hh _ _ (hf _ _ e)] at z
   exact z.symm
  ·rw [z]; exact e
 ·rcases tupF_cases (F:=F1) (H:=H') a with ⟨xs,z⟩ | z
  ·rw [tupF_tup z] at e; rw [← e]; exact z
  ·rw [z] at e; exact hh _ _ (hf _ _ e)
 ·rcases tupF_cases (F:=F1) (H:=H') a with ⟨xs,z⟩ | z
  ·cases e:H1 a with
   | none=>exact .inr rfl
   | some o =>
    have:=hh _ _ e
    rw [z] at this
    cases this
    exact .inl (by rw [ht _ _ e]; simp)
  ·rw [z] at q; exact .inl q
def AL(n:Nat)(As:EXs):Prop:=∀ Γ xs,As Γ = .ok xs→xs.length=n
theorem al_nil:AL 0 eNil:=fun Γ xs h=>by cases h; rfl
theorem al_cons{n:Nat}(h:AL n As):AL (n+1) (eCons A As):=fun Γ xs e=>by
 unfold eCons at e
 cases e1:A Γ with
 | ok x =>
  rw [e1,bind_ok] at e
  cases e2:As Γ with
  | ok ys=>rw [e2,bind_ok] at e; cases e; rw [List.length_cons,h Γ ys e2]
  | exc c=>rw [e2] at e; cases e
  | bad=>rw [e2] at e; cases e
 | exc c=>rw [e1] at e; cases e
 | bad=>rw [e1] at e; cases e
theorem de_call {f:FN} {n j:Nat} (G:Cal C x n j f) (ha:DA C true k N sc (e :: es) As) (hj:j≤k:=by decide) (hg:sc.names.lookup x=some .globalImplicit:=by rfl) (hdb:(x == ("__debug__":Str))=false:=by decide)
  (he:∀ env:PySem.Env,starEach (e :: es) env=(false,eval e env) :: starEach es env:=by intro _; rfl) (hpl:∀ env:PySem.Env,(backTo pos (starEach es env)).any (·.1)=false:=by intro _; rfl) (hlen:(e :: es).length=n:=by rfl) (hAs:AL n As) :
  DE C true k N sc (.Call (.Name x p) (e :: es) [] pos) (eCall f As):=by
 obtain ⟨ta,pa,qa⟩:=ha
 obtain ⟨ad,fd,ps,hps,F,kp,bn,hm⟩:=G.ex
 refine ⟨fun W=>tCallS (spOf C n f) (WE W) (ta W),fun X S W T=>?_,fun W σ Γ F0 H0 F H Q g h=>?_⟩
 ·have cn:=S.cn
  subst cn
  exact pe_callS F ((S.r rfl).mono hj) (S.gl hg) hm kp bn (fun σ=>passAt T σ) (pa X S W T) hdb (he _) (hpl _)
 ·refine qa W σ Γ F0 H0 F H _ g (AOk.bind h fun xs vs fp F1 H1 ex e1 r1 h1=>?_)
  have hl:vs.length=n:=by
   rw [(RVs.reps e1.fh r1).len,List.length_map]; exact hAs Γ xs ex
  by_cases hb:xs.any isBw=true
  ·refine ⟨H1,xs.map (·.2),hl,Same.refl _,fun _ _ z=>z,RVs.reps e1.fh r1,?_⟩
   cases ef:f (xs.map (·.2)) with
   | bad=>rw [ef] at h1; exact h1.elim
   | exc c =>
    rw [ef] at h1
    exact fun F' H' e'=>h1 (tupF F1 H') H' (e1.trans (Ext.tupF e1.fh e1.tp e'.hh))
   | ok x =>
    rw [ef,bind_ok,hb] at h1
    by_cases hs:stabR x=true
    ·rw [hs] at h1
     intro v F' H' e' rv
     have e2:=Ext.tupF e1.fh e1.tp e'.hh
     refine h1 v (tupF F1 H') H' (e1.trans e2) ?_
     have gt:∀ a xs,F' a=some (tq xs)→tupF F1 H' a=some (tq xs):=fun a xs z=>tupF_tup (e'.fh _ _ z)
     obtain ⟨t,p⟩:=x
     obtain ⟨fp',rv⟩:=rv
     cases t with
     | fz=>exact .fz (stab_rep gt p v hs rv)
     | bw d=>cases hs
     | ow d =>
      obtain ⟨z1,z2,z3⟩:=rv
      refine ⟨fp',stab_own gt d hs z1,z2,fun a ha=>⟨?_,e1.hh.free (z3 a ha).2⟩⟩
      obtain ⟨ws,z4,z5⟩:=z1.there d a ha
      rcases tupF_cases (F:=F1) (H:=H') a with ⟨_,z⟩ | z
      ·rw [z4] at z; cases z; exact (z5 _ rfl).elim
      ·rw [z]; exact e1.fh.free (z3 a ha).2
    ·have:stabR x=false:=by cases q:stabR x <;> simp_all
     rw [this] at h1; exact h1.elim
  ·have hb':xs.any isBw=false:=by cases q:xs.any isBw <;> simp_all
   obtain ⟨F2,e2,s2,r2,_⟩:=RVs.put e1 r1 (putVs_of hb')
   refine ⟨F2,xs.map (·.2),hl,e2.fh,e2.tp,r2,?_⟩
   cases ef:f (xs.map (·.2)) with
   | bad=>rw [ef] at h1; exact h1.elim
   | exc c =>
    rw [ef] at h1
    exact fun F' H' e'=>h1 F' H' (e2.trans e')
   | ok x =>
    rw [ef,bind_ok,hb'] at h1
    exact fun v F' H' e' rv=>h1 v F' H' (e2.trans e') (rv.start e1.hh)
end
end Vl
end
section
set_option Elab.async false
set_option linter.all false
set_option maxRecDepth 100000
set_option maxHeartbeats 1000000
namespace Vl
open PySem L2 Vm PyProof.Rows
section
variable {K:KK} {F0 H0 F H F1 H1:Hp} {Γ:En} {σ:L2.St}
theorem get_set{Γ:En}{i j:Nat}{s:Sl}:En.get (Γ.set i s) j=if j=i∧i < Γ.length then s else Γ.get j:=by
 unfold En.get
 by_cases h:j=i
 ·subst h
  by_cases hl:j < Γ.length
  ·rw [if_pos ⟨rfl,hl⟩]; simp [List.getD,hl]
  ·rw [if_neg (fun z=>hl z.2)]
   have e:Γ.set j s=Γ:=List.set_eq_of_length_le (by omega)
   rw [e]
 ·rw [if_neg (fun z=>h z.1)]
  simp [List.getD,List.getElem?_set_ne (Ne.symm h)]
theorem Good.set(g:Good K F0 H0 Γ σ F H)(i:Nat){x:TV}{v:V}{f:List Addr}(h:RVf K F H H0 x v f)(hd:∀ (fp:Nat→List Addr),(∀ j x,Γ.get j=some x→∃ v,σ[j]? = some (some v)∧RVf K F H H0 x v (fp j))→(∀ i j a,i ≠ j→a∈fp i→a ∉ fp j)→∃ fp':Nat→List Addr,(∀ j x,Γ.get j=some x→j ≠ i→∃ v,σ[j]? = some (some v)∧RVf K F H H0 x v (fp' j))∧(∀ i' j a,i' ≠ j→a∈fp' i'→a ∉ fp' j)∧fp' i=f) :
  Good K F0 H0 (Γ.set i (some x)) (σ.set i (some v)) F H:=by
 refine ⟨g.ext,by rw [List.length_set,List.length_set]; exact g.len,?_⟩
 obtain ⟨fp,h1,h2⟩:=g.slots
 obtain ⟨fp',h3,h4,h5⟩:=hd fp h1 h2
 by_cases hl:i < Γ.length
 ·refine ⟨fp',fun j y hy=>?_,h4⟩
  rw [get_set] at hy
  by_cases hj:j=i
  ·subst hj
   rw [if_pos ⟨rfl,hl⟩] at hy
   cases hy
   exact ⟨v,by rw [List.getElem?_set_self (by rw [← g.len]; exact hl)],by rw [h5]; exact h⟩
  ·rw [if_neg (fun z=>hj z.1)] at hy
   obtain ⟨u,h6,h7⟩:=h3 j y hy hj
   exact ⟨u,by rw [List.getElem?_set_ne (Ne.symm hj)]; exact h6,h7⟩
 ·refine ⟨fp,?_,h2⟩
  rw [List.set_eq_of_length_le (by omega),List.set_eq_of_length_le (by have:=g.len; omega)]
  exact h1
theorem Good.setF(g:Good K F0 H0 Γ σ F H)(i:Nat){x:TV}{v:V}(h:RVf K F H H0 x v []):Good K F0 H0 (Γ.set i (some x)) (σ.set i (some v)) F H :=
 g.set i h fun fp h1 h2=>⟨fun j=>if j=i then [] else fp j,fun j x hx hj=>by
  obtain ⟨v,h3,h4⟩:=h1 j x hx
  exact ⟨v,h3,by simp only; rw [if_neg hj]; exact h4⟩,fun i' j a hij ha=>by
  simp only at ha ⊢
  split at ha
  ·simp at ha
  ·split
   ·simp
   ·exact h2 i' j a hij ha,by simp⟩
theorem wipe_get{Γ:En}:∀ {vs:List Nat} {j:Nat} {x:TV},(wipeE Γ vs).get j=some x→Γ.get j=some x∧j ∉ vs
 | [],j,x,h=>⟨h,by simp⟩
 | v :: vs,j,x,h=>by
  unfold wipeE at h
  rw [get_set] at h
  split at h
  ·cases h
  ·rename_i hn
   obtain ⟨h1,h2⟩:=wipe_get h
   refine ⟨h1,?_⟩
   simp only [List.mem_cons,not_or]
   refine ⟨fun e=>?_,h2⟩
   subst e
   by_cases hl:j < (wipeE Γ vs).length
   ·exact hn ⟨rfl,hl⟩
   ·have:(wipeE Γ vs).get j=none:=by unfold En.get; simp [List.getD,List.getElem?_eq_none (by omega:(wipeE Γ vs).length≤j)]
    rw [this] at h; cases h
theorem wipeE_length(Γ:En):∀ vs:List Nat,(wipeE Γ vs).length=Γ.length
 | []=>rfl
 | v :: vs=>by unfold wipeE; rw [List.length_set,wipeE_length Γ vs]
theorem wipe_keep{σ:L2.St}{j:Nat}:∀ {vs:List Nat},j ∉ vs→(wipe σ vs)[j]? = σ[j]?
 | [],_=>rfl
 | v :: vs,h=>by
  simp only [List.mem_cons,not_or] at h
  unfold wipe
  rw [List.getElem?_set_ne (Ne.symm h.1)]
  exact wipe_keep h.2
theorem Good.wipe(g:Good K F0 H0 Γ σ F H)(vs:List Nat):Good K F0 H0 (wipeE Γ vs) (wipe σ vs) F H:=by
 refine ⟨g.ext,by rw [wipeE_length,wipe_length]; exact g.len,?_⟩
 obtain ⟨fp,h1,h2⟩:=g.slots
 refine ⟨fp,fun j x hx=>?_,h2⟩
 obtain ⟨h3,h4⟩:=wipe_get hx
 obtain ⟨v,h5,h6⟩:=h1 j x h3
 exact ⟨v,by rw [wipe_keep h4]; exact h5,h6⟩
theorem Good.forget(g:Good K F0 H0 Γ σ F H)(vs:List Nat):Good K F0 H0 (wipeE Γ vs) σ F H:=by
 refine ⟨g.ext,by rw [wipeE_length]; exact g.len,?_⟩
 obtain ⟨fp,h1,h2⟩:=g.slots
 refine ⟨fp,fun j x hx=>?_,h2⟩
 obtain ⟨h3,_⟩:=wipe_get hx
 exact h1 j x h3
theorem wipe_set_in{σ:L2.St}{i:Nat}{v:Option V}:∀ {vs:List Nat},i∈vs→L2.wipe (σ.set i v) vs=L2.wipe σ vs
 | w :: vs,h=>by
  unfold L2.wipe
  by_cases hw:i∈vs
  ·rw [wipe_set_in hw]
  ·have e:w=i:=by simpa [hw,eq_comm] using h
   subst e
   have:∀ {us:List Nat},w ∉ us→L2.wipe (σ.set w v) us=(L2.wipe σ us).set w v:=by
    intro us
    induction us with
    | nil=>intro _; rfl
    | cons u us ih =>
     intro hu
     simp only [List.mem_cons,not_or] at hu
     unfold L2.wipe
     rw [ih hu.2,List.set_comm _ _ (Ne.symm hu.1:¬ _)]
   rw [this hw,List.set_set]
end
def FnReq(so:Scope)(X:Cx):Prop:=∀ x,so.names.lookup x=some .cell→X.fn x=true
section
variable {C:Cn} {cm:Bool} {k:Nat} {N:List Str} {sc so:Scope} {a b c e:Expr} {es:List Expr} {A B:EX} {As:EXs} {T U:TX} {pos p:Pos} {X:Cx} {x:Str}
def DG(C:Cn)(cm:Bool)(k:Nat)(N:List Str)(sc so:Scope)(tg:Expr)(pat:Pat):Prop:=∃ t:TG,(∀ X,Sta C cm k N sc X→FnReq so X→PG X tg t) ∧
 ∀ Γ σ F0 H0 F H x v Hs Q,Good C.K F0 H0 Γ σ F H→RV C.K F H Hs x v→(match bindP Γ x pat with
  | .ok Γ'=>∀ σ',Good C.K F0 H0 Γ' σ' F H→(∀ ws:List Nat,(∀ i∈pat.slots,i∈ws)→wipe σ' ws=wipe σ ws)→Q σ' H
  | _=>False)→t v σ H Q
theorem dg_v(i:Nat){x:Str}(hi:N[i]? = some x:=by rfl)(hx:Loc sc x:=by first | exact Or.inl rfl | exact Or.inr rfl)(hf:so.names.lookup x=some .cell ∨ sc.names.lookup x=some .local:=by first | exact Or.inr rfl | exact Or.inl rfl):DG C cm k N sc so (.Name x pos) (.v i):=by
 refine ⟨gName i,fun X S R=>pg_name (by rw [S.n]; exact S.nd) (by rw [S.n]; exact hi) (by rw [S.s]; exact hx) (by
  rcases hf with hf | hf
  ·exact .inl (R _ hf)
  ·exact .inr (by rw [S.s]; exact hf)),fun Γ σ F0 H0 F H x v Hs Q g r h=>?_⟩
 have w:∀ ws:List Nat,(∀ i'∈(Pat.v i).slots,i'∈ws)→wipe (σ.set i (some v)) ws=wipe σ ws:=fun ws hw=>wipe_set_in (hw i (by simp [Pat.slots]))
 obtain ⟨t,q⟩:=x
 obtain ⟨fp,r⟩:=r
 cases t with
 | fz=>exact h _ (g.setF i (x:=(.fz,q)) r) w
 | bw d =>
  cases d with
  | zero=>exact h _ (g.setF i (x:=(.fz,q)) (by obtain ⟨_,z⟩:=r; exact z.2)) w
  | succ d=>exact h _ (g.setF i (x:=(.bw (d+1),q)) r) w
 | ow d=>exact h _ (g.setF i (x:=(.bw d,q)) ⟨fp,r.1⟩) w
def DGs(C:Cn)(cm:Bool)(k:Nat)(N:List Str)(sc so:Scope)(ts:List Expr)(is:List Nat):Prop:=∃ t:TGs,(∀ X,Sta C cm k N sc X→FnReq so X→PGs X ts t)∧ts.length=is.length ∧
 ∀ Γ σ F0 H0 F H ps vs Q,Good C.K F0 H0 Γ σ F H→RepL C.K F ps vs→(match setAll Γ is ps with
  | some Γ'=>∀ σ',Good C.K F0 H0 Γ' σ' F H→(∀ ws:List Nat,(∀ i∈is,i∈ws)→wipe σ' ws=wipe σ ws)→Q σ' H
  | none=>False)→t vs σ H Q
theorem dgs_nil:DGs C cm k N sc so [] []:=⟨gNil,fun _ _ _=>pgs_nil,rfl,fun Γ σ F0 H0 F H ps vs Q g r h=>by
 cases ps with
 | nil=>unfold RepL at r; exact ⟨r,h σ g fun _ _=>rfl⟩
 | cons p ps=>exact h.elim⟩
theorem dgs_cons{i:Nat}{is:List Nat}(h1:DG C cm k N sc so e (.v i))(h2:DGs C cm k N sc so es is)(hs:∀ env:PySem.Env,(assignEach (e :: es) env).map (·.2)=assign e env :: (assignEach es env).map (·.2):=by intro _; rfl):DGs C cm k N sc so (e :: es) (i :: is):=by
 obtain ⟨t,pt,qt⟩:=h1
 obtain ⟨u,pu,lu,qu⟩:=h2
 refine ⟨gCons t u,fun X S R=>pgs_cons (pt X S R) (pu X S R) (hs _),by simp [lu],fun Γ σ F0 H0 F H ps vs Q g r h=>?_⟩
 cases ps with
 | nil=>exact h.elim
 | cons p ps =>
  unfold RepL at r
  obtain ⟨v,vr,rfl,r1,r2⟩:=r
  refine ⟨v,vr,rfl,qt Γ σ F0 H0 F H (.fz,p) v H _ g (.fz r1) ?_⟩
  intro σ1 g1 w1
  refine qu (Γ.set i (some (.fz,p))) σ1 F0 H0 F H ps vr Q g1 r2 ?_
  unfold setAll at h
  cases e:setAll (Γ.set i (some (.fz,p))) is ps with
  | none=>rw [e] at h; exact h
  | some Γ' =>
   rw [e] at h
   intro σ' g' w'
   refine h σ' g' fun ws hw=>?_
   rw [w' ws fun j hj=>hw j (by simp [hj])]
   exact w1 ws fun j hj=>hw j (by simp [Pat.slots] at hj; simp [hj])
def gSeq(K:PySem.W.Frag)(n:Nat)(t:TGs):TG:=fun v σ H Q=>∃ a xs,v = .ref a∧(SqT K H a xs ∨ SqL K H a xs)∧xs.length=n∧t xs σ H Q
theorem setAll_len:∀ {is:List Nat} {ps:List PV} {Γ Γ':En},setAll Γ is ps=some Γ'→ps.length=is.length:=by
 intro is
 induction is with
 | nil=>intro ps Γ Γ' h; cases ps with
  | nil=>rfl
  | cons p ps=>cases h
 | cons i is ih=>intro ps Γ Γ' h; cases ps with
  | nil=>cases h
  | cons p ps=>unfold setAll at h; rw [List.length_cons,List.length_cons,ih h]
theorem dg_t{is:List Nat}{k':Nat}(h:DGs C true k N sc so es is)(hn:∀ env:PySem.Env,(assignEach es env).length=es.length:=by intro _; rfl)(hst:∀ env:PySem.Env,(assignEach es env).findIdx? (·.1)=none:=by intro _; rfl):DG C true k N sc so (.Tuple es k' pos) (.t is):=by
 obtain ⟨t,pt,lt,qt⟩:=h
 refine ⟨gSeq C.K es.length t,fun X S R=>?_,fun Γ σ F0 H0 F H x v Hs Q g r hh=>?_⟩
 ·rw [← S.K]
  refine ⟨fun pins s σ H v u Q I r hw=>?_⟩
  obtain ⟨a,xs,e1,hq | hq,hl,hw⟩:=hw
  ·exact (pg_tup (S.c rfl) (pt X S R) (hn _) (hst _)).run pins s σ H v u Q I r ⟨a,xs,e1,hq,hl,hw⟩
  ·exact (pg_lst (S.c rfl) (pt X S R) (hn _) (hst _)).run pins s σ H v u Q I r ⟨a,xs,e1,hq,hl,hw⟩
 have go:∀ {ps:List PV} {ad:Addr} {vs:List V},v = .ref ad→(SqT C.K H ad vs ∨ SqL C.K H ad vs)→RepL C.K F ps vs→(match (match setAll Γ is ps with | some Γ'=>(.ok Γ':Res En) | none=>.bad) with
   | .ok Γ'=>∀ σ',Good C.K F0 H0 Γ' σ' F H→(∀ ws:List Nat,(∀ i∈is,i∈ws)→wipe σ' ws=wipe σ ws)→Q σ' H
   | _=>False)→gSeq C.K es.length t v σ H Q:=fun {ps ad vs} ev sq r3 hh=>by
  cases e:setAll Γ is ps with
  | none=>rw [e] at hh; exact hh.elim
  | some Γ' =>
   rw [e] at hh
   refine ⟨ad,vs,ev,sq,by rw [r3.len,setAll_len e,lt],qt Γ σ F0 H0 F H ps vs Q g r3 ?_⟩
   rw [e]
   exact hh
 obtain ⟨tg,q⟩:=x
 cases q with
 | tup ps =>
  obtain ⟨ad,vs,ev,s2,r3⟩:=rv_tup r
  exact go ev (.inl ((TupAt.sq (TupAt.mono g.ext.fh s2)))) r3 hh
 | lst ps =>
  unfold bindP seqP at hh
  simp only at hh
  by_cases f1:flat1 tg=true
  ·rw [if_pos f1] at hh
   obtain ⟨ad,vs,ev,s2,r3⟩:=rv_flat g.ext.fh r f1
   exact go ev (.inr s2) r3 hh
  ·rw [if_neg f1] at hh; exact hh.elim
 | _=>exact hh.elim
def ItOk(K:KK)(J:It)(fl:Bool)(items:List TV)(F1 H1:Hp):Prop:=(fl=true→∀ x∈items,∃ p,x=(.fz,p)) ∧
 ∀ i F H,Same F1 F→Same F H→Tups F H→(fl=false→Same H1 H)→(i < items.length→J.go i H)∧(i=items.length→J.stop i H)∧∀ x H',i < items.length→J.yld i H x H'→∃ it,items[i]? = some it∧∃ F',Ext F H F' H'∧∀ Hs,RV K F' H' Hs it x
def DI(C:Cn)(cm:Bool)(k:Nat)(N:List Str)(sc:Scope)(tg e:Expr)(E:IX):Prop:=∃ tb:WX→TI,(∀ X,Sta C cm k N sc X→∀ W,Takes X W→PI X tg e (tb W)) ∧
 ∀ W σ Γ F0 H0 F H (R:It→Hp→Prop),Good C.K F0 H0 Γ σ F H→(match E Γ with
  | .ok y=>∀ J F' H',Ext F H F' H'→ItOk C.K J y.1 y.2 F' H'→R J H'
  | .exc c=>∀ F' H',Ext F H F' H'→W (C.xc c) none σ H'
  | .bad=>False)→tb W σ H R
theorem itok_list{K:KK}{F H:Hp}{a:Addr}{l:List PV}{vs:List V}(s:SqL K F a vs)(r:RepL K F l vs):ItOk K (Itl K a) true (l.map fun p=>(.fz,p)) F H :=
 ⟨fun _ x hx=>by
  obtain ⟨p,_,rfl⟩:=List.mem_map.mp hx
  exact ⟨p,rfl⟩,fun i F1 H1 h e1 t1 _=>by
  have sq:SqL K H1 a vs:=e1.seq (h.seq s)
  refine ⟨fun hi=>?_,fun hi=>⟨vs,sq,by rw [r.len,hi,List.length_map]; exact Nat.le_refl _⟩,fun x H' hlt y=>?_⟩
  ·have hi':i < vs.length:=by rw [r.len]; simpa using hi
   exact ⟨vs,vs[i],sq,List.getElem?_eq_getElem hi'⟩
  ·obtain ⟨rfl,y⟩:=y
   obtain ⟨p,h2,h3⟩:=r.getV (y vs sq)
   exact ⟨(.fz,p),by rw [List.getElem?_map,h2]; rfl,F1,Ext.refl e1 t1,fun Hs=>.fz (h3.mono h _ _)⟩⟩
theorem itok_tup{K:KK}{F H:Hp}{a:Addr}{l:List PV}{vs:List V}(s:TupAt F a vs)(r:RepL K F l vs):ItOk K (Itt K a) true (l.map fun p=>(.fz,p)) F H :=
 ⟨fun _ x hx=>by
  obtain ⟨p,_,rfl⟩:=List.mem_map.mp hx
  exact ⟨p,rfl⟩,fun i F1 H1 h e1 t1 _=>by
  have sq:SqT K H1 a vs:=((s.mono h).mono e1).sq
  refine ⟨fun hi=>?_,fun hi=>⟨vs,sq,by rw [r.len,hi,List.length_map]; exact Nat.le_refl _⟩,fun x H' hlt y=>?_⟩
  ·have hi':i < vs.length:=by rw [r.len]; simpa using hi
   exact ⟨vs,vs[i],sq,List.getElem?_eq_getElem hi'⟩
  ·obtain ⟨rfl,y⟩:=y
   obtain ⟨p,h2,h3⟩:=r.getV (y vs sq)
   exact ⟨(.fz,p),by rw [List.getElem?_map,h2]; rfl,F1,Ext.refl e1 t1,fun Hs=>.fz (h3.mono h _ _)⟩⟩
theorem ItOk.weak{K:KK}{F H:Hp}{J:It}{items:List TV}(h:ItOk K J true items F H):ItOk K J false items F H :=
 ⟨fun z=>(by cases z),fun i F1 H1 a b c _=>h.2 i F1 H1 a b c fun z=>by cases z⟩
theorem itok_bw{K:KK}{F H:Hp}{d:Nat}{fp:List Addr}{l:List PV}{v:V}(hf:Same F H)(o:Own K F H d fp (.lst l) v):∃ a,v = .ref a∧(∃ vs,SqL K H a vs)∧ItOk K (Itl K a) false (l.map fun p=>(dn (.bw d),p)) F H:=by
 cases d with
 | zero =>
  have r:=o.2
  unfold Rep at r
  obtain ⟨a,vs,rfl,s,r⟩:=r
  exact ⟨a,rfl,⟨vs,hf.seq s⟩,(itok_list s r).weak⟩
 | succ d =>
  have o':=o
  obtain ⟨l',a,vs,fps,e0,rfl,h3,h4,h5⟩:=o'.lst
  cases e0
  have rr:=ownl_rep hf h5
  refine ⟨a,rfl,⟨vs,SqL.of h3⟩,fun z=>(by cases z),fun i F1 H1 hF e1 t1 hH=>?_⟩
  have hH:=hH rfl
  have sq1:SqL K H1 a vs:=SqL.of (hH _ _ h3)
  refine ⟨fun hi=>?_,fun hi=>⟨vs,sq1,by rw [rr.len,hi,List.length_map]; exact Nat.le_refl _⟩,fun x H' hlt y=>?_⟩
  ·have hi':i < vs.length:=by rw [rr.len]; simpa using hi
   exact ⟨vs,vs[i],sq1,List.getElem?_eq_getElem hi'⟩
  ·obtain ⟨rfl,y⟩:=y
   have ex:=y vs sq1
   obtain ⟨p,h6,h7⟩:=rr.getV ex
   obtain ⟨f,op⟩:=own_part h5 h6 ex
   refine ⟨(dn (.bw (d+1)),p),by rw [List.getElem?_map,h6]; rfl,F1,Ext.refl e1 t1,fun Hs=>?_⟩
   have op':=op.same hF hH
   cases d with
   | zero=>exact .fz op'.2
   | succ d=>exact ⟨[],f,op'⟩
end
end Vl
end
section
set_option Elab.async false
set_option linter.all false
set_option maxRecDepth 100000
set_option maxHeartbeats 1000000
namespace Vl
open PySem L2 Vm PyProof.Rows
section
variable {C:Cn} {cm:Bool} {k:Nat} {N:List Str} {sc so:Scope} {a b c e tg:Expr} {es:List Expr} {A B:EX} {As:EXs} {T U:TX} {pos p:Pos} {X:Cx} {x:Str}
theorem EOk.bindI{W:WX}{σ:L2.St}{F H:Hp}{R:It→Hp→Prop}{f:TV→Res (Bool×List TV)}{Q1:VK}{r:Res TV}(h:match r.bind f with
  | .ok y=>∀ J F' H',Ext F H F' H'→ItOk C.K J y.1 y.2 F' H'→R J H'
  | .exc c=>∀ F' H',Ext F H F' H'→W (C.xc c) none σ H'
  | .bad=>False)
  (q:∀ x v F1 H1,r = .ok x→Ext F H F1 H1→RV C.K F1 H1 H x v→(match f x with
  | .ok y=>∀ J F' H',Ext F H F' H'→ItOk C.K J y.1 y.2 F' H'→R J H'
  | .exc c=>∀ F' H',Ext F H F' H'→W (C.xc c) none σ H'
  | .bad=>False)→Q1 v H1):EOk C W σ F H Q1 r:=by
 cases r with
 | ok x=>exact fun v F' H' e rv=>q x v F' H' rfl e rv h
 | exc c=>exact h
 | bad=>exact h
theorem itok_str{K:KK}{F H:Hp}{l:List Nat}(hg:strG l=true):ItOk K (Its ⟨l.toArray⟩) true (l.map fun c=>(.fz,.str [c])) F H:=by
 refine ⟨fun _ x hx=>?_,fun i F1 H1 _ e1 t1 _=>⟨fun h=>by simpa [Its] using h,fun h=>by rw [h]; simp [Its],fun x H' hlt y=>?_⟩⟩
 ·obtain ⟨p,_,rfl⟩:=List.mem_map.mp hx
  exact ⟨_,rfl⟩
 ·obtain ⟨rfl,c,hc,rfl⟩:=y
  have hc:l[i]? = some c:=by simpa using hc
  refine ⟨(.fz,.str [c]),by rw [List.getElem?_map,hc]; rfl,F1,Ext.refl e1 t1,fun Hs=>.fz (rep_str ?_)⟩
  unfold strG at hg
  rw [Bool.and_eq_true] at hg
  have h2:=List.all_eq_true.mp hg.2 c (List.mem_of_getElem? hc)
  show (decide (1≤16777216) && (decide (c < 1114112) && true))=true
  rw [h2]
  rfl
theorem di_seq(ha:DE C cm k N sc a A):DI C cm k N sc tg a (jSeq A):=by
 obtain ⟨ta,pa,qa⟩:=ha
 refine ⟨fun W=>fun σ H R=>ta W σ H fun x H1=>(∃ z,x = .str z∧R (Its z) H1) ∨ ∃ a,x = .ref a∧((∃ xs,SqL C.K H1 a xs)∧R (Itl C.K a) H1 ∨ (∃ xs,SqT C.K H1 a xs)∧R (Itt C.K a) H1),fun X S W T=>?_,fun W σ Γ F0 H0 F H R g h=>?_⟩
 ·rw [← S.K]
  refine ⟨fun pins s σ H R I h=>?_⟩
  refine thn ((pa X S W T).run pins s σ H _ I h) fun v s1 ⟨x,H1,I1,r1,q1⟩=>?_
  rcases q1 with ⟨x,ez,q⟩ | ⟨a,e,q1⟩
  ·subst ez
   obtain ⟨t,rfl⟩:=r1
   cases ha:x.cps.all (· < 128)
   ·exact wpAny_pyIter_wide ha (pi_one (tk:=s1.toks) I1 _ (turn_str _ x t "str_iterator" (.inr rfl)) ⟨_,Heap.get?_push_size _ rfl,rfl,rfl⟩ q)
   ·exact wpAny_pyIter_ascii ha (pi_one (tk:=s1.toks) I1 _ (turn_str _ x t "str_ascii_iterator" (.inl rfl)) ⟨_,Heap.get?_push_size _ rfl,rfl,rfl⟩ q)
  ·subst e
   cases r1
   rcases q1 with ⟨⟨xs,hq⟩,q⟩ | ⟨⟨xs,hq⟩,q⟩
   ·obtain ⟨its,rv,p,hz⟩:=I1.list hq
    refine wpAny_pyIter_list p.isList ?_
    refine ⟨s1.heap.objs.size,[s1.heap.objs.size],_,_,H1,rfl,I1.kept (t':=s1.toks) fun b o e=>Heap.get?_push_of_some _ e,turn_list a _,⟨_,Heap.get?_push_size _ rfl,rfl,rfl⟩,fun b hb=>?_,q⟩
    have e:b=s1.heap.objs.size:=by simpa using hb
    subst e
    exact I1.fpOk (Nat.le_refl _) (I1.hok.fresh (Nat.le_refl _))
   ·obtain ⟨its,rv,p,hz⟩:=I1.tuple hq
    refine wpAny_pyIter_tuple (show s1.heap.IsTuple a its.toArray from p) ?_
    refine ⟨s1.heap.objs.size,[s1.heap.objs.size],_,_,H1,rfl,I1.kept (t':=s1.toks) fun b o e=>Heap.get?_push_of_some _ e,turn_tuple a _,⟨_,Heap.get?_push_size _ rfl,rfl,rfl⟩,fun b hb=>?_,q⟩
    have e:b=s1.heap.objs.size:=by simpa using hb
    subst e
    exact I1.fpOk (Nat.le_refl _) (I1.hok.fresh (Nat.le_refl _))
 ·refine qa W σ Γ F0 H0 F H _ g (EOk.bindI h fun x v F1 H1 ex e1 r1 h1=>?_)
  obtain ⟨t,q⟩:=x
  cases q with
  | lst l =>
   cases t with
   | fz =>
    have r:=r1.ofFz
    unfold Rep at r
    obtain ⟨ad,vs,rfl,s2,r3⟩:=r
    exact .inr ⟨ad,rfl,.inl ⟨⟨vs,e1.fh.seq s2⟩,h1 _ F1 H1 e1 (itok_list s2 r3)⟩⟩
   | bw d =>
    obtain ⟨_,fp,o⟩:=r1
    obtain ⟨ad,rfl,sq,it⟩:=itok_bw e1.fh o
    exact .inr ⟨ad,rfl,.inl ⟨sq,h1 _ F1 H1 e1 it⟩⟩
   | ow d =>
    obtain ⟨fp,o⟩:=r1
    obtain ⟨F2,e2,s2,r2,_⟩:=RVf.put (x:=(.ow d,.lst l)) e1 o rfl
    unfold Rep at r2
    obtain ⟨ad,vs,rfl,s3,r3⟩:=r2
    exact .inr ⟨ad,rfl,.inl ⟨⟨vs,e2.fh.seq s3⟩,h1 _ F2 H1 e2 (itok_list s3 r3)⟩⟩
  | tup l =>
   obtain ⟨ad,vs,rfl,s2,r3⟩:=rv_tup r1
   exact .inr ⟨ad,rfl,.inr ⟨⟨vs,(TupAt.sq (TupAt.mono e1.fh s2))⟩,h1 _ F1 H1 e1 (itok_tup s2 r3)⟩⟩
  | str l =>
   have r:=r1.rep e1.fh
   unfold Rep at r
   obtain ⟨rfl,hg⟩:=r
   exact .inl ⟨_,rfl,h1 _ F1 H1 e1 (itok_str hg)⟩
  | _=>exact h1.elim
theorem itok_range{K:KK}{F H:Hp}(lo hi:Int):ItOk K (Itr lo (hi - lo).toNat) true ((rngL lo hi).map fun p=>(.fz,p)) F H:=by
 have hl:((rngL lo hi).map fun p=>((.fz,p):TV)).length=(hi - lo).toNat:=by simp [rngL]
 refine ⟨fun _ x hx=>?_,fun i F1 H1 _ e1 t1 _=>⟨fun h=>by rw [hl] at h; exact h,fun h=>by rw [hl] at h; rw [h]; exact Nat.le_refl _,fun x H' hlt y=>?_⟩⟩
 ·obtain ⟨p,_,rfl⟩:=List.mem_map.mp hx
  exact ⟨p,rfl⟩
 ·obtain ⟨rfl,rfl⟩:=y
  rw [hl] at hlt
  refine ⟨(.fz,.int (lo+i)),?_,F1,Ext.refl e1 t1,fun Hs=>.fz rep_int⟩
  simp [rngL,hlt]
theorem di_range (ha:DE C cm k N sc a A) (mx:C.mg "range" = none) (hg:sc.names.lookup ("range":Str)=some .globalImplicit:=by rfl)
  (hst:∀ env:PySem.Env,starEach [a] env=[(false,eval a env)]:=by intro _; rfl):DI C cm k N sc tg (.Call (.Name "range" p) [a] [] pos) (jRange A):=by
 obtain ⟨ta,pa,qa⟩:=ha
 refine ⟨fun W=>iRng1 (tCons (ta W) tNil),fun X S W T=>pi_range1 (S.gl hg) (by rw [S.mg]; exact mx) (pa_cons (pa X S W T) pa_nil (hst _)) (hst _),fun W σ Γ F0 H0 F H R g h=>?_⟩
 refine qa W σ Γ F0 H0 F H _ g (EOk.bindI h fun x v F1 H1 ex e1 r1 h1=>?_)
 have r:=r1.rep e1.fh
 obtain ⟨t,q⟩:=x
 cases q with
 | int n =>
  unfold Rep at r
  subst r
  by_cases hn:rngOk n=true
  ·have h2:(match (if rngOk n then (.ok (true,(rngL 0 n).map fun p=>(.fz,p)):Res (Bool×List TV)) else .bad) with
    | .ok y=>∀ J F' H',Ext F H F' H'→ItOk C.K J y.1 y.2 F' H'→R J H'
    | .exc c=>∀ F' H',Ext F H F' H'→W (C.xc c) none σ H'
    | .bad=>False):=h1
   rw [if_pos hn] at h2
   have hn2:=rngOk_iff.mp hn
   refine ⟨n,rfl,hn2.1,hn2.2,?_⟩
   have:=h2 (Itr 0 (n - 0).toNat) F1 H1 e1 (itok_range 0 n)
   simpa using this
  ·have h2:(match (if rngOk n then (.ok (true,(rngL 0 n).map fun p=>(.fz,p)):Res (Bool×List TV)) else .bad) with
    | .ok y=>∀ J F' H',Ext F H F' H'→ItOk C.K J y.1 y.2 F' H'→R J H'
    | .exc c=>∀ F' H',Ext F H F' H'→W (C.xc c) none σ H'
    | .bad=>False):=h1
   rw [if_neg hn] at h2
   exact h2.elim
 | _=>exact h1.elim
theorem di_range2 (ha:DE C cm k N sc a A) (hb:DE C cm k N sc b B) (mx:C.mg "range" = none) (hg:sc.names.lookup ("range":Str)=some .globalImplicit:=by rfl)
  (hst:∀ env:PySem.Env,starEach [a,b] env=[(false,eval a env),(false,eval b env)]:=by intro _; rfl) (hst2:∀ env:PySem.Env,starEach [b] env=[(false,eval b env)]:=by intro _; rfl):DI C cm k N sc tg (.Call (.Name "range" p) [a,b] [] pos) (jRange2 A B):=by
 obtain ⟨ta,pa,qa⟩:=ha
 obtain ⟨tb,pb,qb⟩:=hb
 refine ⟨fun W=>iRng2 (tCons (ta W) (tCons (tb W) tNil)),fun X S W T=>pi_range2 (S.gl hg) (by rw [S.mg]; exact mx) (pa_cons (pa X S W T) (pa_cons (pb X S W T) pa_nil (hst2 _)) (by rw [hst,hst2])) (hst _) (hst2 _),fun W σ Γ F0 H0 F H R g h=>?_⟩
 unfold jRange2 at h
 refine qa W σ Γ F0 H0 F H _ g (EOk.bindI h fun x v F1 H1 ex e1 r1 h1=>?_)
 have h1':match (B Γ).bind fun y=>(match x.2,y.2 with
  | .int m,.int n=>if rngOk m && rngOk n then (.ok (true,(rngL m n).map fun p=>(.fz,p)):Res (Bool×List TV)) else .bad
  | _,_=>.bad) with
   | .ok y=>∀ J F' H',Ext F1 H1 F' H'→ItOk C.K J y.1 y.2 F' H'→R J H'
   | .exc c=>∀ F' H',Ext F1 H1 F' H'→W (C.xc c) none σ H'
   | .bad=>False:=by
  revert h1
  generalize (B Γ).bind _=r
  intro h1
  cases r with
  | ok y=>exact fun J F' H' e'=>h1 J F' H' (e1.trans e')
  | exc c=>exact fun F' H' e'=>h1 F' H' (e1.trans e')
  | bad=>exact h1
 refine qb W σ Γ F0 H0 F1 H1 _ (g.next e1) (EOk.bindI h1' fun y u F2 H2 ey e2 r2 h2=>?_)
 have rx:=(r1.ext e2).rep e2.fh
 have ry:=r2.rep e2.fh
 obtain ⟨t,q⟩:=x
 obtain ⟨t',q'⟩:=y
 cases q with
 | int m =>
  cases q' with
  | int n =>
   unfold Rep at rx ry
   subst rx ry
   simp only at h2
   by_cases hn:(rngOk m && rngOk n)=true
   ·rw [if_pos hn] at h2
    rw [Bool.and_eq_true] at hn
    have h3:=rngOk_iff.mp hn.1
    have h4:=rngOk_iff.mp hn.2
    exact ⟨m,n,rfl,⟨h3.1,h3.2,h4.1,h4.2⟩,h2 (Itr m (n - m).toNat) F2 H2 e2 (itok_range m n)⟩
   ·rw [if_neg hn] at h2
    exact h2.elim
  | _=>exact h2.elim
 | _=>exact h2.elim
def DF(C:Cn)(cm:Bool)(k:Nat)(N:List Str)(sc:Scope)(ifs:List Expr)(E:TX):Prop:=∃ tb:WX→TT,(∀ X,Sta C cm k N sc X→∀ W,Takes X W→PTs X ifs (tb W)) ∧
 ∀ W σ Γ F0 H0 F H Q,Good C.K F0 H0 Γ σ F H→TOk C W σ F H Q (E Γ)→tb W σ H Q
theorem df_nil:DF C cm k N sc [] xYes:=⟨fun _=>L2.tYes,fun _ _ _ _=>pts_nil,fun W σ Γ F0 H0 F H Q g h=>h F H g.here⟩
theorem df_one(h:DT C cm k N sc c T):DF C cm k N sc [c] T:=by
 obtain ⟨tb,pb,qb⟩:=h
 exact ⟨tb,fun X S W T=>pts_one (pb X S W T),qb⟩
theorem wipe_idem{σ:L2.St}:∀ {us:List Nat} (vs:List Nat),(∀ u∈us,u∈vs)→wipe (wipe σ us) vs=wipe σ vs
 | [],vs,_=>rfl
 | u :: us,vs,h=>by
  show wipe ((wipe σ us).set u none) vs=_
  rw [wipe_set_in (h u (by simp)),wipe_idem vs fun w hw=>h w (by simp [hw])]
theorem sta_blk(S:Sta C cm k N sc X){s:Shared}{H:Hp}{scope:Scope}{Ca:Addr}{cl:List (Str×Addr)}{fp:List Addr}:Sta C cm k N (relS scope sc) (X.blk s H scope (compEnvC scope cl Ca X.env) fp):=by
 have hs:=S.s
 subst hs
 exact ⟨S.cn,S.n,rfl,S.nd,S.c,S.r,S.u⟩
theorem req_blk{s:Shared}{H:Hp}{scope:Scope}{env:PySem.Env}{fp:List Addr}:FnReq scope (X.blk s H scope env fp):=fun x h=>by
 show (scope.names.lookup x == some .cell)=true
 rw [h]; rfl
theorem lcGo_cons{Γ:En}{pat:Pat}{c:TX}{e:EX}{x:TV}{xs:List TV}{ps:List PV}(h:lcGo Γ pat c e (x :: xs) = .ok ps):∃ Γ' b,bindP Γ x pat = .ok Γ'∧c Γ' = .ok b ∧
  (b=true→∃ y p r,e Γ' = .ok y∧putV y = .ok p∧lcGo Γ pat c e xs = .ok r∧ps=p :: r)∧(b=false→lcGo Γ pat c e xs = .ok ps):=by
 unfold lcGo at h
 cases h1:bindP Γ x pat with
 | ok Γ' =>
  rw [h1,bind_ok] at h
  cases h2:c Γ' with
  | ok b =>
   rw [h2,bind_ok] at h
   refine ⟨Γ',b,rfl,h2,fun hb=>?_,fun hb=>?_⟩
   ·rw [if_pos hb] at h
    cases h3:e Γ' with
    | ok y =>
     rw [h3,bind_ok] at h
     cases h4:putV y with
     | ok p =>
      rw [h4,bind_ok] at h
      cases h5:lcGo Γ pat c e xs with
      | ok r=>rw [h5,bind_ok] at h; cases h; exact ⟨y,p,r,rfl,h4,rfl,rfl⟩
      | exc _=>rw [h5] at h; cases h
      | bad=>rw [h5] at h; cases h
     | exc _=>rw [h4] at h; cases h
     | bad=>rw [h4] at h; cases h
    | exc _=>rw [h3] at h; cases h
    | bad=>rw [h3] at h; cases h
   ·rw [hb] at h
    exact h
  | exc _=>rw [h2] at h; cases h
  | bad=>rw [h2] at h; cases h
 | exc _=>rw [h1] at h; cases h
 | bad=>rw [h1] at h; cases h
variable {elt iter:Expr} {ifs:List Expr} {scope:Scope} {own:List (Str×Nat)} {I:IX} {pat:Pat}
theorem lc_reads{wi:TI}{g:TG}{tt:TT}{te:TE}{ow:List Nat}{W:WX}{σ:L2.St}{Γ:En}{F0 H0 F H:Hp}{Q:VK}(gd:Good C.K F0 H0 Γ σ F H)
  (qi:∀ (R:It→Hp→Prop),(match I Γ with
   | .ok y=>∀ J F' H',Ext F H F' H'→ItOk C.K J y.1 y.2 F' H'→R J H'
   | .exc c=>∀ F' H',Ext F H F' H'→W (C.xc c) none σ H'
   | .bad=>False)→wi σ H R)
  (qg:∀ Γ σ F0 H0 F H x v Hs Q,Good C.K F0 H0 Γ σ F H→RV C.K F H Hs x v→(match bindP Γ x pat with
   | .ok Γ'=>∀ σ',Good C.K F0 H0 Γ' σ' F H→(∀ ws:List Nat,(∀ i∈pat.slots,i∈ws)→wipe σ' ws=wipe σ ws)→Q σ' H
   | _=>False)→g v σ H Q)
  (qt:∀ σ Γ F0 H0 F H Q,Good C.K F0 H0 Γ σ F H→TOk C (fun _ _ _ _=>False) σ F H Q (T Γ)→tt σ H Q)
  (qe:∀ σ Γ F0 H0 F H Q,Good C.K F0 H0 Γ σ F H→EOk C (fun _ _ _ _=>False) σ F H Q (A Γ)→te σ H Q)
  (hsl:∀ i∈pat.slots,i∈ow)(h:EOk C W σ F H Q (eLC ow I pat T A Γ)):tLc wi g tt te ow σ H Q:=by
 refine qi _ ?_
 unfold eLC at h
 cases ei:I Γ with
 | exc c=>rw [ei] at h; exact h
 | bad=>rw [ei] at h; exact h
 | ok y =>
  rw [ei,bind_ok] at h
  intro J F1 H1 e1 it D hD
  cases el:lcGo (wipeE Γ ow) pat T A y.2 with
  | exc c=>rw [el] at h; exact h.elim
  | bad=>rw [el] at h; exact h.elim
  | ok ps =>
   rw [el] at h
   simp only [noExc,bind_ok] at h
   by_cases hz:ps.length≤16777216
   ·rw [if_pos hz] at h
    refine ⟨fun i m H'=>m=y.2.length - i∧i≤y.2.length∧∃ F' acc vs rest,Ext F1 H1 F' H'∧F' D=none∧H' D=some (.lst vs)∧RepL C.K F' acc vs∧lcGo (wipeE Γ ow) pat T A (y.2.drop i) = .ok rest∧acc++rest=ps,?_,?_⟩
    ·exact ⟨_,rfl,Nat.zero_le _,F1,[],[],ps,Ext.lst e1.fh e1.tp hD,e1.fh.free hD,upd_same,RepL.nil,el,rfl⟩
    ·rintro i m H' ⟨rfl,hi,F',acc,vs,rest,e2,fD,hD',ra,hr,happ⟩
     obtain ⟨i1,i2,i3⟩:=it.2 i F' H' e2.ff e2.fh e2.tp (fun _=>e2.hh)
     by_cases hlt:i < y.2.length
     ·refine .inr ⟨i1 hlt,fun H''=>∃ F'' acc vs rest,Ext F1 H1 F'' H''∧F'' D=none∧H'' D=some (.lst vs)∧RepL C.K F'' acc vs∧lcGo (wipeE Γ ow) pat T A (y.2.drop (i+1)) = .ok rest∧acc++rest=ps,fun H'' hN=>⟨y.2.length - (i+1),by omega,rfl,hlt,hN⟩,fun x H2 hy=>?_⟩
      obtain ⟨itm,hit,F2,e3,rx⟩:=i3 x H2 hlt hy
      have hd:y.2.drop i=itm :: y.2.drop (i+1):=by
       rw [List.drop_eq_getElem_cons hlt]
       rw [List.getElem?_eq_getElem hlt] at hit
       cases hit
       rfl
      rw [hd] at hr
      obtain ⟨Γ',b,h1,h2,h3,h4⟩:=lcGo_cons hr
      have eall:=e1.trans (e2.trans e3)
      have g2:=(gd.next eall).wipe ow
      refine qg _ _ F0 H0 F2 H2 itm x H2 _ g2 (rx H2) ?_
      rw [h1]
      intro σ2 g3 w3
      refine ⟨by rw [w3 ow hsl]; exact wipe_idem ow fun _ z=>z,?_⟩
      refine qt σ2 Γ' F0 H0 F2 H2 _ g3 ?_
      rw [h2]
      intro F3 H3 e4
      have keepD:∀ {Fx Hx:Hp},Ext F' H' Fx Hx→Fx D=none∧Hx D=some (.lst vs):=fun {Fx Hx} ee=>by
       refine ⟨?_,ee.hh _ _ hD'⟩
       cases q:Fx D with
       | none=>rfl
       | some o =>
        rcases ee.nw D (by rw [q]; simp) with z | z
        ·exact (z fD).elim
        ·rw [hD'] at z; cases z
      cases b with
      | true =>
       rw [if_pos rfl]
       obtain ⟨yy,p,r,h5,h6,h7,h8⟩:=h3 rfl
       refine qe σ2 Γ' F0 H0 F3 H3 _ (g3.next e4) ?_
       rw [h5]
       intro v F4 H4 e5 rv
       obtain ⟨F5,e6,rp⟩:=rv.put e5 h6
       have ef:=e3.trans (e4.trans e6)
       obtain ⟨k1,k2⟩:=keepD ef
       subst h8
       refine ⟨vs,k2,?_,F5,acc++[p],vs++[v],r,?_,k1,upd_same,(ra.mono ef.ff _ _).append (RepL.cons rp RepL.nil),h7,by rw [← happ]; simp⟩
       ·have:=congrArg List.length happ
        rw [List.length_append,List.length_cons] at this
        rw [ra.len,← szL_eq]
        omega
       ·have eu:=e2.trans ef
        refine ⟨eu.ff,fun a o z=>?_,fun a o z=>?_,tups_new eu.tp (fun _ z=>by cases z) k1,eu.nw⟩
        ·rw [upd_ne (ne_of_none z hD)]; exact eu.hh _ _ z
        ·rw [upd_ne (ne_of_none z k1)]; exact eu.fh _ _ z
      | false =>
       rw [if_neg Bool.false_ne_true]
       have ef:=e3.trans e4
       obtain ⟨k1,k2⟩:=keepD ef
       exact ⟨F3,acc,vs,rest,e2.trans ef,k1,k2,ra.mono ef.ff _ _,h4 rfl,happ⟩
     ·have ein:i=y.2.length:=by omega
      refine .inl ⟨i2 (by omega),?_⟩
      rw [List.drop_eq_nil_of_le (by omega)] at hr
      cases hr
      rw [List.append_nil] at happ
      subst happ
      exact h _ F' H' (e1.trans e2) (rv_new ra hD' fD (e1.hh.free hD))
   ·rw [if_neg hz] at h; exact h.elim
theorem takesF{X:Cx}:Takes X (fun _ _ _ _=>False):=takes0
theorem de_lc{pos:Pos}(hi:DI C true k N sc tg iter I)(ok:blkC N sc scope own=true)(hg:DG C true k N (relS scope sc) scope tg pat)(ht:DF C true k N (relS scope sc) ifs T)(he:DE C true k N (relS scope sc) elt A)
  (hs:∀ (env:PySem.Env) x,foldedSetIterable iter env x=pure x:=by intro _ _; rfl)(hsl:∀ i∈pat.slots,i∈own.map (·.2):=by decide):DE C true k N sc (.ListComp elt [⟨tg,iter,ifs,0⟩] scope pos) (eLC (own.map (·.2)) I pat T A):=by
 obtain ⟨ti,pi,qi⟩:=hi
 obtain ⟨g,pg,qg⟩:=hg
 obtain ⟨tt,pt,qt⟩:=ht
 obtain ⟨te,pe,qe⟩:=he
 refine ⟨fun W=>tLc (ti W) g (tt fun _ _ _ _=>False) (te fun _ _ _ _=>False) (own.map (·.2)),fun X S W Tk=>?_,fun W σ Γ F0 H0 F H Q gd h=>?_⟩
 ·exact pe_lc (S.c rfl) (by rw [S.n]; exact S.nd) (pi X S W Tk) (blkOk_by (by rw [S.n,S.s]; exact ok)) (fun s H Ca cl fp=>pg _ (sta_blk S) req_blk) (fun s H Ca cl fp=>pt _ (sta_blk S) _ takesF) (fun s H Ca cl fp=>pe _ (sta_blk S) _ takesF) (hs _)
 ·exact lc_reads gd (fun R=>qi W σ Γ F0 H0 F H R gd) qg (qt _) (qe _) hsl h
end
end Vl
end
section
set_option Elab.async false
set_option linter.all false
set_option maxRecDepth 100000
set_option maxHeartbeats 1000000
namespace Vl
open PySem L2 Vm PyProof.Rows
structure GoodS (K:KK) (F0 H0:Hp) (Γ:En) (σ:L2.St) (F H:Hp):Prop extends Good K F0 H0 Γ σ F H where
 nb:NoBw Γ
structure StaS (C:Cn) (cm:Bool) (k:Nat) (N:List Str) (sc:Scope) (X:Cx):Prop extends Sta C cm k N sc X where
 po:PassesOwn (model X.prog X.w) X.A X.env X.xe
 rq:FnReq sc X
 sk:X.stack=X.env :: X.outer
 fr:X.env.frame=some X.env.locals
def OutOk(C:Cn)(W:WX)(F0 H0:Hp)(D:Ends):Out→Prop
 | .nx Γ=>∀ σ F H,GoodS C.K F0 H0 Γ σ F H→D.nx σ H
 | .rt t p _=>∀ v F H,Ext F0 H0 F H→RV C.K F H H0 (t,p) v→D.rt v H
 | .bk Γ=>∀ σ F H,GoodS C.K F0 H0 Γ σ F H→D.bk σ H
 | .ct Γ=>∀ σ F H,GoodS C.K F0 H0 Γ σ F H→D.ct σ H
 | .exc c Γ=>∀ σ F H,GoodS C.K F0 H0 Γ σ F H→W (C.xc c) none σ H
 | .bad=>False
def DS(C:Cn)(cm:Bool)(k:Nat)(N:List Str)(sc:Scope)(st:Stmt)(d:ST):Prop:=∃ tb:WX→TS,(∀ X,StaS C cm k N sc X→∀ W,Takes X W→PS X st (tb W)) ∧
 ∀ W D σ Γ F0 H0 F H,GoodS C.K F0 H0 Γ σ F H→OutOk C W F0 H0 D (d Γ)→tb W D σ H
def DSs(C:Cn)(cm:Bool)(k:Nat)(N:List Str)(sc:Scope)(st:List Stmt)(d:ST):Prop:=∃ tb:WX→TS,(∀ X,StaS C cm k N sc X→∀ W,Takes X W→PSs X st (tb W)) ∧
 ∀ W D σ Γ F0 H0 F H,GoodS C.K F0 H0 Γ σ F H→OutOk C W F0 H0 D (d Γ)→tb W D σ H
section
variable {C:Cn} {cm:Bool} {k:Nat} {N:List Str} {sc so:Scope} {a b c e tg:Expr} {es:List Expr} {A B:EX} {As:EXs} {T U:TX} {pos p:Pos} {X:Cx} {x:Str} {st:Stmt} {sts:List Stmt} {d d':ST}
variable {F0 H0 F H F1 H1:Hp} {Γ:En} {σ:L2.St} {W:WX} {D:Ends}
theorem GoodS.next(g:GoodS C.K F0 H0 Γ σ F H)(e:Ext F H F1 H1):GoodS C.K F0 H0 Γ σ F1 H1:=⟨g.toGood.next e,g.nb⟩
theorem OutOk.bind{f:TV→Out}{Q1:VK}{r:Res TV}(g:GoodS C.K F0 H0 Γ σ F H)(h:OutOk C W F0 H0 D (aft r Γ f))
  (q:∀ x v F1 H1,r = .ok x→Ext F H F1 H1→RV C.K F1 H1 H x v→OutOk C W F0 H0 D (f x)→Q1 v H1):EOk C W σ F H Q1 r:=by
 cases r with
 | ok x=>exact fun v F' H' e rv=>q x v F' H' rfl e rv h
 | exc c=>exact fun F' H' e=>h σ F' H' (g.next e)
 | bad=>exact h
theorem OutOk.bindT{f:Bool→Out}{Q1:Bool→Hp→Prop}{r:Res Bool}(g:GoodS C.K F0 H0 Γ σ F H)(h:OutOk C W F0 H0 D (aft r Γ f))
  (q:∀ x F1 H1,r = .ok x→Ext F H F1 H1→OutOk C W F0 H0 D (f x)→Q1 x H1):TOk C W σ F H Q1 r:=by
 cases r with
 | ok x=>exact fun F' H' e=>q x F' H' rfl e h
 | exc c=>exact fun F' H' e=>h σ F' H' (g.next e)
 | bad=>exact h
theorem ds_nil:DSs C cm k N sc [] dNil:=⟨fun _=>tNext,fun _ _ _ _=>pss_nil,fun W D σ Γ F0 H0 F H g h=>h σ F H g⟩
theorem ds_one(h:DS C cm k N sc st d):DSs C cm k N sc [st] d:=by
 obtain ⟨tb,pb,qb⟩:=h
 exact ⟨tb,fun X S W T=>pss_one (pb X S W T),qb⟩
theorem ds_cons(h1:DS C cm k N sc st d)(h2:DSs C cm k N sc sts d'):DSs C cm k N sc (st :: sts) (dSeq d d'):=by
 obtain ⟨ta,pa,qa⟩:=h1
 obtain ⟨tb,pb,qb⟩:=h2
 refine ⟨fun W=>tSeq (ta W) (tb W),fun X S W T=>pss_cons (pa X S W T) (pb X S W T),fun W D σ Γ F0 H0 F H g h=>?_⟩
 refine qa W _ σ Γ F0 H0 F H g ?_
 unfold dSeq at h
 cases e:d Γ with
 | nx Γ'=>rw [e] at h; exact fun σ' F' H' g'=>qb W D σ' Γ' F0 H0 F' H' g' h
 | rt t p Γr=>rw [e] at h; exact h
 | bk Γ'=>rw [e] at h; exact h
 | ct Γ'=>rw [e] at h; exact h
 | exc c Γ'=>rw [e] at h; exact h
 | bad=>rw [e] at h; exact h
theorem good_frz{i:Nat}{d:Nat}{p:PV}(g:GoodS C.K F0 H0 Γ σ F H)(e:Γ.get i=some (.ow d,p)):∃ F',GoodS C.K F0 H0 (Γ.set i (some (.fz,p))) σ F' H∧Same F F':=by
 obtain ⟨fp,h1,h2⟩:=g.slots
 obtain ⟨v,hv,hr⟩:=h1 i _ e
 obtain ⟨o,nd,fr⟩:=hr
 have hi:i < Γ.length:=by
  cases Nat.lt_or_ge i Γ.length with
  | inl h=>exact h
  | inr h =>
   have:Γ.get i=none:=by unfold En.get; simp [List.getD,List.getElem?_eq_none h]
   rw [this] at e; cases e
 have sF:Same F (frzF F H (fp i)):=frzF_same fun a ha=>(fr a ha).1
 refine ⟨frzF F H (fp i),⟨⟨g.ext.frz fun a ha=>fr a ha,by rw [List.length_set]; exact g.len,fp,fun j y hy=>?_,h2⟩,fun j dd pp hj=>?_⟩,sF⟩
 ·rw [get_set] at hy
  by_cases hj:j=i
  ·subst hj
   rw [if_pos ⟨rfl,hi⟩] at hy
   cases hy
   exact ⟨v,hv,o.frz g.ext.fh (fun a ha=>(fr a ha).1) fun a ha=>ha⟩
  ·rw [if_neg fun z=>hj z.1] at hy
   obtain ⟨u,h3,h4⟩:=h1 j y hy
   refine ⟨u,h3,?_⟩
   obtain ⟨t,q⟩:=y
   cases t with
   | fz=>exact Rep.mono sF _ _ h4
   | bw d=>obtain ⟨f,z⟩:=h4; exact ⟨f,z.same sF (Same.refl _)⟩
   | ow d =>
    obtain ⟨z1,z2,z3⟩:=h4
    refine ⟨z1.same sF (Same.refl _),z2,fun a ha=>⟨?_,(z3 a ha).2⟩⟩
    unfold frzF
    rw [if_neg fun z=>h2 i j a (Ne.symm hj) z ha]
    exact (z3 a ha).1
 ·rw [get_set] at hj
  split at hj
  ·cases hj
  ·exact g.nb j dd pp hj
theorem ds_frz(i:Nat)(h:DSs C cm k N sc sts d):DSs C cm k N sc sts (dFrz i d):=by
 obtain ⟨tb,pb,qb⟩:=h
 refine ⟨tb,pb,fun W D σ Γ F0 H0 F H g h=>?_⟩
 unfold dFrz at h
 cases e:Γ.get i with
 | none=>rw [e] at h; exact h.elim
 | some x =>
  obtain ⟨t,p⟩:=x
  rw [e] at h
  cases t with
  | fz=>exact qb W D σ Γ F0 H0 F H g h
  | bw d=>exact h.elim
  | ow d =>
   obtain ⟨F',g',_⟩:=good_frz g e
   exact qb W D σ _ F0 H0 F' H g' h
theorem GoodS.forget(g:GoodS C.K F0 H0 Γ σ F H)(vs:List Nat):GoodS C.K F0 H0 (wipeE Γ vs) σ F H :=
 ⟨g.toGood.forget vs,fun i d p h=>g.nb i d p (wipe_get h).1⟩
theorem nb_set{i:Nat}{x:TV}(h:NoBw Γ)(hx:∀ d p,x ≠ (.bw d,p)):NoBw (Γ.set i (some x)):=fun j d p hj=>by
 rw [get_set] at hj
 split at hj
 ·cases hj; exact hx d p rfl
 ·exact h j d p hj
theorem GoodS.setF(g:GoodS C.K F0 H0 Γ σ F H)(i:Nat){p:PV}{v:V}(h:Rep C.K F p v):GoodS C.K F0 H0 (Γ.set i (some (.fz,p))) (σ.set i (some v)) F H :=
 ⟨g.toGood.setF i (x:=(.fz,p)) h,nb_set g.nb fun d p h=>by cases h⟩
theorem GoodS.setO(g:GoodS C.K F0 H0 Γ σ F H)(i:Nat){d:Nat}{p:PV}{v:V}(e:Ext F H F1 H1)(h:RV C.K F1 H1 H (.ow d,p) v):GoodS C.K F0 H0 (Γ.set i (some (.ow d,p))) (σ.set i (some v)) F1 H1:=by
 obtain ⟨f,o,nd,fr⟩:=h
 refine ⟨(g.toGood.next e).set i (f:=f) ⟨o,nd,fun a ha=>⟨(fr a ha).1,g.ext.hh.free (fr a ha).2⟩⟩ fun fp h1 h2=>?_,nb_set g.nb fun d p h=>by cases h⟩
 obtain ⟨fq,k1,k2⟩:=g.slots
 refine ⟨fun j=>if j=i then f else match Γ.get j with
  | some (.ow _,_)=>fq j
  | _=>[],fun j y hy hj=>?_,fun i' j a hij ha hb=>?_,if_pos rfl⟩
 ·obtain ⟨v',h3,h4⟩:=k1 j y hy
  refine ⟨v',h3,?_⟩
  simp only
  rw [if_neg hj,hy]
  obtain ⟨t,q⟩:=y
  cases t with
  | fz=>exact h4.ext e
  | bw d=>exact h4.ext e
  | ow d=>exact h4.ext e
 ·have old:∀ j',a∈(match Γ.get j' with | some (.ow _,_)=>fq j' | _=>[])→a∈fq j'∧H a ≠ none:=fun j' hm=>by
   cases q:Γ.get j' with
   | none=>rw [q] at hm; simp at hm
   | some y =>
    obtain ⟨t,pp⟩:=y
    rw [q] at hm
    cases t with
    | fz=>simp at hm
    | bw _=>simp at hm
    | ow dd =>
     obtain ⟨v',_,h4⟩:=k1 j' _ q
     refine ⟨hm,?_⟩
     obtain ⟨ws,z,_⟩:=h4.1.there dd a hm
     rw [z]; simp
  simp only at ha hb
  by_cases h1':i'=i
  ·rw [if_pos h1'] at ha
   rw [if_neg (fun z=>hij (h1'.trans z.symm))] at hb
   exact (old j hb).2 (fr a ha).2
  ·rw [if_neg h1'] at ha
   by_cases h2':j=i
   ·rw [if_pos h2'] at hb
    exact (old i' ha).2 (fr a hb).2
   ·rw [if_neg h2'] at hb
    exact k2 i' j a hij (old i' ha).1 (old j hb).1
theorem ds_set(i:Nat){x:Str}{pos':Pos}(he:DE C cm k N sc e A)(hi:N[i]? = some x:=by rfl)(hx:Loc sc x:=by first | exact Or.inl rfl | exact Or.inr rfl)
  (hs:∀ env:PySem.Env,env.scope=sc→swapsWith e (some (.Name x pos')) pos.line env=pure false:=by intro env _; rfl):DS C cm k N sc (.Assign [.Name x pos'] e pos) (dSet i A):=by
 obtain ⟨ta,pa,qa⟩:=he
 refine ⟨fun W=>tAsg (ta W) (gName i),fun X S W T=>ps_set (by rw [S.n]; exact S.nd) (by rw [S.n]; exact hi) (by rw [S.s]; exact hx) (pa X S.toSta W T) (hs _ S.s) (by
  rcases hx with hx | hx
  ·exact .inr (by rw [S.s]; exact hx)
  ·exact .inl (S.rq _ hx)),fun W D σ Γ F0 H0 F H g h=>?_⟩
 refine qa W σ Γ F0 H0 F H _ g.toGood (OutOk.bind g h fun x v F1 H1 ex e1 r1 h1=>?_)
 cases hp:putV x with
 | ok p =>
  rw [hp,after_ok] at h1
  obtain ⟨F2,e2,r2⟩:=r1.put e1 hp
  exact h1 _ F2 H1 ((g.next e2).setF i r2)
 | exc c=>exact (put_noexc hp).elim
 | bad=>rw [hp] at h1; exact h1.elim
theorem ds_setO(i:Nat){x:Str}{pos':Pos}(he:DE C cm k N sc e A)(hi:N[i]? = some x:=by rfl)(hx:Loc sc x:=by first | exact Or.inl rfl | exact Or.inr rfl)
  (hs:∀ env:PySem.Env,env.scope=sc→swapsWith e (some (.Name x pos')) pos.line env=pure false:=by intro env _; rfl):DS C cm k N sc (.Assign [.Name x pos'] e pos) (dSetO i A):=by
 obtain ⟨ta,pa,qa⟩:=he
 refine ⟨fun W=>tAsg (ta W) (gName i),fun X S W T=>ps_set (by rw [S.n]; exact S.nd) (by rw [S.n]; exact hi) (by rw [S.s]; exact hx) (pa X S.toSta W T) (hs _ S.s) (by
  rcases hx with hx | hx
  ·exact .inr (by rw [S.s]; exact hx)
  ·exact .inl (S.rq _ hx)),fun W D σ Γ F0 H0 F H g h=>?_⟩
 refine qa W σ Γ F0 H0 F H _ g.toGood (OutOk.bind g h fun x v F1 H1 ex e1 r1 h1=>?_)
 obtain ⟨t,q⟩:=x
 cases t with
 | ow d=>exact h1 _ F1 H1 (g.setO i e1 r1)
 | _=>exact h1.elim
theorem ds_setLC(i:Nat){x:Str}{py:Pos}{elt iter:Expr}{ifs:List Expr}{scope:Scope}{own:List (Str×Nat)}{lpos:Pos}{I:IX}{pat:Pat}(ow:Bool)(hi:DI C true k N sc tg iter I)(ok:blkC N sc scope own=true)(hg:DG C true k N (relS scope sc) scope tg pat)(ht:DF C true k N (relS scope sc) ifs T)(he:DE C true k N (relS scope sc) elt A)
  (hN:N[i]? = some x:=by rfl)(hyl:sc.names.lookup x=some .local:=by rfl)(hk:sc.kind = .function:=by rfl)(hl:(py.line == lpos.line)=true:=by rfl)(ha:(scope.names.any fun (n,k)=>n == x && (k == .local || k == .cell))=false:=by decide +kernel)
  (hs:∀ (env:PySem.Env) x,foldedSetIterable iter env x=pure x:=by intro _ _; rfl)(hsl:∀ i∈pat.slots,i∈own.map (·.2):=by decide):DS C true k N sc (.Assign [.Name x py] (.ListComp elt [⟨tg,iter,ifs,0⟩] scope lpos) pos) ((if ow then dSetO else dSet) i (eLC (own.map (·.2)) I pat T A)):=by
 obtain ⟨ti,pi,qi⟩:=hi
 obtain ⟨g,pg,qg⟩:=hg
 obtain ⟨tt,pt,qt⟩:=ht
 obtain ⟨te,pe,qe⟩:=he
 refine ⟨fun W=>tAsg (tLc (ti W) g (tt fun _ _ _ _=>False) (te fun _ _ _ _=>False) (own.map (·.2))) (gName i),fun X S W Tk=>?_,fun W D σ Γ F0 H0 F H gd h=>?_⟩
 ·exact ps_setLc (S.c rfl) (by rw [S.n]; exact S.nd) (by rw [S.n]; exact hN) (by rw [S.s]; exact hyl) (sw_true (by rw [S.s]; exact hk) (by rw [S.s]; exact hyl) hl ha) (pi X S.toSta W Tk) (blkOk_by (by rw [S.n,S.s]; exact ok)) (fun s H Ca cl fp=>pg _ (sta_blk S.toSta) req_blk) (fun s H Ca cl fp=>pt _ (sta_blk S.toSta) _ takesF) (fun s H Ca cl fp=>pe _ (sta_blk S.toSta) _ takesF) (hs _)
 ·show tLc _ _ _ _ _ σ H _
  cases ow with
  | true =>
   refine lc_reads gd.toGood (fun R=>qi W σ Γ F0 H0 F H R gd.toGood) qg (qt _) (qe _) hsl (OutOk.bind gd h fun x v F1 H1 ex e1 r1 h1=>?_)
   obtain ⟨t,q⟩:=x
   cases t with
   | ow d=>exact h1 _ F1 H1 (gd.setO i e1 r1)
   | _=>exact h1.elim
  | false =>
   refine lc_reads gd.toGood (fun R=>qi W σ Γ F0 H0 F H R gd.toGood) qg (qt _) (qe _) hsl (OutOk.bind gd h fun x v F1 H1 ex e1 r1 h1=>?_)
   cases hp:putV x with
   | ok p =>
    rw [hp,after_ok] at h1
    obtain ⟨F2,e2,r2⟩:=r1.put e1 hp
    exact h1 _ F2 H1 ((gd.next e2).setF i r2)
   | exc c=>exact (put_noexc hp).elim
   | bad=>rw [hp] at h1; exact h1.elim
theorem setAll_nb:∀ {is:List Nat} {ps:List PV} {Γ Γ':En},setAll Γ is ps=some Γ'→NoBw Γ→NoBw Γ'
 | [],[],_,_,h,n=>by cases h; exact n
 | i :: is,p :: ps,Γ,Γ',h,n=>setAll_nb (is:=is) (ps:=ps) h (nb_set n fun d p h=>by cases h)
 | [],_ :: _,_,_,h,_=>by cases h
 | _ :: _,[],_,_,h,_=>by cases h
theorem ds_if{s1 s2:List Stmt}{d1 d2:ST}(ht:DT C cm k N sc c T)(h1:DSs C cm k N sc s1 d1)(h2:DSs C cm k N sc s2 d2):DS C cm k N sc (.If c s1 s2 pos) (dIf T d1 d2):=by
 obtain ⟨tc,pc,qc⟩:=ht
 obtain ⟨ta,pa,qa⟩:=h1
 obtain ⟨tb,pb,qb⟩:=h2
 refine ⟨fun W=>tIfS (tc W) (ta W) (tb W),fun X S W T=>ps_if (pc X S.toSta W T) (pa X S W T) (pb X S W T),fun W D σ Γ F0 H0 F H g h=>?_⟩
 refine qc W σ Γ F0 H0 F H _ g.toGood (OutOk.bindT g h fun b F1 H1 eb e1 h1=>?_)
 cases b with
 | true=>exact iteT (qa W D σ Γ F0 H0 F1 H1 (g.next e1) h1)
 | false=>exact iteF (qb W D σ Γ F0 H0 F1 H1 (g.next e1) h1)
theorem ds_ret(he:DE C cm k N sc e A):DS C cm k N sc (.Return (some e) pos) (dRet A):=by
 obtain ⟨ta,pa,qa⟩:=he
 refine ⟨fun W=>tRet (ta W),fun X S W T=>ps_ret (pa X S.toSta W T),fun W D σ Γ F0 H0 F H g h=>?_⟩
 refine qa W σ Γ F0 H0 F H _ g.toGood (OutOk.bind g h fun x v F1 H1 ex e1 r1 h1=>?_)
 obtain ⟨t,q⟩:=x
 have ee:=g.ext.trans e1
 have rs:=r1.start g.ext.hh
 cases t with
 | fz=>exact h1 v F1 H1 ee rs
 | ow d=>exact h1 v F1 H1 ee rs
 | bw d =>
  cases d with
  | zero=>obtain ⟨_,fp,z⟩:=rs; exact h1 v F1 H1 ee (.fz z.2)
  | succ d=>exact h1.elim
theorem ds_retV (i:Nat) {x:Str} (hN:N[i]? = some x:=by rfl) (hv:Vis sc x:=by first | exact Or.inl rfl | exact Or.inr (Or.inl rfl) | exact Or.inr (Or.inr rfl)) (hd:(x == ("__debug__":Str))=false:=by decide)
  (hcd:(x == ("__classdict__":Str))=false:=by decide):DS C cm k N sc (.Return (some (.Name x p)) pos) (dRetV i):=by
 refine ⟨fun W=>tRet (tVar i),fun X S W T=>ps_ret (pe_var (by rw [S.n]; exact hN) (by rw [S.s]; exact hv) hd hcd),fun W D σ Γ F0 H0 F H g h=>?_⟩
 obtain ⟨fp,h1,_⟩:=g.slots
 unfold dRetV at h
 cases e:Γ.get i with
 | none=>rw [e] at h; exact h.elim
 | some y =>
  obtain ⟨t,q⟩:=y
  obtain ⟨v,h3,h4⟩:=h1 i _ e
  rw [e] at h
  refine ⟨v,h3,?_⟩
  cases t with
  | fz=>exact h v F H g.ext ⟨[],h4⟩
  | ow d=>exact h v F H g.ext ⟨_,h4⟩
  | bw d=>exact h.elim
theorem ds_ex(he:DE C cm k N sc e A)(hs:∀ env:PySem.Env,swapsWith e none pos.line env=pure false:=by intro _; rfl):DS C cm k N sc (.Expr e pos) (dEx A):=by
 obtain ⟨ta,pa,qa⟩:=he
 refine ⟨fun W=>tDrop (ta W),fun X S W T=>ps_expr (pa X S.toSta W T) (hs _),fun W D σ Γ F0 H0 F H g h=>?_⟩
 exact qa W σ Γ F0 H0 F H _ g.toGood (OutOk.bind g h fun x v F1 H1 ex e1 r1 h1=>h1 σ F1 H1 (g.next e1))
end
end Vl
end
section
set_option Elab.async false
set_option linter.all false
set_option maxRecDepth 100000
set_option maxHeartbeats 1000000
namespace Vl
open PySem L2 Vm PyProof.Rows
section
variable {C:Cn} {cm:Bool} {k:Nat} {N:List Str} {sc so:Scope} {a b c e tg:Expr} {es:List Expr} {A B:EX} {As:EXs} {T U:TX} {pos p:Pos} {X:Cx} {x:Str} {st:Stmt} {sts:List Stmt} {d d':ST}
variable {F0 H0 F H F1 H1:Hp} {Γ:En} {σ:L2.St} {W:WX} {D:Ends}
theorem bindP_nb{x:TV}{pat:Pat}{Γ':En}(hx:∃ p,x=(.fz,p))(h:bindP Γ x pat = .ok Γ')(n:NoBw Γ):NoBw Γ':=by
 obtain ⟨p,rfl⟩:=hx
 cases pat with
 | v i=>cases h; exact nb_set n fun d p h=>by cases h
 | t is =>
  unfold bindP at h
  cases q0:seqP (.fz,p) with
  | none=>simp only [q0] at h; cases h
  | some ps =>
   simp only [q0] at h
   cases q:setAll Γ is ps with
   | none=>rw [q] at h; cases h
   | some Γ2=>rw [q] at h; cases h; exact setAll_nb q n
theorem bindP_noexc{x:TV}{pat:Pat}{c:Nat}:bindP Γ x pat ≠ .exc c:=by
 intro h
 cases pat with
 | v i =>
  obtain ⟨t,p⟩:=x
  cases t with
  | fz=>cases h
  | ow d=>cases h
  | bw d=>cases d <;> cases h
 | t is =>
  unfold bindP at h
  cases q0:seqP x with
  | none=>simp only [q0] at h; cases h
  | some ps =>
   simp only [q0] at h
   cases q:setAll Γ is ps with
   | none=>rw [q] at h; cases h
   | some Γ2=>rw [q] at h; cases h
theorem GoodS.rebase(g:GoodS C.K F0 H0 Γ σ F H):GoodS C.K F H0 Γ σ F H :=
 ⟨⟨⟨Same.refl _,g.ext.hh,g.ext.fh,g.ext.tp,fun a q=>.inl q⟩,g.len,g.slots⟩,g.nb⟩
theorem Ext.back{Fx Hx Fy Hy:Hp}(e:Ext F0 H0 Fx Hx)(e2:Ext Fx H0 Fy Hy):Ext F0 H0 Fy Hy :=
 ⟨e.ff.trans e2.ff,e2.hh,e2.fh,e2.tp,fun a q=>by
  rcases e2.nw a q with q | q
  ·exact e.nw a q
  ·exact .inr q⟩
theorem GoodS.back{Fx Hx Fy Hy:Hp}{Γ':En}{σ':L2.St}(e:Ext F0 H0 Fx Hx)(g:GoodS C.K Fx H0 Γ' σ' Fy Hy):GoodS C.K F0 H0 Γ' σ' Fy Hy :=
 ⟨⟨Ext.back e g.ext,g.len,g.slots⟩,g.nb⟩
theorem ds_for{iter:Expr}{body:List Stmt}{I:IX}{pat:Pat}(ws:List Nat)(hi:DI C true k N sc tg iter I)(hg:DG C true k N sc sc tg pat)(hb:DSs C true k N sc body d)
  (hs:∀ (env:PySem.Env) x,foldedSetIterable iter env x=pure x:=by intro _ _; rfl):DS C true k N sc (.For tg iter body [] pos) (dFor I pat ws d):=by
 obtain ⟨ti,pi,qi⟩:=hi
 obtain ⟨t,pt,qt⟩:=hg
 obtain ⟨tb,pb,qb⟩:=hb
 refine ⟨fun W=>tFor (ti W) t (tb W),fun X S W T=>ps_for S.po (S.c rfl) (pi X S.toSta W T) (pt X S.toSta S.rq) (pb X S W T) (hs _),fun W D σ Γ F0 H0 F H g h=>?_⟩
 refine qi W σ Γ F0 H0 F H _ g.toGood ?_
 unfold dFor at h
 cases ei:I Γ with
 | exc c=>rw [ei] at h; exact fun F' H' e=>h σ F' H' (g.next e)
 | bad=>rw [ei] at h; exact h
 | ok y =>
  rw [ei,after_ok] at h
  intro J F1 H1 e1 it
  cases hy:y.1 with
  | false=>rw [hy] at h; exact h.elim
  | true =>
   rw [hy,if_pos rfl] at h
   rw [hy] at it
   have g1:=(g.next e1).forget ws
   refine ⟨fun i m σ' H'=>m=y.2.length - i∧i≤y.2.length∧∃ Γ' F',GoodS C.K F0 H0 Γ' σ' F' H'∧Same F1 F'∧OutOk C W F0 H0 D (forL pat ws d (y.2.drop i) Γ'),⟨_,rfl,Nat.zero_le _,wipeE Γ ws,F1,g1,Same.refl _,h⟩,?_⟩
   rintro i m σ' H' ⟨rfl,hi,Γ',F',g',sf,ho⟩
   obtain ⟨i1,i2,i3⟩:=it.2 i F' H' sf g'.ext.fh g'.ext.tp fun z=>by cases z
   by_cases hlt:i < y.2.length
   ·refine .inr ⟨i1 hlt,fun σ2 H2=>∃ Γ2 F2,GoodS C.K F0 H0 Γ2 σ2 F2 H2∧Same F1 F2∧OutOk C W F0 H0 D (forL pat ws d (y.2.drop (i+1)) Γ2),fun σ2 H2 hN=>⟨y.2.length - (i+1),by omega,rfl,hlt,hN⟩,fun xv H2 hyl=>?_⟩
    obtain ⟨itm,hit,F2,e3,rx⟩:=i3 xv H2 hlt hyl
    have hd:y.2.drop i=itm :: y.2.drop (i+1):=by
     rw [List.drop_eq_getElem_cons hlt]
     rw [List.getElem?_eq_getElem hlt] at hit
     cases hit
     rfl
    have hfz:=it.1 rfl itm (List.mem_of_getElem? hit)
    rw [hd] at ho
    unfold forL at ho
    have g2:=g'.next e3
    refine qt Γ' σ' F0 H0 F2 H2 itm xv H2 _ g2.toGood (rx H2) ?_
    cases hbp:bindP Γ' itm pat with
    | exc c=>exact (bindP_noexc hbp).elim
    | bad=>rw [hbp] at ho; exact ho.elim
    | ok Γ3 =>
     rw [hbp] at ho
     simp only at ho
     intro σ3 g3 _
     have gs3:GoodS C.K F0 H0 Γ3 σ3 F2 H2:=⟨g3,bindP_nb hfz hbp g2.nb⟩
     refine qb W _ σ3 Γ3 F2 H0 F2 H2 gs3.rebase ?_
     have e2:Ext F0 H0 F2 H2:=gs3.ext
     have sf2:Same F1 F2:=sf.trans e3.ff
     cases eo:d Γ3 with
     | nx Γ4=>rw [eo] at ho; exact fun σ4 F4 H4 g4=>⟨wipeE Γ4 ws,F4,(g4.back e2).forget ws,sf2.trans g4.ext.ff,ho⟩
     | ct Γ4=>rw [eo] at ho; exact fun σ4 F4 H4 g4=>⟨wipeE Γ4 ws,F4,(g4.back e2).forget ws,sf2.trans g4.ext.ff,ho⟩
     | bk Γ4=>rw [eo] at ho; exact fun σ4 F4 H4 g4=>ho σ4 F4 H4 ((g4.back e2).forget ws)
     | rt t p Γr=>rw [eo] at ho; exact fun v F4 H4 e4 r4=>ho v F4 H4 (Ext.back e2 e4) r4
     | exc c Γ4=>rw [eo] at ho; exact fun σ4 F4 H4 g4=>ho σ4 F4 H4 (g4.back e2)
     | bad=>rw [eo] at ho; exact ho.elim
   ·have ein:i=y.2.length:=by omega
    rw [List.drop_eq_nil_of_le (by omega)] at ho
    exact .inl ⟨i2 (by omega),ho σ' F' H' g'⟩
theorem good_mod{i:Nat}{l:List PV}(g:GoodS C.K F0 H0 Γ σ F H)(e:Γ.get i=some (.ow 1,.lst l)):∃ ad vs,σ[i]? = some (some (.ref ad))∧H ad=some (.lst vs)∧RepL C.K F l vs∧F ad=none∧H0 ad=none ∧
  ∀ {F2 H2 l2 vs2},Ext F H F2 H2→RepL C.K F2 l2 vs2→GoodS C.K F0 H0 (Γ.set i (some (.ow 1,.lst l2))) σ F2 (upd H2 ad (.lst vs2))∧H2 ad=some (.lst vs):=by
 obtain ⟨fp,h1,h2⟩:=g.slots
 obtain ⟨v,hv,o,nd,fr⟩:=h1 i _ e
 have hi:i < Γ.length:=by
  cases Nat.lt_or_ge i Γ.length with
  | inl h=>exact h
  | inr h =>
   have:Γ.get i=none:=by unfold En.get; simp [List.getD,List.getElem?_eq_none h]
   rw [this] at e; cases e
 have o':=o
 obtain ⟨l',ad,vs,fps,e0,rfl,h3,h4,h5⟩:=o'.lst
 cases e0
 have hm:ad∈fp i:=by rw [h4]; simp
 obtain ⟨f1,f2⟩:=fr ad hm
 have r1:RepL C.K F l vs:=by
  obtain ⟨ad',vs',e6,e7,e8⟩:=own_one o
  cases e6
  rw [h3] at e7
  cases e7
  exact e8
 refine ⟨ad,vs,hv,h3,r1,f1,f2,fun {F2 H2 l2 vs2} e2 r2=>⟨⟨⟨?_,by rw [List.length_set]; exact g.len,fun j=>if j=i then [ad] else fp j,fun j y hy=>?_,fun i' j a hij ha hb=>?_⟩,nb_set g.nb fun d p h=>by cases h⟩,e2.hh _ _ h3⟩⟩
 ·have f2n:F2 ad=none:=by
   cases q:F2 ad with
   | none=>rfl
   | some o =>
    rcases e2.nw ad (by rw [q]; simp) with z | z
    ·exact (z f1).elim
    ·rw [h3] at z; cases z
  have ee:=g.ext.trans e2
  refine ⟨ee.ff,fun a o z=>?_,fun a o z=>?_,tups_new ee.tp (fun _ z=>by cases z) f2n,ee.nw⟩
  ·rw [upd_ne (ne_of_none z f2)]; exact ee.hh _ _ z
  ·rw [upd_ne (ne_of_none z f2n)]; exact ee.fh _ _ z
 ·rw [get_set] at hy
  by_cases hj:j=i
  ·subst hj
   rw [if_pos ⟨rfl,hi⟩] at hy
   cases hy
   refine ⟨_,hv,?_⟩
   simp only [if_pos]
   have f2n:F2 ad=none:=by
    cases q:F2 ad with
    | none=>rfl
    | some o =>
     rcases e2.nw ad (by rw [q]; simp) with z | z
     ·exact (z f1).elim
     ·rw [h3] at z; cases z
   exact ⟨own_new r2 upd_same,by simp,fun a ha=>by simp at ha; subst ha; exact ⟨f2n,f2⟩⟩
  ·rw [if_neg fun z=>hj z.1] at hy
   obtain ⟨u,h6,h7⟩:=h1 j y hy
   refine ⟨u,h6,?_⟩
   simp only
   rw [if_neg hj]
   have h8:=h7.ext e2
   obtain ⟨t,q⟩:=y
   cases t with
   | fz=>exact h8
   | bw d=>exact (g.nb j d q hy).elim
   | ow d =>
    obtain ⟨z1,z2,z3⟩:=h8
    exact ⟨Own.mono (Same.refl _) d z1 fun a ha=>upd_ne fun z=>by subst z; exact h2 i j a (Ne.symm hj) hm ha,z2,z3⟩
 ·simp only at ha hb
  by_cases h1':i'=i
  ·rw [if_pos h1'] at ha
   rw [if_neg (fun z=>hij (h1'.trans z.symm))] at hb
   simp at ha
   subst ha
   exact h2 i j a (fun z=>hij (h1'.trans z)) hm hb
  ·rw [if_neg h1'] at ha
   by_cases h2':j=i
   ·rw [if_pos h2'] at hb
    simp at hb
    subst hb
    exact h2 i' i a h1' ha hm
   ·rw [if_neg h2'] at hb
    exact h2 i' j a hij ha hb
theorem ds_app (i:Nat) {x:Str} {apos cpos p1:Pos} (he:DE C cm k N sc e A) (hN:N[i]? = some x:=by rfl) (hv:Vis sc x:=by first | exact Or.inl rfl | exact Or.inr (Or.inl rfl) | exact Or.inr (Or.inr rfl)) (hd:(x == ("__debug__":Str))=false:=by decide)
  (hcd:(x == ("__classdict__":Str))=false:=by decide) (hbase:∀ env:PySem.Env,attributeBase (.Name x p1) "append" env (eval (.Name x p1) env)=eval (.Name x p1) env:=by intro _; rfl)
  (hfew:∀ env:PySem.Env,((backTo cpos (starEach [e] env)).all (fun x=>!x.1) && (backToKw cpos (keywordEach [] env)).all (fun x=>x.1.isSome)
   && decide (([e]).length+([]:List Keyword).length+(if ([]:List Keyword).isEmpty then 0 else 1) < 30))=true:=by intro _; rfl)
  (hline:(apos.endLine == cpos.line)=true:=by rfl) (hst:∀ env:PySem.Env,starEach [e] env=(false,eval e env) :: starEach [] env:=by intro _; rfl) (hs:∀ env:PySem.Env,swapsWith (.Call (.Attribute (.Name x p1) "append" apos) [e] [] cpos) none pos.line env=pure false:=by intro _; rfl) :
  DS C cm k N sc (.Expr (.Call (.Attribute (.Name x p1) "append" apos) [e] [] cpos) pos) (dApp i A):=by
 obtain ⟨ta,pa,qa⟩:=he
 refine ⟨fun W=>tDrop (tBM C.K "list" rAppend (tVar i) (tCons (ta W) tNil)),fun X S W T=>by rw [← S.K]; exact ps_expr (pe_bm PySem.F.plainAttrs_list PySem.F.slot_list_append PySem.F.type_list_append mt_append (pe_var (by rw [S.n]; exact hN) (by rw [S.s]; exact hv) hd hcd) (pa_cons (pa X S.toSta W T) pa_nil (hst _)) (hbase _) (hfew _) hline (hst _) rfl) (hs _),fun W D σ Γ F0 H0 F H g h=>?_⟩
 unfold dApp at h
 split at h
 ·rename_i l eg
  obtain ⟨ad,vs,hv',hH,rl,f1,f2,go⟩:=good_mod g eg
  refine ⟨.ref ad,hv',.inl ⟨rfl,vs,SqL.of hH⟩,qa W σ Γ F0 H0 F H _ g.toGood (OutOk.bind g h fun x v F1 H1 ex e1 rv h=>?_)⟩
  cases hp:putV x with
  | exc c=>exact (put_noexc hp).elim
  | bad=>rw [hp] at h; exact h.elim
  | ok p =>
   rw [hp,after_ok] at h
   by_cases hz:l.length < 16777216
   ·rw [if_pos hz] at h
    obtain ⟨F2,e2,r2⟩:=rv.put e1 hp
    obtain ⟨gg,hH2⟩:=go e2 ((rl.mono e2.ff _ _).append (RepL.cons r2 RepL.nil))
    exact ⟨ad,vs,v,rfl,rfl,hH2,by rw [rl.len,← szL_eq]; exact hz,h σ _ _ gg⟩
   ·rw [if_neg hz] at h; exact h.elim
 ·exact h.elim
theorem get_args{n:Nat}{ps:List PV}{i:Nat}{x:TV}(h:En.get (ps.map (fun p=>some (.fz,p))++List.replicate n none) i=some x):∃ p,ps[i]? = some p∧x=(.fz,p):=by
 unfold En.get at h
 rw [List.getD,List.getElem?_append] at h
 split at h
 ·rename_i hl
  rw [List.getElem?_map] at h
  cases q:ps[i]? with
  | none=>rw [q] at h; cases h
  | some p=>rw [q] at h; exact ⟨p,rfl,by cases h; rfl⟩
 ·rename_i hl
  rw [List.getElem?_replicate] at h
  split at h <;> cases h
theorem fn_okF{x:Str}{ad:Addr}{fd:FuncData}{ps:List Str}{n ns j:Nat}{d:ST}(F:Fun C.K x x st ad fd)(S:FnScope N ps (defScope st))(hp:ps.length=n)(hN:N.length=ns)(hm:C.mg x=some (.ref ad))(hb:Binds C.K fd ps [])
  (body:DSs C true j N (defScope st) (defBody st) d):FnOk C.P C.w C.K C.mg C.base (L2.CX C.P C.w) (j+1) ad fd ps (spOf C n (runFn n ns d)):=by
 obtain ⟨tb,pb,qb⟩:=body
 have hnn:n≤ns:=by
  have:=congrArg List.length S.pre
  rw [List.length_take] at this
  omega
 refine F.okX S (fun vs H Q E h=>?_) (fun cdv A outer s H vs Q E hr h=>?_)
 ·obtain ⟨_,_,h1,_⟩:=h
  rw [h1,hp]
 ·obtain ⟨F0,qs,h1,h2,h3,h4,h5⟩:=h
  refine ⟨tb fun cls d _ H=>E cls d H,pb _ ⟨⟨rfl,rfl,rfl,S.nd,fun _=>rfl,fun _=>hr,?_⟩,passes_of rfl,fun _ _=>rfl,rfl,rfl⟩ _ (takes_of rfl rfl rfl rfl),?_⟩
  ·have h0:=hr.un
   have h1:(cxOf (L2.CX C.P C.w) C.P C.w C.K C.mg C.base N x (defScope st) ad cdv A outer s H E).A.units+100 < cLine:=by
    show (A.deeper _).units+100 < cLine
    omega
   exact h1
  ·refine qb _ _ _ (qs.map (fun p=>some (.fz,p))++List.replicate (ns - n) none) F0 H F0 H ⟨⟨Ext.refl h2 h3,?_,fun _=>[],fun i y hy=>?_,fun _ _ _ _ h=>by simp at h⟩,fun i d p hy=>?_⟩ ?_
   ·have:=h4.len
    simp [L2.start,hN]
    omega
   ·obtain ⟨p,hp,rfl⟩:=get_args hy
    obtain ⟨v,hv,r⟩:=h4.get hp
    refine ⟨v,?_,r⟩
    unfold L2.start
    rw [List.getElem?_append_left (by rw [List.length_map]; exact (List.getElem?_eq_some_iff.mp hv).1),List.getElem?_map,hv]
    rfl
   ·obtain ⟨p',hp,e⟩:=get_args hy
    cases e
   ·have hl:qs.length=n:=by rw [← h4.len]; exact h1
    unfold runFn at h5
    rw [if_pos hl] at h5
    cases eo:d (qs.map (fun p=>some (.fz,p))++List.replicate (ns - n) none) with
    | nx Γ=>rw [eo] at h5; exact fun σ' F' H' g'=>h5 _ F' H' g'.ext (.fz rep_non)
    | rt t p Γr=>rw [eo] at h5; exact fun v F' H' e r=>h5 v F' H' e r
    | bk Γ=>rw [eo] at h5; exact h5.elim
    | ct Γ=>rw [eo] at h5; exact h5.elim
    | exc c Γ=>rw [eo] at h5; exact fun σ' F' H' g'=>h5 F' H' g'.ext
    | bad=>rw [eo] at h5; exact h5.elim
theorem fn_ok{x:Str}{ad:Addr}{fd:FuncData}{ps:List Str}{n ns j:Nat}{d:ST}(F:Fun C.K x x st ad fd)(S:FnScope N ps (defScope st))(hp:ps.length=n)(hN:N.length=ns)(hm:C.mg x=some (.ref ad))(hb:Binds C.K fd ps [])
  (body:DSs C true j N (defScope st) (defBody st) d):Cal C x n (j+1) (runFn n ns d):=⟨ad,fd,ps,hp,fn_okF F S hp hN hm hb body,F.kp,hb,hm⟩
theorem cal_bad{x:Str}{ad:Addr}{fd:FuncData}{ps:List Str}{n j:Nat}(F:Fun C.K x x st ad fd)(S:FnScope N ps (defScope st))(hp:ps.length=n)(hm:C.mg x=some (.ref ad))(hb:Binds C.K fd ps []):Cal C x n j (fun _=>.bad) :=
 ⟨ad,fd,ps,hp,⟨fun vs H Q E h=>by obtain ⟨_,_,_,_,_,_,h⟩:=h; exact h.elim,fun A outer s H args us vs Q E _ _ _ _ h=>by obtain ⟨_,_,_,_,_,_,h⟩:=h; exact h.elim⟩,F.kp,hb,hm⟩
end
end Vl
end
section
set_option Elab.async false
set_option linter.all false
set_option maxRecDepth 100000
set_option maxHeartbeats 1000000
namespace Vl
open PySem L2 Vm PyProof.Rows
def spLaw(K:PySem.W.Frag):Sp:=fun vs H Q _=>∃ (a:Addr) (ns:List Int),vs=[.ref a]∧SqL K H a (ns.map V.int)∧ns.length≤63∧(∀ z∈ns,Builtin.Int.intBits z≤1048576)∧Only H∧∀ H',Q (.bl true) H'
theorem repL_ints{K:KK}{F:Hp}:∀ ns:List Int,RepL K F (ns.map PV.int) (ns.map V.int)
 | []=>RepL.nil
 | n :: ns=>RepL.cons rep_int (repL_ints ns)
theorem law_end {C:Cn} {k:Nat} {ad:Addr} {fd:FuncData} {f:FN} (h:FnOk C.P C.w C.K C.mg C.base (L2.CX C.P C.w) k ad fd ["script"] (spOf C 1 f))
  (s2:∀ ns:List Int,ns.length≤63→(∀ z∈ns,z.natAbs.log2≤1048576)→f [.lst (ns.map .int)] = .ok (.fz,.bl true)):FnOk C.P C.w C.K C.mg C.base (L2.CX C.P C.w) k ad fd ["script"] (spLaw C.K) :=
 h.imp fun vs H Q E q=>by
  obtain ⟨a,ns,rfl,hS,hl,hb,ho,hq⟩:=q
  refine ⟨H,[.lst (ns.map .int)],rfl,Same.refl _,fun _ _ z=>z,RepL.cons ?_ RepL.nil,?_⟩
  ·unfold Rep
   exact ⟨a,_,rfl,hS,repL_ints ns⟩
  ·rw [s2 ns hl fun z hz=>?_]
   ·intro v F' H' _ r
    have r:=r.ofFz
    unfold Rep at r
    subst r
    exact hq H'
   ·have:=hb z hz
    unfold Builtin.Int.intBits at this
    split at this
    ·rename_i e
     have:z=0:=by simpa using e
     subst this
     decide
    ·omega
theorem cx_no{P:Program}{w:World}{H:Hp}{s:Shared}{e:Value}{s':Shared}(h:L2.CX P w [] H s (fun _ _ _=>False) e s'):False:=by
 obtain ⟨_,_,_,_,_,_,_,_,_,_,_,_,h⟩:=h
 exact h
end Vl
end
section
set_option Elab.async false
set_option linter.all false
set_option maxRecDepth 100000
set_option maxHeartbeats 1000000
namespace Vl
open PySem PySem.Spec L2 Vm PyProof.Rows
inductive Src where | l (a:Addr) | t (a:Addr) | s (x:Str) (k:Tok)
def Src.it(h:Heap)(it:Addr)(i:Nat):Src→Prop
 | .l a=>h.IsListIter it a i
 | .t a=>h.IsTupleIter it a i
 | .s x k=>h.IsStrIter it (strIterType x) x k i
def Src.has(K:PySem.W.Frag)(H:Hp)(vs:List V):Src→Prop
 | .l a=>SqL K H a vs
 | .t a=>SqT K H a vs
 | .s x _=>vs=x.cps.toList.map fun c=>V.str ⟨#[c]⟩
def Src.val:Src→Value
 | .l a=>.ref a
 | .t a=>.ref a
 | .s x k=>.str x k
def Src.ob:Src→Obj
 | .l a=>{ cls:=.type "list_iterator",data:=.fields #[.ref a,.int 0 0] }
 | .t a=>{ cls:=.type "tuple_iterator",data:=.fields #[.ref a,.int 0 0] }
 | .s x k=>{ cls:=.type (strIterType x),data:=.fields #[.str x k,.int 0 0] }
def Src.off(b:Addr):Src→Prop
 | .l a=>a ≠ b
 | .t a=>a ≠ b
 | .s _ _=>True
structure ZOff (z TI TO i1 i2:Addr) (S U:Src):Prop where
 nd:[z,TI,TO,i1,i2].Nodup
 o1:∀ b∈[z,TI,TO,i1,i2],S.off b
 o2:∀ b∈[z,TI,TO,i1,i2],U.off b
theorem ZOff.sep{z TI TO i1 i2:Addr}{S U:Src}(D:ZOff z TI TO i1 i2 S U){fp1 fp2:List Addr}(m1:i1∈fp1)(m2:i2∈fp2)(n1:∀ c,c ≠ i1→S.off c→c ∉ fp1)(n2:∀ c,c ≠ i2→U.off c→c ∉ fp2):ZipSep2 z TI TO i1 i2 fp1 fp2:=by
 have nd:=D.nd
 simp only [List.nodup_cons,List.mem_cons,List.not_mem_nil,not_or,or_false,not_false_eq_true,List.nodup_nil,and_true] at nd
 obtain ⟨⟨a1,a2,a3,a4⟩,⟨b1,b2,b3⟩,⟨c1,c2⟩,d1⟩:=nd
 exact ⟨Ne.symm a1,Ne.symm a2,b1,b2,m1,n1 z a3 (D.o1 z (by simp)),n1 TO c1 (D.o1 TO (by simp)),b3,m2,n2 z a4 (D.o2 z (by simp)),n2 TO c2 (D.o2 TO (by simp)),n2 i1 d1 (D.o2 i1 (by simp)),n1 i2 (Ne.symm d1) (D.o1 i2 (by simp))⟩
end Vl
end
section
set_option Elab.async false
set_option linter.all false
set_option maxRecDepth 100000
set_option maxHeartbeats 1000000
namespace Vl
open PySem L2 Vm PyProof.Rows
def SeqOk(K:KK)(S:Src)(fl:Bool)(l:List PV)(F1 H1:Hp):Prop:=∀ F H,Same F1 F→Same F H→(fl=false→Same H1 H)→∃ vs,S.has K H vs∧RepL K F l vs
theorem SeqOk.weak{K:KK}{S:Src}{fl:Bool}{l:List PV}{F H F' H':Hp}(h:SeqOk K S fl l F H)(e:Ext F H F' H'):SeqOk K S fl l F' H':=fun Fx Hx a b c=>h Fx Hx (e.ff.trans a) b fun z=>e.hh.trans (c z)
theorem SeqOk.false{K:KK}{S:Src}{fl:Bool}{l:List PV}{F H:Hp}(h:SeqOk K S fl l F H):SeqOk K S false l F H:=fun Fx Hx a b c=>h Fx Hx a b fun _=>c rfl
section
variable {C:Cn} {cm:Bool} {k:Nat} {N:List Str} {sc so:Scope} {a b c e tg:Expr} {es:List Expr} {A B:EX} {As:EXs} {T U:TX} {pos p tpos:Pos} {X:Cx} {x:Str} {elts:List Expr} {kk:Nat}
end
end Vl
end
section
set_option Elab.async false
set_option linter.all false
set_option maxRecDepth 100000
set_option maxHeartbeats 1000000
namespace Vl
open PySem L2 Vm PyProof.Rows
section
open PySem.Builtin PySem.Builtin.Str PySem.StrLaws
def tx(l:List Nat):Str:=⟨l.toArray⟩
end
end Vl
end
section
set_option Elab.async false
set_option linter.all false
set_option maxRecDepth 100000
set_option maxHeartbeats 1000000
namespace Vl
open PySem L2 Vm PyProof.Rows
section
variable {C:Cn} {cm:Bool} {k:Nat} {N:List Str} {sc so:Scope} {a b c e tg:Expr} {es:List Expr} {A B:EX} {As:EXs} {T U:TX} {pos p tpos:Pos} {X:Cx} {x:Str} {elts:List Expr} {kk:Nat}
end
end Vl
end
section
set_option Elab.async false
set_option linter.all false
set_option maxRecDepth 100000
set_option maxHeartbeats 1000000
namespace Vl
open PySem L2 Vm PyProof.Rows
section
variable {C:Cn} {cm:Bool} {k:Nat} {N:List Str} {sc so:Scope} {a b c e o tg:Expr} {es:List Expr} {A B:EX} {As:EXs} {T U:TX} {pos p tpos apos cpos:Pos} {X:Cx} {x:Str} {elts:List Expr} {kk:Nat}
end
end Vl
end
section
set_option Elab.async false
set_option linter.all false
set_option maxRecDepth 100000
set_option maxHeartbeats 1000000
namespace Vl
open PySem L2 Vm PyProof.Rows
section
open PySem.AutoSeq1
end
section
variable {C:Cn} {cm:Bool} {k:Nat} {N:List Str} {sc so:Scope} {a b c e o tg:Expr} {es:List Expr} {A B:EX} {As:EXs} {T U:TX} {pos p tpos apos cpos p1:Pos} {X:Cx} {x:Str} {elts:List Expr} {kk:Nat}
theorem ds_setIx (i:Nat) {xpos:Pos} (hj:DE C true k N sc b B) (he:DE C true k N sc e A) (hN:N[i]? = some x:=by rfl) (hv:Vis sc x:=by first | exact Or.inl rfl | exact Or.inr (Or.inl rfl) | exact Or.inr (Or.inr rfl)) (hd:(x == ("__debug__":Str))=false:=by decide)
  (hcd:(x == ("__classdict__":Str))=false:=by decide) (hs:∀ env:PySem.Env,swapsWithSole [.Subscript (.Name x p1) b xpos] e pos.line env=pure false:=by intro _; rfl) (hw:∀ env:PySem.Env,swappedStores [.Subscript (.Name x p1) b xpos] e env=pure none:=by intro _; rfl)
  (h1:∀ env:PySem.Env,(assignEach [.Subscript (.Name x p1) b xpos] env).map (·.2)=[assign (.Subscript (.Name x p1) b xpos) env]:=by intro _; rfl)
  (ha:∀ (env:PySem.Env) v,assign (.Subscript (.Name x p1) b xpos) env v=(do
   let ov ← holding [v] (eval (.Name x p1) env)
   let iv ← holding [v,ov] (eval b env)
   standAt xpos
   holding [v,ov,iv] (setItem ov iv v)
   release [v,ov,iv] []):=by intro _ _; rfl):DS C true k N sc (.Assign [.Subscript (.Name x p1) b xpos] e pos) (dSetIx i B A):=by
 obtain ⟨ta,pa,qa⟩:=he
 obtain ⟨tb,pb,qb⟩:=hj
 refine ⟨fun W=>tAsg (ta W) (gSub (tVar i) (tb W) rSetL),fun X S W T=>ps_asg (pa X S.toSta W T) (pg_sub (pe_var (by rw [S.n]; exact hN) (by rw [S.s]; exact hv) hd hcd) (pb X S.toSta W T) set_list (ha _)) (hs _) (hw _) (h1 _),fun W D σ Γ F0 H0 F H g h=>?_⟩
 unfold dSetIx at h
 split at h
 ·rename_i l eg
  obtain ⟨ad,vs,hv',hH,rl,f1,f2,go⟩:=good_mod g eg
  refine qa W σ Γ F0 H0 F H _ g.toGood (OutOk.bind g h fun y v F1 H1 ex e1 rv h=>?_)
  refine ⟨.ref ad,hv',qb W σ Γ F0 H0 F1 H1 _ (g.next e1).toGood (OutOk.bind (g.next e1) h fun z u F2 H2 ez e2 r2 h=>?_)⟩
  cases hp:putV y with
  | exc c=>exact (put_noexc hp).elim
  | bad=>rw [hp] at h; exact h.elim
  | ok q =>
   rw [hp,after_ok] at h
   obtain ⟨t,z⟩:=z
   have rz:=r2.rep e2.fh
   cases z with
   | int j =>
    unfold Rep at rz
    subst rz
    simp only at h
    cases hn:vIxN l.length j with
    | none=>rw [hn] at h; exact h.elim
    | some n =>
     rw [hn] at h
     obtain ⟨F3,e3,r3⟩:=(rv.ext e2).put (e1.trans e2) hp
     obtain ⟨gg,hH2⟩:=go e3 ((rl.mono e3.ff _ _).set r3 n)
     exact ⟨ad,vs,j,n,rfl,rfl,hH2,by rw [rl.len]; exact hn,h σ _ _ gg⟩
   | _=>exact h.elim
 ·exact h.elim
end
end Vl
end
section
set_option Elab.async false
set_option linter.all false
set_option maxRecDepth 100000
set_option maxHeartbeats 1000000
namespace Vl
open PySem L2 Vm PyProof.Rows
def Xc(C:Cn)(c:Nat):Prop:=∃ a:Addr,C.mg (xName c)=some (.ref a)∧PySem.W.excIn C.K a [.type "ValueError",.type "Exception",.type "BaseException",.type "object"] "ValueError.__new__" = true∧PySem.W.keepIn C.K (.ref a)=true ∧
 PySem.W.subIn C.K (.ref a) (.type "BaseException")=some true∧PySem.W.typeIn C.K (.ref a)=some (.type "type")
section
variable {C:Cn} {cm:Bool} {k:Nat} {N:List Str} {sc so:Scope} {a b c e o tg:Expr} {es:List Expr} {A B:EX} {As:EXs} {T U:TX} {pos p tpos apos cpos p1:Pos} {X:Cx} {x:Str} {elts:List Expr} {kk:Nat}
theorem ds_raise {i:Nat} {m:Str} {j:Nat} {p2 pos':Pos} (xc:Xc C i) (hg:sc.names.lookup (xName i)=some .globalImplicit:=by rfl) (hdb:(xName i == ("__debug__":Str))=false:=by decide) :
  DS C true k N sc (.Raise (some (.Call (.Name (xName i) p) [.Constant (.str m) j p2] [] pos)) none pos') (dRaise i):=by
 obtain ⟨ad,h1,h2,h3,h4,h5⟩:=xc
 have e:C.xc i = .ref ad:=by show (C.mg (xName i)).getD .none=_; rw [h1]; rfl
 refine ⟨fun W _ σ H=>W (.ref ad) none σ H,fun X S W T=>?_,fun W D σ Γ F0 H0 F H g h=>?_⟩
 ·exact ps_raise (S.c rfl) T (pmk_own PySem.F.excBase_ValueError (by rw [S.K]; exact h2) (by rw [S.toSta.mg]; exact h1) (by rw [S.K]; exact h3) (raises_own (by rw [S.K]; exact h4) (by rw [S.K]; exact h5)) (S.toSta.gl hg) hdb)
 ·have:=h σ F H g
  rw [e] at this
  exact this
end
end Vl
end
section
set_option Elab.async false
set_option linter.all false
set_option maxRecDepth 100000
set_option maxHeartbeats 1000000
namespace Vl
open PySem L2 Vm PyProof.Rows
section
variable {C:Cn} {cm:Bool} {k:Nat} {N:List Str} {sc so:Scope} {a b c e o tg:Expr} {es:List Expr} {A B:EX} {As:EXs} {T U:TX} {pos p tpos apos cpos p1:Pos} {X:Cx} {x:Str} {elts:List Expr} {kk:Nat}
end
end Vl
end
section
set_option Elab.async false
set_option linter.all false
set_option maxRecDepth 100000
set_option maxHeartbeats 1000000
namespace Vl
open PySem PySem.Calls PySem.W L2 Vm PyProof.Rows
theorem tkLt_is(x y:Tk):itemOrd.blt x y=tkLt x y:=by
 cases x <;> cases y <;> rfl
theorem lexT_is:∀ (a b:List Tk),PyProof.Rows.lexLt itemOrd a b=lexT a b
 | [],[]=>rfl
 | [],_ :: _=>rfl
 | _ :: _,[]=>rfl
 | x :: r,y :: t=>by
  rw [PyProof.Rows.lex_cons,lexT,lexT_is r t,tkLt_is,tkLt_is]
mutual
theorem toks_dat:∀ (n:Nat) (p:PV),shp n p=true→keyToks (dat p)=toks p
 | _,.non,_=>rfl
 | _,.bl b,_=>rfl
 | _,.int i,_=>rfl
 | _,.str l,_=>rfl
 | 0,.tup l,h=>by simp at h
 | 0,.lst l,h=>by simp at h
 | n+1,.tup l,h=>by rw [dat,keyToks,toks]; exact toks_datL n l (by simpa using h)
 | n+1,.lst l,h=>by rw [dat,keyToks,toks]; exact toks_datL n l (by simpa using h)
 | _,.dic _ _,h=>by simp at h
 | _,.exo _ _,h=>by simp at h
theorem toks_datL:∀ (n:Nat) (l:List PV),shpL n l=true→keyToksAll (datL l)=toksL l
 | _,[],_=>rfl
 | n,x :: xs,h=>by
  rw [shpL,Bool.and_eq_true] at h
  rw [datL,keyToksAll,toksL,toks_dat n x h.1,toks_datL n xs h.2]
end
theorem ltv_is{n m:Nat}{p q:PV}(h:shp n p=true)(g:shp m q=true):dataLt (dat p) (dat q)=ltv p q:=by
 unfold dataLt ltv
 rw [lexT_is,toks_dat n p h,toks_dat m q g]
mutual
theorem alk_dat:∀ (n m:Nat) (p q:PV),shp n p=true→shp m q=true→alike (dat p) (dat q)=alk p q
 | _,_,.non,q,_,h=>by cases q <;> first | rfl | (simp at h)
 | _,_,.bl _,q,_,h=>by cases q <;> first | rfl | (simp at h)
 | _,_,.int _,q,_,h=>by cases q <;> first | rfl | (simp at h)
 | _,_,.str _,q,_,h=>by cases q <;> first | rfl | (simp at h)
 | n,m,.tup l,q,s,h=>by
  cases n with
  | zero=>simp at s
  | succ n =>
   cases q with
   | tup k =>
    cases m with
    | zero=>simp at h
    | succ m=>rw [dat,dat,alike,alk]; exact alk_datL n m l k (by simpa using s) (by simpa using h)
   | dic _=>simp at h
   | exo _ _=>simp at h
   | _=>rfl
 | n,m,.lst l,q,s,h=>by
  cases n with
  | zero=>simp at s
  | succ n =>
   cases q with
   | lst k =>
    cases m with
    | zero=>simp at h
    | succ m=>rw [dat,dat,alike,alk]; exact alk_datL n m l k (by simpa using s) (by simpa using h)
   | dic _=>simp at h
   | exo _ _=>simp at h
   | _=>rfl
 | _,_,.dic _ _,_,s,_=>by simp at s
 | _,_,.exo _ _,_,s,_=>by simp at s
theorem alk_datL:∀ (n m:Nat) (p q:List PV),shpL n p=true→shpL m q=true→alikeAll (datL p) (datL q)=alkL p q
 | _,_,[],q,_,_=>by cases q <;> rfl
 | _,_,_ :: _,[],_,_=>rfl
 | n,m,x :: xs,y :: ys,s,h=>by
  rw [shpL,Bool.and_eq_true] at s h
  rw [datL,datL,alikeAll,alkL,alk_dat n m x y s.1 h.1,alk_datL n m xs ys s.2 h.2]
end
theorem shpL_mem{n:Nat}:∀ {l:List PV} {p:PV},shpL n l=true→p∈l→shp n p=true
 | x :: xs,p,h,hp=>by
  rw [shpL,Bool.and_eq_true] at h
  rcases List.mem_cons.mp hp with e | hp
  ·rw [e]; exact h.1
  ·exact shpL_mem h.2 hp
theorem depth_mem{n:Nat}:∀ {l:List PyData},PyData.depthAll l≤n→∀ d∈l,d.depth≤n
 | x :: xs,h,d,hd=>by
  unfold PyData.depthAll at h
  rcases List.mem_cons.mp hd with e | hd
  ·rw [e]; omega
  ·exact depth_mem (l:=xs) (by omega) d hd
theorem ordOk_spec{l:List PV}(h:ordOk l=true):shpL 50 l=true∧(∀ x∈l,∀ y∈l,alk x y=true)∧∀ x∈l,isNon x=false:=by
 unfold ordOk at h
 rw [Bool.and_eq_true,List.all_eq_true] at h
 refine ⟨h.2,fun x hx y hy=>?_,fun x hx=>?_⟩
 ·have:=h.1 x hx
  rw [Bool.and_eq_true,List.all_eq_true] at this
  exact this.2 y hy
 ·have:=h.1 x hx
  rw [Bool.and_eq_true] at this
  simpa using this.1
theorem dat_non{n:Nat}{p:PV}(hs:shp n p=true)(h:isNon p=false):dat p ≠ .none:=by
 cases p <;> first | (cases h; done) | (simp at hs; done) | (intro z; cases z)
theorem alikeAll_of{l:List PV}(h:ordOk l=true):AlikeAll (datL l):=by
 obtain ⟨h1,h2,h3⟩:=ordOk_spec h
 rw [datL_map]
 refine ⟨fun x hx y hy=>?_,fun x hx=>?_⟩
 ·obtain ⟨p,hp,rfl⟩:=List.mem_map.mp hx
  obtain ⟨q,hq,rfl⟩:=List.mem_map.mp hy
  rw [alk_dat 50 50 p q (shpL_mem h1 hp) (shpL_mem h1 hq)]
  exact h2 p hp q hq
 ·obtain ⟨p,hp,rfl⟩:=List.mem_map.mp hx
  exact dat_non (shpL_mem h1 hp) (h3 p hp)
section
variable {X:Cx}
end
section
variable {C:Cn} {cm:Bool} {k:Nat} {N:List Str} {sc so:Scope} {a b c e o tg:Expr} {es:List Expr} {A B:EX} {As:EXs} {T U:TX} {pos p tpos apos cpos p1 kpos:Pos} {X:Cx} {x:Str} {elts:List Expr} {kk:Nat}
end
theorem repL_zip{K:KK}{F:Hp}:∀ {z:List (V×PV)},(∀ x∈z,Rep K F x.2 x.1)→RepL K F (z.map (·.2)) (z.map (·.1))
 | [],_=>RepL.nil
 | x :: z,h=>RepL.cons (h x (by simp)) (repL_zip fun y hy=>h y (by simp [hy]))
theorem repL_each{K:KK}{F:Hp}:∀ {l:List PV} {us:List V},RepL K F l us→∀ x∈us.zip l,Rep K F x.2 x.1
 | [],us,h,x,hx=>by simp at hx
 | p :: l,us,h,x,hx=>by
  unfold RepL at h
  obtain ⟨v,r,rfl,h1,h2⟩:=h
  rw [List.zip_cons_cons] at hx
  rcases List.mem_cons.mp hx with e | hx
  ·subst e; exact h1
  ·exact repL_each h2 x hx
theorem eachZ:∀ {us:List V} {its:List Value} {l:List PV},Vals us its→us.length=l.length→PySem.W.EachIs (fun (v:Value) (b:V×PV)=>RelV b.1 v) its (us.zip l)
 | [],_,[],.nil,_=>.nil
 | u :: us,_,p :: l,.cons r t,h=>.cons r (eachZ t (by simpa using h))
 | [],_,_ :: _,_,h=>by simp at h
 | _ :: _,_,[],_,h=>by simp at h
theorem each_vals:∀ {out:List Value} {z:List (V×PV)},PySem.W.EachIs (fun (v:Value) (b:V×PV)=>RelV b.1 v) out z→Vals (z.map (·.1)) out
 | _,_,.nil=>.nil
 | _,_,.cons r t=>.cons r (each_vals t)
section
variable {C:Cn} {cm:Bool} {k:Nat} {N:List Str} {sc so:Scope} {a b c e o tg:Expr} {es:List Expr} {A B:EX} {As:EXs} {T U:TX} {pos p tpos apos cpos p1 kpos:Pos} {X:Cx} {x:Str} {elts:List Expr} {kk:Nat}
end
end Vl
end
section
set_option Elab.async false
set_option linter.all false
set_option maxRecDepth 100000
set_option maxHeartbeats 1000000
namespace HT
open PySem PySem.Spec PyProof.Rows L2
section
variable {prog:Program} {w:World} {A:Around} {E:Value→Shared→Prop} {s:Shared}
end
end HT
namespace Vl
open PySem L2 Vm PyProof.Rows
section
variable {X:Cx}
end
section
variable {C:Cn} {cm:Bool} {k:Nat} {N:List Str} {sc so:Scope} {a b c e o tg:Expr} {es:List Expr} {A B E:EX} {As:EXs} {T U:TX} {pos p tpos apos cpos p1 p2 p3 kpos:Pos} {X:Cx} {x:Str} {elts:List Expr} {kk:Nat}
structure CmpI (C:Cn) (cm:Bool) (k:Nat) (N:List Str) (sc:Scope) (op:CmpOp) (f:PV→PV→Res PV):Prop where
 x:∃ r,(∀ X,Sta C cm k N sc X→OpR X (compareOp op) r)∧Op2 C r f
 b:∀ p q z,f p q = .ok z→∃ b:Bool,z = .bl b
end
end Vl
end
section
set_option Elab.async false
set_option linter.all false
set_option maxRecDepth 100000
set_option maxHeartbeats 1000000
namespace Vl
open PySem L2 Vm PyProof.Rows
section
variable {C:Cn} {cm:Bool} {k:Nat} {N:List Str} {sc so:Scope} {a b c e o tg:Expr} {es:List Expr} {A B E:EX} {As:EXs} {T U:TX} {pos p tpos apos cpos p1 p2 p3 kpos:Pos} {X:Cx} {x:Str} {elts:List Expr} {kk:Nat}
end
end Vl
end
section
set_option Elab.async false
set_option linter.all false
set_option maxRecDepth 100000
set_option maxHeartbeats 1000000
namespace L2
open PySem PySem.Spec PyProof.Rows
theorem tuple_mulS(l:Addr)(items:Array Value)(n:Nat)(dd:Option Addr)(sl:Array (Option Value))(x:Int)(u:Tok)(c0:(decide (x < -(2 ^ 63)) || decide (x ≥ 2 ^ 63))=false)(c1:(items.isEmpty || x == 1)=true) :
  Meets (Builtin.«tuple.__mul__» ⟨[.ref l,.int x u],[]⟩) (fun _ R s=>s.heap.get? l=some { cls:=.type "tuple",dict:=dd,data:=.seq items n,slots:=sl }∧R (.ok (.ret (Value.ref l))) s) :=
 .of_wp fun prog w A R s h=>by
  obtain ⟨hp,g,d,tk,os⟩:=s
  obtain ⟨hl,h⟩:=h
  have f1:=AutoSeq1.idx_int
  wp_walk using wpAny_loadPart' hl
  repeat (first
   | (refine wpAny_ite_false (decide_eq_false (by rw [c0]; exact Bool.false_ne_true)) ?_; wp_walk using wpAny_loadPart' hl)
   | (refine wpAny_ite_true (decide_eq_true c1) ?_; wp_walk using wpAny_loadPart' hl))
  exact ⟨_,rfl,h⟩
theorem tuple_mulZ(l:Addr)(items:Array Value)(n:Nat)(dd:Option Addr)(sl:Array (Option Value))(x:Int)(u:Tok)(c0:(decide (x < -(2 ^ 63)) || decide (x ≥ 2 ^ 63))=false)(c1:(items.isEmpty || x == 1)=false)(c2:(decide (x≤0) || items.isEmpty)=true) :
  Meets (Builtin.«tuple.__mul__» ⟨[.ref l,.int x u],[]⟩) (fun _ R s=>s.heap.get? l=some { cls:=.type "tuple",dict:=dd,data:=.seq items n,slots:=sl } ∧
   R (.ok (.ret (Value.ref s.heap.objs.size))) { s with heap:=s.heap.push { cls:=Value.type "tuple",data:=Data.seq #[] },toks:=s.toks }) :=
 .of_wp fun prog w A R s h=>by
  obtain ⟨hp,g,d,tk,os⟩:=s
  obtain ⟨hl,h⟩:=h
  have f1:=AutoSeq1.idx_int
  wp_walk using wpAny_loadPart' hl
  repeat (first
   | (refine wpAny_ite_false (decide_eq_false (by rw [c0]; exact Bool.false_ne_true)) ?_; wp_walk using wpAny_loadPart' hl)
   | (refine wpAny_ite_false (decide_eq_false (by rw [c1]; exact Bool.false_ne_true)) ?_; wp_walk using wpAny_loadPart' hl)
   | (refine wpAny_ite_true (decide_eq_true c2) ?_; wp_walk using wpAny_loadPart' hl))
  exact ⟨_,rfl,h⟩
section
variable {X:Cx}
def rMulT(K:PySem.W.Frag):R2:=fun x y H Q=>∃ l k xs,x = .ref l∧y = .int k∧SqT K H l xs∧-1000≤k∧k≤1000∧xs.length≤1000∧(xs=[] ∨ k=1→Q (.ref l) H)∧(xs ≠ []→k ≠ 1→NewT (List.replicate k.toNat xs).flatten H Q)
theorem op_mulT:OpR X (binaryOp .Mult) (rMulT X.K):=by
 intro pins s σ H x y v u Q I rx ry h
 obtain ⟨l,k,xs,rfl,rfl,hT,h0,h2,hz,q0,q⟩:=h
 by_cases hsame:xs=[] ∨ k=1
 ·cases rx
  obtain ⟨t,rfl⟩:=ry
  obtain ⟨its,r,⟨⟨cls,dd,data,sl⟩,ho,hc,n,hd⟩,hs⟩:=I.tuple hT
  simp only at hc hd
  subst hc hd
  have c0:(decide (k < -(2 ^ 63)) || decide (k ≥ 2 ^ 63))=false:=by
   rw [decide_eq_false (by omega),decide_eq_false (by omega)] <;> rfl
  have c1:(its.toArray.isEmpty || k == 1)=true:=by
   rcases hsame with e | e
   ·have:its=[]:=by
     have:=r.length
     rw [e] at this
     exact List.eq_nil_of_length_eq_zero this.symm
    subst this; rfl
   ·rw [e]; simp
  exact wpAny_binaryOp_repeat_ref (T:="tuple") (U:="int") (by decide) ⟨_,ho,rfl⟩ (fun s'=>typeIs_int s' k t) noFill_tuple_mul F.fills_int_mul F.slot_int_rmul repeat_tuple F.slot_int_index.lookup
   (call_meets F.slot_int_rmul (typeIs_int s k t) F.entry_int_rmul (F.args_int_rmul_2 _ _) (int_rmul_tuple k t l its.toArray n dd sl)
    ⟨ho,rfl,⟨_,ho,rfl⟩,call_meets F.slot_tuple_mul ⟨_,ho,rfl⟩ F.entry_tuple_mul (F.args_tuple_mul_2 _ _) (tuple_mulS l its.toArray n dd sl k t c0 c1) ⟨ho,.ref l,H,I,rfl,q0 hsame⟩⟩)
 ·have hne:xs ≠ []:=fun e=>hsame (.inl e)
  have hk1:k ≠ 1:=fun e=>hsame (.inr e)
  by_cases h1:2≤k
  ·exact op_repD pins s σ H _ _ v u Q I rx ry ⟨l,k,xs,rfl,rfl,hT,hne,h1,h2,hz,q hne hk1⟩
  ·cases rx
   obtain ⟨t,rfl⟩:=ry
   obtain ⟨its,r,⟨⟨cls,dd,data,sl⟩,ho,hc,n,hd⟩,hs⟩:=I.tuple hT
   simp only at hc hd
   subst hc hd
   have hn:its ≠ []:=fun e=>hne (by
    have:=r.length
    rw [e] at this
    exact List.eq_nil_of_length_eq_zero this)
   have hi:its.toArray.isEmpty=false:=by
    cases its with
    | nil=>exact absurd rfl hn
    | cons a b=>rfl
   have c0:(decide (k < -(2 ^ 63)) || decide (k ≥ 2 ^ 63))=false:=by
    rw [decide_eq_false (by omega),decide_eq_false (by omega)] <;> rfl
   have c1:(its.toArray.isEmpty || k == 1)=false:=by
    rw [hi,Bool.false_or]
    exact beq_eq_false_iff_ne.mpr (by omega)
   have c2:(decide (k≤0) || its.toArray.isEmpty)=true:=by
    rw [decide_eq_true (by omega)]; rfl
   have hq:=q hne hk1
   rw [show k.toNat=0 by omega,List.replicate_zero,List.flatten_nil] at hq
   refine wpAny_binaryOp_repeat_ref (T:="tuple") (U:="int") (by decide) ⟨_,ho,rfl⟩ (fun s'=>typeIs_int s' k t) noFill_tuple_mul F.fills_int_mul F.slot_int_rmul repeat_tuple F.slot_int_index.lookup
    (call_meets F.slot_int_rmul (typeIs_int s k t) F.entry_int_rmul (F.args_int_rmul_2 _ _) (int_rmul_tuple k t l its.toArray n dd sl)
     ⟨ho,rfl,⟨_,ho,rfl⟩,call_meets F.slot_tuple_mul ⟨_,ho,rfl⟩ F.entry_tuple_mul (F.args_tuple_mul_2 _ _) (tuple_mulZ l its.toArray n dd sl k t c0 c1 c2) ⟨ho,?_⟩⟩)
   exact newD (its:=[]) s.toks I (Nat.zero_le _) .nil hq
def rMulL(K:PySem.W.Frag):R2:=fun x y H Q=>∃ l k xs,x = .ref l∧y = .int k∧SqL K H l xs∧-(2 ^ 63)≤k∧k < 2 ^ 63∧xs.length * k.toNat≤sizeLine ∧
 ∀ p,H p=none→Q (.ref p) (upd H p (.lst (List.replicate k.toNat xs).flatten))
theorem op_mulL:OpR X (binaryOp .Mult) (rMulL X.K):=by
 intro pins s σ H x y v u Q I rx ry h
 obtain ⟨l,k,xs,rfl,rfl,hH,h1,h2,hz,q⟩:=h
 cases rx
 obtain ⟨t,rfl⟩:=ry
 obtain ⟨its,r,⟨⟨cls,dd,data,sl⟩,n,e,hc,hd1,hd⟩,hl⟩:=I.list hH
 simp only at hc hd
 subst hc hd
 have hlx:xs.length=its.length:=r.length
 have hlen:its.toArray.size * k.toNat≤sizeLine:=by rw [List.size_toArray,← hlx]; exact hz
 have hcap:¬ its.toArray.size * k.toNat > (2 ^ 63 - 1) / 8:=by
  have:(sizeLine:Nat)≤(2 ^ 63 - 1) / 8:=by decide
  omega
 have hfit:¬ (!Builtin.List.listFitsIndex k)=true:=by
  rw [fitsIndex_both h1 h2]
  exact Bool.false_ne_true
 have hlong:¬ Builtin.List.listTooLong (its.toArray.size * k.toNat)=true:=by
  rw [notLongL hlen]
  exact Bool.false_ne_true
 have hnew:List.foldl (fun x1 x2=>x1++x2) #[] (List.replicate (if its.toArray.isEmpty=true then 0 else k.toNat) its.toArray)=(List.replicate k.toNat its).flatten.toArray:=by
  have f0:∀ m:Nat,List.foldl (fun x1 x2=>x1++x2) #[] (List.replicate m its.toArray)=(List.replicate m its).flatten.toArray:=fun m=>by
   have:=foldl_rep its m []
   rw [List.nil_append] at this
   exact this
  rw [f0]
  cases its with
  | nil=>simp
  | cons a r'=>rw [if_neg (by simp)]
 refine wpAny_binaryOp_repeat_ref (T:="list") (U:="int") (by decide) ⟨_,e,rfl⟩ (fun s'=>typeIs_int s' k t) noFill_list_mul F.fills_int_mul F.slot_int_rmul repeat_list F.slot_int_index.lookup
  (call_meets F.slot_int_rmul (typeIs_int s k t) F.entry_int_rmul (F.args_int_rmul_2 _ _) (lm_int_rmul_list_any k t l its.toArray n dd sl)
   ⟨e,rfl,⟨_,e,rfl⟩,call_meets F.slot_list_mul ⟨_,e,rfl⟩ F.entry_list_mul (F.args_list_mul_2 _ _) (lm_list_mul_any l its.toArray n dd sl k t hfit hcap hlong) ⟨e,?_⟩⟩)
 rw [hnew]
 exact ⟨.ref _,_,I.lnew (t':=s.toks) (r.rep k.toNat) (by rw [PyProof.Rows.lm_len_rep_flat,Nat.mul_comm]; exact hz),rfl,q _ I.fresh⟩
end
end L2
namespace Vl
open PySem L2 Vm PyProof.Rows
section
variable {C:Cn} {cm:Bool} {k:Nat} {N:List Str} {sc:Scope} {a b:Expr} {A B:EX} {pos:Pos} {X:Cx}
theorem de_mul2(ha:DE C cm k N sc a A)(hb:DE C cm k N sc b B):DE C cm k N sc (.BinOp a .Mult b pos) (eMul2 A B):=by
 obtain ⟨ta,pa,qa⟩:=ha
 obtain ⟨tb,pb,qb⟩:=hb
 refine ⟨fun W=>tOp (fun x y H Q=>rMulL C.K x y H Q ∨ rMulT C.K x y H Q ∨ rI (fun i j=>mulOk i j=true) (fun i j=>.int (i * j)) x y H Q) (ta W) (tb W),fun X S W T=>by rw [← S.K]; exact pe_op (op_mulL.or (op_mulT.or op_mulV)) (pa X S W T) (pb X S W T),fun W σ Γ F0 H0 F H Q g h=>?_⟩
 refine qa W σ Γ F0 H0 F H _ g (EOk.bind h fun x v F1 H1 ex e1 r1 h1=>?_)
 refine qb W σ Γ F0 H0 F1 H1 _ (g.next e1) (EOk.bind (h1.next e1) fun y u F2 H2 ey e2 r2 h2=>?_)
 have h3:=h2.next e2
 have rx:=r1.ext e2
 have ex':=rx.rep e2.fh
 have ey':=r2.rep e2.fh
 obtain ⟨t,p⟩:=x
 obtain ⟨t',q⟩:=y
 have fin:Ext F2 H2 F2 H2:=Ext.refl e2.fh e2.tp
 cases q with
 | int j =>
  unfold Rep at ey'
  subst ey'
  cases p with
  | int i =>
   unfold Rep at ex'
   subst ex'
   have h4:EOk C W σ F2 H2 Q ((if mulOk i j then .ok (.int (i * j)) else .bad:Res PV).bind fzv):=h3
   by_cases hm:mulOk i j=true
   ·rw [if_pos hm] at h4
    exact .inr (.inr ⟨i,j,rfl,rfl,hm,h4 _ F2 H2 fin (.fz rep_int)⟩)
   ·rw [if_neg hm] at h4; exact h4.elim
  | lst l =>
   have h4:EOk C W σ F2 H2 Q (if flat1 t && repOk l.length j then .ok (.ow 1,.lst (List.replicate j.toNat l).flatten) else .bad):=h3
   by_cases hc:(flat1 t && repOk l.length j)=true
   ·rw [if_pos hc] at h4
    rw [Bool.and_eq_true] at hc
    have hc2:=repOk_iff.mp hc.2
    obtain ⟨ad,vs,rfl,s5,r3⟩:=rv_flat e2.fh rx hc.1
    refine .inl ⟨_,j,vs,rfl,rfl,s5,by omega,by omega,by rw [r3.len,← szL_eq]; exact hc2.2.2,fun p hp=>?_⟩
    exact h4 _ F2 _ (Ext.lst e2.fh e2.tp hp) (rv_new (rep_flat r3 j.toNat) upd_same (e2.fh.free hp) hp)
   ·rw [if_neg hc] at h4; exact h4.elim
  | tup l =>
   have h4:EOk C W σ F2 H2 Q (if repT l.length j then .ok (.fz,.tup (List.replicate j.toNat l).flatten) else .bad):=h3
   by_cases hc:repT l.length j=true
   ·rw [if_pos hc] at h4
    unfold repT at hc
    rw [Bool.and_eq_true,Bool.and_eq_true,decide_eq_true_iff,decide_eq_true_iff,decide_eq_true_iff] at hc
    obtain ⟨ad,vs,rfl,s2,r3⟩:=rv_tup rx
    refine .inr (.inl ⟨ad,j,vs,rfl,rfl,(TupAt.sq (TupAt.mono e2.fh s2)),hc.1.2,hc.1.1,by rw [r3.len]; exact hc.2,fun z=>?_,fun _ _ p o hp hd=>?_⟩)
    ·have e:(List.replicate j.toNat l).flatten=l:=by
      rcases z with z | z
      ·subst z
       have hl:l=[]:=List.eq_nil_of_length_eq_zero (by have:=r3.len; simpa using this.symm)
       subst hl
       simp
      ·subst z; simp
     rw [e] at h4
     refine h4 _ F2 H2 fin (.fz ?_)
     unfold Rep
     exact ⟨ad,vs,rfl,s2,r3⟩
    ·refine h4 _ (upd F2 p (tq (o,(List.replicate j.toNat vs).flatten))) _ (Ext.tup e2.fh e2.tp hp) (.fz ?_)
     unfold Rep
     exact ⟨p,_,rfl,.new hd,(rep_flat r3 j.toNat).mono (same_new (e2.fh.free hp)) _ _⟩
   ·rw [if_neg hc] at h4; exact h4.elim
  | _=>exact h3.elim
 | _=>cases p <;> exact h3.elim
end
end Vl
end
section
set_option Elab.async false
set_option linter.all false
set_option maxRecDepth 100000
set_option maxHeartbeats 1000000
namespace Vl
open PySem L2 Vm PyProof.Rows
section
variable {C:Cn} {cm:Bool} {k:Nat} {N:List Str} {sc:Scope} {a b:Expr} {A B:EX} {pos:Pos} {X:Cx}
end
end Vl
end
section
set_option Elab.async false
set_option linter.all false
set_option maxRecDepth 100000
set_option maxHeartbeats 1000000
namespace Vl
open PySem L2 Vm PyProof.Rows
section
variable {C:Cn} {cm:Bool} {k:Nat} {N:List Str} {sc:Scope} {pos np pos':Pos} {X:Cx} {d e:ST} {body suite:List Stmt} {b₀:Stmt}
def Xs(C:Cn)(j:Nat)(cs:List (Nat×Bool)):Prop:=∃ ad:Addr,C.mg (xName j)=some (.ref ad)∧∀ c b,takesC cs c=some b→PySem.W.exmOne C.K (C.xc c) (.ref ad)=some b
theorem sta_tr{pn:List (Addr×Obj)}{xe:Value→Shared→Prop}(S:StaS C cm k N sc X)(hp:PassesOwn (model X.prog X.w) X.A X.env xe):StaS C cm k N sc (X.tr pn xe) :=
 ⟨⟨S.cn,S.n,S.s,S.nd,S.c,S.r,S.u⟩,hp,S.rq,S.sk,S.fr⟩
theorem sta_suite{a:Addr}{pn:List (Addr×Obj)}(S:StaS C cm k N sc X):StaS C false k N sc (X.suite a pn) :=
 ⟨⟨S.cn,S.n,S.s,S.nd,(fun h=>nomatch h),(fun h=>nomatch h),S.u⟩,PassesOwn.never,S.rq,S.sk,S.fr⟩
def XsA(C:Cn)(ad:Addr)(cs:List (Nat×Bool)):Prop:=∀ c b,takesC cs c=some b→PySem.W.exmOne C.K (C.xc c) (.ref ad)=some b
theorem XsA.nil{ad:Addr}:XsA C ad []:=fun c b h=>by cases h
theorem XsA.cons{ad a:Addr}{c:Nat}{b:Bool}{cs:List (Nat×Bool)}(hc:C.mg (xName c)=some (.ref a))(hx:PySem.W.exmOne C.K (.ref a) (.ref ad)=some b)(r:XsA C ad cs):XsA C ad ((c,b) :: cs):=fun c' b' h=>by
 unfold takesC at h
 by_cases e:c=c'
 ·subst e
  rw [List.find?_cons_of_pos (by simp)] at h
  cases h
  have e2:C.xc c = .ref a:=by show (C.mg (xName c)).getD .none=_; rw [hc]; rfl
  rw [e2]; exact hx
 ·rw [List.find?_cons_of_neg (by simpa using e)] at h
  exact r c' b' h
theorem Xs.of{ad:Addr}{j:Nat}{cs:List (Nat×Bool)}(h:C.mg (xName j)=some (.ref ad))(r:XsA C ad cs):Xs C j cs:=⟨ad,h,r⟩
end
end Vl
end
section
set_option linter.all false
set_option maxHeartbeats 1000000
namespace Vm
def isC(tab:List (Nat×Bool))(c:Nat):Bool:=((takesC tab c).getD false)
def isCs(tabs:List (List (Nat×Bool)))(c:Nat):Bool:=tabs.any fun t=>isC t c
@[simp] def eIsC (tab:List (Nat×Bool)) (c:Nat):EX:=fun _=>.ok (.fz,.bl (isC tab c))
@[simp] def eIsCs (tabs:List (List (Nat×Bool))) (c:Nat):EX:=fun _=>.ok (.fz,.bl (isCs tabs c))
@[simp] def dTryC (cs:List (Nat×Bool)) (i:Nat) (b:ST) (h:Nat→ST):ST:=fun Γ=>match b Γ with
 | .exc c Γ'=>match takesC cs c with
  | some true=>if Nat.ble (i+1) Γ'.length then match h c (Γ'.set i none) with
   | .nx Γ2=>.nx (Γ2.set i none)
   | _=>.bad
   else .bad
  | some false=>.exc c Γ'
  | none=>.bad
 | o=>o
@[simp] def dRetF (e:EX):ST:=fun Γ=>aft (e Γ) Γ fun x=>aft (putV x) Γ fun p=>.rt .fz p Γ
end Vm
end
section
set_option Elab.async false
set_option linter.all false
set_option maxRecDepth 100000
set_option maxHeartbeats 1000000
namespace Vl
open PySem L2 Vm PyProof.Rows
section
variable {C:Cn} {cm:Bool} {k i c:Nat} {N:List Str} {sc:Scope} {pos np pos' p p1 p2:Pos} {X:Cx} {d d':ST} {a b e:Expr} {es:List Expr} {A B:EX} {As:EXs} {st:Stmt} {sts:List Stmt}
def ExAt(C:Cn)(c:Nat)(X:Cx)(ad:Addr):Prop:=∃ oe,(ad,oe)∈X.pn∧Zc (C.xc c) none oe∧∃ vs,oe.data = .fields vs
variable (C k N sc) in
def DE2 (c i:Nat) (e:Expr) (E:EX):Prop:=∃ tb:Addr→WX→TE,(∀ X a,Sta C false k N sc X→ExAt C c X a→∀ W,Takes X W→PE X e (tb a W)) ∧
 ∀ a W σ Γ F0 H0 F H Q,Good C.K F0 H0 Γ σ F H→σ[i]? = some (some (.ref a))→EOk C W σ F H Q (E Γ)→tb a W σ H Q
variable (C k N sc) in
def DA2 (c i:Nat) (es:List Expr) (E:EXs):Prop:=∃ tb:Addr→WX→TA,(∀ X a,Sta C false k N sc X→ExAt C c X a→∀ W,Takes X W→PA X es (tb a W)) ∧
 ∀ a W σ Γ F0 H0 F H Q,Good C.K F0 H0 Γ σ F H→σ[i]? = some (some (.ref a))→AOk C W σ F H Q (E Γ)→tb a W σ H Q
def Ends.at(D:Ends)(i:Nat)(a:Addr):Ends:={ D with nx:=fun σ H=>σ[i]? = some (some (.ref a))→D.nx σ H }
variable (C k N sc) in
def DS2 (c i:Nat) (st:Stmt) (d:ST):Prop:=∃ tb:Addr→WX→TS,(∀ X a,StaS C false k N sc X→ExAt C c X a→∀ W,Takes X W→PS X st (tb a W)) ∧
 ∀ a W D σ Γ F0 H0 F H,GoodS C.K F0 H0 Γ σ F H→σ[i]? = some (some (.ref a))→OutOk C W F0 H0 (Ends.at D i a) (d Γ)→tb a W D σ H
variable (C k N sc) in
def DSs2 (c i:Nat) (st:List Stmt) (d:ST):Prop:=∃ tb:Addr→WX→TS,(∀ X a,StaS C false k N sc X→ExAt C c X a→∀ W,Takes X W→PSs X st (tb a W)) ∧
 ∀ a W D σ Γ F0 H0 F H,GoodS C.K F0 H0 Γ σ F H→σ[i]? = some (some (.ref a))→OutOk C W F0 H0 (Ends.at D i a) (d Γ)→tb a W D σ H
structure Iq (C:Cn) (y:Str) (tab:List (Nat×Bool)):Prop where
 ex:∃ (v:V) (u:Value),(C.mg y=some u ∨ (C.mg y=none∧bootBuiltins y=some u∧y ≠ "__name__"))∧RelV v u∧(∀ u',RelV v u'→u'=u) ∧
  ∀ c b,takesC tab c=some b→∃ D:Addr,C.xc c = .ref D∧ExcC C.K D∧PySem.W.kitOne C.K (.ref D) u=some b
theorem pe_nm {y:Str} {v:V} {u:Value} (hg:Gl X y) (h:X.mg y=some u ∨ (X.mg y=none∧bootBuiltins y=some u∧y ≠ "__name__")) (r:RelV v u) (hd:(y == ("__debug__":Str))=false):PE X (.Name y pos) (tC v):=by
 rcases h with h | ⟨h1,h2,h3⟩
 ·exact pe_glob hg h r hd
 ·exact pe_bltn hg h1 h2 r h3 hd
theorem isC_of{tab:List (Nat×Bool)}{b:Bool}(h:takesC tab c=some b):isC tab c=b:=by unfold isC; rw [h]; rfl
def tCl:List V→TA
 | []=>tNil
 | v :: r=>tCons (tC v) (tCl r)
theorem tCl_run:∀ (vs:List V) {σ:L2.St} {H:Hp} {Q:List V→Hp→Prop},Q vs H→tCl vs σ H Q
 | [],_,_,_,h=>h
 | v :: r,_,_,_,h=>tCl_run r (Q:=fun xs H2=>_) h
variable (C k N sc) in
def TCs (c:Nat) (es:List Expr) (tabs:List (List (Nat×Bool))):Prop:=∃ (vs:List V) (us:List Value),(∀ X,Sta C false k N sc X→PA X es (tCl vs))∧vs.length=tabs.length∧(∀ us',Vals vs us'→us'=us) ∧
 ∀ D,C.xc c = .ref D→PySem.W.kitAny C.K (.ref D) us=some (isCs tabs c)
theorem Iq.dd{y:Str}{tab:List (Nat×Bool)}(iq:Iq C y tab)(hc:(takesC tab c).isSome=true):∃ D,C.xc c = .ref D∧ExcC C.K D:=by
 obtain ⟨⟨v,u,hm,hr,hinj,hk⟩⟩:=iq
 obtain ⟨b,hb⟩:=Option.isSome_iff_exists.mp hc
 obtain ⟨D,hD,hE,hkit⟩:=hk c b hb
 exact ⟨D,hD,hE⟩
def IqA(C:Cn)(u:Value)(tab:List (Nat×Bool)):Prop:=∀ c b,takesC tab c=some b→∃ D:Addr,C.xc c = .ref D∧ExcC C.K D∧PySem.W.kitOne C.K (.ref D) u=some b
theorem IqA.nil{u:Value}:IqA C u []:=fun c b h=>by cases h
theorem IqA.cons{u:Value}{ad:Addr}{c:Nat}{b:Bool}{cs:List (Nat×Bool)}(hc:C.mg (xName c)=some (.ref ad))(hE:ExcC C.K ad)(hx:PySem.W.kitOne C.K (.ref ad) u=some b)(r:IqA C u cs):IqA C u ((c,b) :: cs):=fun c' b' h=>by
 unfold takesC at h
 by_cases e:c=c'
 ·subst e
  rw [List.find?_cons_of_pos (by simp)] at h
  cases h
  have e2:C.xc c = .ref ad:=by show (C.mg (xName c)).getD .none=_; rw [hc]; rfl
  exact ⟨ad,e2,hE,hx⟩
 ·rw [List.find?_cons_of_neg (by simpa using e)] at h
  exact r c' b' h
theorem Iq.ofC{y:Str}{tab:List (Nat×Bool)}{ad:Addr}(h:C.mg y=some (.ref ad))(r:IqA C (.ref ad) tab):Iq C y tab:=⟨.ref ad,.ref ad,.inl h,rfl,fun u' h=>by cases h; rfl,r⟩
theorem Iq.ofB {y:Str} {tab:List (Nat×Bool)} {t:String} (h:C.mg y=none) (hb:bootBuiltins y=some (.type t)) (hn:y ≠ "__name__") (r:IqA C (.type t) tab):Iq C y tab:=⟨.ty t,.type t,.inr ⟨h,hb,hn⟩,rfl,fun u' h=>by cases h; rfl,r⟩
theorem good_hold{K:KK}{F0 H0 F H:Hp}{Γ:En}{σ:L2.St}{v:Option V}(g:GoodS K F0 H0 Γ σ F H)(hi:Γ.get i=none):GoodS K F0 H0 Γ (σ.set i v) F H:=by
 obtain ⟨⟨e,l,fp,h1,h2⟩,nb⟩:=g
 refine ⟨⟨e,by rw [List.length_set]; exact l,fp,fun j x hj=>?_,h2⟩,nb⟩
 obtain ⟨u,h3,h4⟩:=h1 j x hj
 refine ⟨u,?_,h4⟩
 by_cases q:i=j
 ·subst q; rw [hi] at hj; cases hj
 ·rw [List.getElem?_set_ne q]; exact h3
theorem get_set_none(Γ:En)(i:Nat):En.get (Γ.set i none) i=none:=by
 rw [get_set]
 split
 ·rfl
 ·rename_i h
  unfold En.get
  by_cases q:i < Γ.length
  ·exact absurd ⟨rfl,q⟩ h
  ·simp [List.getD,List.getElem?_eq_none (Nat.le_of_not_lt q)]
theorem good_drop{F0 H0 F H:Hp}{Γ:En}{σ:L2.St}(g:GoodS C.K F0 H0 Γ σ F H):GoodS C.K F0 H0 (Γ.set i none) σ F H:=g.forget [i]
end
end Vl
end
section
set_option Elab.async false
set_option linter.all false
set_option maxRecDepth 100000
set_option maxHeartbeats 1000000
namespace Vl
open PySem L2 Vm PyProof.Rows
section
variable {C:Cn} {cm:Bool} {k:Nat} {N:List Str} {sc:Scope} {pos p1 p2:Pos} {X:Cx}
end
end Vl
end
section
set_option linter.all false
set_option maxHeartbeats 1000000
namespace Vm
def dicAt(ks:List (List Nat))(ps:List PV)(s:List Nat):Option PV:=((ks.zip ps).find? fun kv=>decide (kv.1=s)).map (·.2)
@[simp] def dDispRet (i:Nat) (ks:List (List Nat)) (as:EXs) (b:EX):ST:=fun Γ=>if Nat.ble (i+1) Γ.length && (Γ.get i).isNone then aft (as Γ) Γ fun xs=>aft (putVs xs) Γ fun ps=>aft (b Γ) Γ fun y=>match y.2 with
 | .str s=>(match dicAt ks ps s with
  | some p=>.rt .fz p Γ
  | none=>.bad)
 | _=>.bad
 else .bad
end Vm
end
section
set_option Elab.async false
set_option linter.all false
set_option maxRecDepth 100000
set_option maxHeartbeats 1000000
namespace Vl
open PySem L2 Vm PyProof.Rows
section
variable {C:Cn} {cm:Bool} {k i:Nat} {N:List Str} {sc:Scope} {pos p1 p2 dpos apos spos rpos:Pos} {X:Cx} {e b:Expr} {A B:EX} {As:EXs}
theorem Ext.any{F H:Hp}(h:Same F H)(t:Tups F H){p:Addr}{o:HO}(ho:∀ xs,o ≠ tq xs)(hp:H p=none):Ext F H F (upd H p o) :=
 ⟨Same.refl _,same_new hp,h.trans (same_new hp),tups_new t ho (h.free hp),fun _ q=>.inl q⟩
variable (C cm k N sc dpos) in
def DP (keys:List (Option Expr)) (values:List Expr) (ks:List Str) (As:EXs):Prop:=∃ tb:WX→List (TE×TE),(∀ X,Sta C cm k N sc X→∀ W,Takes X W→PPs X dpos keys values (tb W)) ∧
 ∀ W σ Γ F0 H0 F H (Q:List (V×V)→Hp→Prop),Good C.K F0 H0 Γ σ F H→AOk C W σ F H (fun vs H'=>vs.length=ks.length→Q ((ks.map V.str).zip vs) H') (As Γ)→tPairs (tb W) σ H Q
end
end Vl
end
section
set_option linter.all false
set_option maxHeartbeats 1000000
namespace Vm
def tgEq:Tg→Tg→Bool
 | .fz,.fz=>true
 | .ow a,.ow b=>a == b
 | .bw a,.bw b=>a == b
 | _,_=>false
@[simp] def isOw:Tg→Bool
 | .ow _=>true
 | _=>false
def takeA(Γ:En):List (Nat×Tg)→Option (List PV)
 | []=>some []
 | (j,t) :: r=>match Γ.get j with
  | some (t',p)=>if tgEq t' t then (takeA Γ r).map (p :: ·) else none
  | none=>none
def putA(Γ:En):List (Nat×Tg)→List PV→En
 | (j,.ow d) :: r,p :: ps=>putA (Γ.set j (some (.ow d,p))) r ps
 | (_,_) :: r,_ :: ps=>putA Γ r ps
 | _,_=>Γ
def startM(ts:List Tg)(ps:List PV):En:=(ts.zip ps).map some
abbrev FM:=List PV→Res (List PV)
end Vm
end
section
set_option Elab.async false
set_option linter.all false
set_option maxRecDepth 100000
set_option maxHeartbeats 1000000
namespace Vl
open PySem L2 Vm PyProof.Rows
def OutK(C:Cn)(F0 H0:Hp)(D:Ends)(keep:List Nat)(σ0:L2.St):Out→Prop
 | .nx Γ=>∀ σ F H,GoodS C.K F0 H0 Γ σ F H→(∀ i∈keep,σ[i]? = σ0[i]?)→D.nx σ H
 | .bk Γ=>∀ σ F H,GoodS C.K F0 H0 Γ σ F H→(∀ i∈keep,σ[i]? = σ0[i]?)→D.bk σ H
 | .ct Γ=>∀ σ F H,GoodS C.K F0 H0 Γ σ F H→(∀ i∈keep,σ[i]? = σ0[i]?)→D.ct σ H
 | _=>False
section
variable {C:Cn} {cm:Bool} {k:Nat} {N:List Str} {sc so:Scope} {a b c e o tg:Expr} {es:List Expr} {A B:EX} {As:EXs} {T U:TX} {pos p tpos apos cpos p1:Pos} {X:Cx} {x:Str} {st:Stmt} {sts:List Stmt} {d d':ST} {keep:List Nat}
variable {F0 H0 F H F1 H1:Hp} {Γ:En} {σ:L2.St} {W:WX} {D:Ends}
theorem OutK.bind{f:TV→Out}{Q1:VK}{r:Res TV}(g:GoodS C.K F0 H0 Γ σ F H)(h:OutK C F0 H0 D keep σ (aft r Γ f))
  (q:∀ x v F1 H1,r = .ok x→Ext F H F1 H1→RV C.K F1 H1 H x v→OutK C F0 H0 D keep σ (f x)→Q1 v H1):EOk C W σ F H Q1 r:=by
 cases r with
 | ok x=>exact fun v F' H' e rv=>q x v F' H' rfl e rv h
 | exc c=>exact h.elim
 | bad=>exact h
theorem OutK.bindT{f:Bool→Out}{Q1:Bool→Hp→Prop}{r:Res Bool}(g:GoodS C.K F0 H0 Γ σ F H)(h:OutK C F0 H0 D keep σ (aft r Γ f))
  (q:∀ x F1 H1,r = .ok x→Ext F H F1 H1→OutK C F0 H0 D keep σ (f x)→Q1 x H1):TOk C W σ F H Q1 r:=by
 cases r with
 | ok x=>exact fun F' H' e=>q x F' H' rfl e h
 | exc c=>exact h.elim
 | bad=>exact h
end
def spM(C:Cn)(ts:List Tg)(f:FM):Sp:=fun vs H Q E=>∃ F H0 ps,ps.length=ts.length∧vs.length=ts.length∧GoodS C.K F H0 (startM ts ps) (vs.map some) F H∧match f ps with
 | .ok news=>∀ F' H',news.length=ts.length→GoodS C.K F H0 (startM ts news) (vs.map some) F' H'→Q .non H'
 | _=>False
structure CalM (C:Cn) (x:Str) (k:Nat) (ts:List Tg) (f:FM):Prop where
 ex:∃ ad fd ps,ps.length=ts.length∧FnOk C.P C.w C.K C.mg C.base (L2.CX C.P C.w) k ad fd ps (spM C ts f)∧PySem.W.keepIn C.K (.ref ad)=true∧Binds C.K fd ps []∧C.mg x=some (.ref ad)
section
variable {C:Cn} {k:Nat} {N:List Str} {sc:Scope} {st:Stmt}
end
end Vl
end
section
set_option Elab.async false
set_option linter.all false
set_option maxRecDepth 100000
set_option maxHeartbeats 1000000
namespace Vl
open PySem L2 Vm PyProof.Rows
section
variable {C:Cn} {cm:Bool} {k:Nat} {N:List Str} {sc:Scope} {e:Expr} {es:List Expr} {pos p p1 cpos:Pos} {X:Cx} {x:Str}
def tVs:List Nat→TA
 | []=>tNil
 | i :: r=>tCons (tVar i) (tVs r)
variable (C cm k N sc) in
def AN (es:List Expr) (is:List Nat):Prop:=∀ X,Sta C cm k N sc X→PA X es (tVs is)
end
end Vl
end
section
set_option linter.all false
set_option maxHeartbeats 1000000
namespace Vm
def lcGoO(Γ:En)(pat:Pat)(e:EX):List TV→Res (List PV)
 | []=>.ok []
 | x :: xs=>(bindP Γ x pat).bind fun Γ'=>(e Γ').bind fun y=>match y with
  | (.ow 1,p)=>(lcGoO Γ pat e xs).bind fun ps=>.ok (p :: ps)
  | _=>.bad
@[simp] def eLCO (own:List Nat) (it:IX) (pat:Pat) (e:EX):EX:=fun Γ=>(it Γ).bind fun xs =>
 (noExc (lcGoO (wipeE Γ own) pat e xs.2)).bind fun ps=>if ps.length≤16777216 then .ok (.ow 2,.lst ps) else .bad
@[simp] def partL (l:List PV) (y:PV):Option (Nat×List PV):=match y with
 | .int k=>match vIxN l.length k with
  | some n=>match l[n]? with
   | some (.lst m)=>some (n,m)
   | _=>none
  | none=>none
 | _=>none
@[simp] def dApp2 (i:Nat) (j e:EX):ST:=fun Γ=>match Γ.get i with
 | some (.ow 2,.lst l)=>aft (j Γ) Γ fun y=>match partL l y.2 with
  | some (n,m)=>aft (e Γ) Γ fun x=>aft (putV x) Γ fun p=>if m.length < 16777216 then .nx (Γ.set i (some (.ow 2,.lst (l.set n (.lst (m++[p])))))) else .bad
  | none=>.bad
 | _=>.bad
@[simp] def dExt2 (i:Nat) (j e:EX):ST:=fun Γ=>match Γ.get i with
 | some (.ow 2,.lst l)=>aft (j Γ) Γ fun y=>match partL l y.2 with
  | some (n,m)=>aft (e Γ) Γ fun x=>match x.2 with
   | .lst q=>if flat1 x.1 && decide (m.length+q.length≤16777216) then .nx (Γ.set i (some (.ow 2,.lst (l.set n (.lst (m++q)))))) else .bad
   | .tup q=>if m.length+q.length≤16777216 then .nx (Γ.set i (some (.ow 2,.lst (l.set n (.lst (m++q)))))) else .bad
   | _=>.bad
  | none=>.bad
 | _=>.bad
@[simp] def dSetIx2 (i:Nat) (j k e:EX):ST:=fun Γ=>match Γ.get i with
 | some (.ow 2,.lst l)=>aft (e Γ) Γ fun x=>aft (j Γ) Γ fun y=>match partL l y.2 with
  | some (n,m)=>aft (k Γ) Γ fun z=>aft (putV x) Γ fun p=>match z.2 with
   | .int a=>match vIxN m.length a with
    | some b=>.nx (Γ.set i (some (.ow 2,.lst (l.set n (.lst (m.set b p))))))
    | none=>.bad
   | _=>.bad
  | none=>.bad
 | _=>.bad
end Vm
end
section
set_option Elab.async false
set_option linter.all false
set_option maxRecDepth 100000
set_option maxHeartbeats 1000000
namespace Vl
open PySem L2 Vm PyProof.Rows
section
variable {C:Cn} {F0 H0 F H F1 H1:Hp} {Γ:En} {σ:L2.St}
theorem good_chg{i:Nat}{d:Nat}{p:PV}(g:GoodS C.K F0 H0 Γ σ F H)(e:Γ.get i=some (.ow d,p)):∃ v fp,σ[i]? = some (some v)∧Own C.K F H d fp p v∧fp.Nodup∧(∀ a∈fp,F a=none∧H0 a=none) ∧
  ∀ {F2 H2 H3:Hp} {d':Nat} {p':PV} {fp':List Addr},Ext F H F2 H2→(∀ a,a ∉ fp→H3 a=H2 a)→(∀ a∈fp,∀ xs,H3 a ≠ some (tq xs))→Own C.K F2 H3 d' fp' p' v→fp'.Nodup→(∀ a∈fp',a∈fp ∨ (H a=none∧F2 a=none))→GoodS C.K F0 H0 (Γ.set i (some (.ow d',p'))) σ F2 H3:=by
 obtain ⟨fp,h1,h2⟩:=g.slots
 obtain ⟨v,hv,o,nd,fr⟩:=h1 i _ e
 have hi:i < Γ.length:=by
  cases Nat.lt_or_ge i Γ.length with
  | inl h=>exact h
  | inr h =>
   have:Γ.get i=none:=by unfold En.get; simp [List.getD,List.getElem?_eq_none h]
   rw [this] at e; cases e
 refine ⟨v,fp i,hv,o,nd,fr,fun {F2 H2 H3 d' p' fp'} e2 k1 k2 o' nd' sub=>?_⟩
 have hth:∀ a∈fp i,H a ≠ none:=fun a ha=>by obtain ⟨_,z,_⟩:=o.there d a ha; rw [z]; simp
 have f2n:∀ a∈fp i,F2 a=none:=fun a ha=>by
  cases q:F2 a with
  | none=>rfl
  | some o =>
   rcases e2.nw a (by rw [q]; simp) with z | z
   ·exact (z (fr a ha).1).elim
   ·exact (hth a ha z).elim
 refine ⟨⟨?_,by rw [List.length_set]; exact g.len,fun j=>if j=i then fp' else match Γ.get j with
  | some (.ow _,_)=>fp j
  | _=>[],fun j y hy=>?_,fun i' j a hij ha hb=>?_⟩,nb_set g.nb fun d p h=>by cases h⟩
 ·have ee:=g.ext.trans e2
  refine ⟨ee.ff,fun a o z=>?_,fun a o z=>?_,fun a xs z=>?_,ee.nw⟩
  ·rw [k1 a fun ha=>by rw [(fr a ha).2] at z; cases z]; exact ee.hh _ _ z
  ·rw [k1 a fun ha=>by rw [f2n a ha] at z; cases z]; exact ee.fh _ _ z
  ·by_cases ha:a∈fp i
   ·exact (k2 a ha xs z).elim
   ·rw [k1 a ha] at z; exact ee.tp _ _ z
 ·rw [get_set] at hy
  by_cases hj:j=i
  ·subst hj
   rw [if_pos ⟨rfl,hi⟩] at hy
   cases hy
   refine ⟨_,hv,?_⟩
   simp only [if_pos]
   refine ⟨o',nd',fun a ha=>?_⟩
   rcases sub a ha with z | ⟨z1,z2⟩
   ·exact ⟨f2n a z,(fr a z).2⟩
   ·exact ⟨z2,g.ext.hh.free z1⟩
  ·rw [if_neg fun z=>hj z.1] at hy
   obtain ⟨u,h6,h7⟩:=h1 j y hy
   refine ⟨u,h6,?_⟩
   simp only
   rw [if_neg hj,hy]
   have h8:=h7.ext e2
   obtain ⟨t,q⟩:=y
   cases t with
   | fz=>exact h8
   | bw d=>exact (g.nb j d q hy).elim
   | ow d =>
    obtain ⟨z1,z2,z3⟩:=h8
    exact ⟨Own.mono (Same.refl _) d z1 fun a ha=>k1 a fun z=>h2 i j a (Ne.symm hj) z ha,z2,z3⟩
 ·have old:∀ j',a∈(match Γ.get j' with | some (.ow _,_)=>fp j' | _=>[])→a∈fp j'∧H a ≠ none:=fun j' hm=>by
   cases q:Γ.get j' with
   | none=>rw [q] at hm; simp at hm
   | some y =>
    obtain ⟨t,pp⟩:=y
    rw [q] at hm
    cases t with
    | fz=>simp at hm
    | bw _=>simp at hm
    | ow dd =>
     obtain ⟨v',_,h4⟩:=h1 j' _ q
     refine ⟨hm,?_⟩
     obtain ⟨ws,z,_⟩:=h4.1.there dd a hm
     rw [z]; simp
  simp only at ha hb
  by_cases h1':i'=i
  ·rw [if_pos h1'] at ha
   rw [if_neg (fun z=>hij (h1'.trans z.symm))] at hb
   obtain ⟨o1,o2⟩:=old j hb
   rcases sub a ha with z | ⟨z,_⟩
   ·exact h2 i j a (fun z=>hij (h1'.trans z)) z o1
   ·exact o2 z
  ·rw [if_neg h1'] at ha
   by_cases h2':j=i
   ·rw [if_pos h2'] at hb
    obtain ⟨o1,o2⟩:=old i' ha
    rcases sub a hb with z | ⟨z,_⟩
    ·exact h2 i' i a h1' o1 z
    ·exact o2 z
   ·rw [if_neg h2'] at hb
    exact h2 i' j a hij (old i' ha).1 (old j hb).1
theorem ownl0_nil{K:KK}:∀ {fs:List (List Addr)} {ps:List PV} {vs:List V},OwnL (Own K F H 0) fs ps vs→fs.flatten=[]∧RepL K F ps vs
 | [],[],[],_=>⟨rfl,RepL.nil⟩
 | f :: fs,p :: ps,v :: vs,h=>by
  obtain ⟨a,b⟩:=ownl0_nil h.2
  exact ⟨by rw [List.flatten_cons,h.1.1,a]; rfl,RepL.cons h.1.2 b⟩
 | [],[],_ :: _,h=>h.elim
 | [],_ :: _,_,h=>h.elim
 | _ :: _,[],_,h=>h.elim
 | _ :: _,_ :: _,[],h=>h.elim
end
section
variable {C:Cn} {cm:Bool} {k:Nat} {N:List Str} {sc so:Scope} {a b c e o tg j:Expr} {es:List Expr} {A B J:EX} {pos p tpos apos cpos p1 p2:Pos} {X:Cx} {x:Str}
end
end Vl
end
section
set_option Elab.async false
set_option linter.all false
set_option maxRecDepth 100000
set_option maxHeartbeats 1000000
namespace Vl
open PySem L2 Vm PyProof.Rows
section
variable {C:Cn} {cm:Bool} {k:Nat} {N:List Str} {sc so:Scope} {a b c e tg:Expr} {es:List Expr} {A B:EX} {As:EXs} {T U:TX} {pos p:Pos} {X:Cx} {x:Str}
variable {elt iter:Expr} {ifs:List Expr} {scope:Scope} {own:List (Str×Nat)} {I:IX} {pat:Pat}
end
end Vl
end
section
set_option Elab.async false
set_option linter.all false
set_option maxRecDepth 100000
set_option maxHeartbeats 1000000
namespace Vl
open PySem L2 Vm PyProof.Rows
section
variable {C:Cn} {cm:Bool} {k:Nat} {N:List Str} {sc so:Scope} {a b c e o tg j:Expr} {es:List Expr} {A B J:EX} {pos p tpos apos cpos p1 p2:Pos} {X:Cx} {x:Str} {keep:List Nat} {d:ST}
theorem OutK.mono{F0 H0:Hp}{D:Ends}{σ σ':L2.St}{o:Out}(h:OutK C F0 H0 D keep σ o)(k:∀ i∈keep,σ'[i]? = σ[i]?):OutK C F0 H0 D keep σ' o:=by
 cases o with
 | nx Γ=>exact fun σ2 F H g q=>h σ2 F H g fun i hi=>(q i hi).trans (k i hi)
 | bk Γ=>exact fun σ2 F H g q=>h σ2 F H g fun i hi=>(q i hi).trans (k i hi)
 | ct Γ=>exact fun σ2 F H g q=>h σ2 F H g fun i hi=>(q i hi).trans (k i hi)
 | _=>exact h
end
end Vl
end
section
set_option linter.all false
set_option maxHeartbeats 1000000
namespace Vm
mutual
@[simp] def keyN:Nat→PV→Bool
 | _,.non=>true
 | _,.int _=>true
 | _,.str _=>true
 | n+1,.tup l=>keyNL n l
 | _,_=>false
@[simp] def keyNL:Nat→List PV→Bool
 | _,[]=>true
 | n,p :: ps=>keyN n p && keyNL n ps
end
@[simp] def keyL:PV→Bool
 | .non=>true
 | .int _=>true
 | .str _=>true
 | _=>false
@[simp] def keyT:PV→Bool
 | .tup l=>keyNL 7 l
 | _=>false
def sameK(p:PV)(ks:List PV):Bool:=(keyL p && ks.all keyL) || (keyT p && ks.all keyT)
def dIx:List PV→PV→Option Nat
 | [],_=>none
 | q :: ks,p=>if eqv q p then some 0 else (dIx ks p).map (· + 1)
def dPutK:List PV→PV→List PV
 | [],p=>[p]
 | q :: ks,p=>if eqv q p then q :: ks else q :: dPutK ks p
def dPutV{α:Type}:List PV→List α→PV→α→List α
 | q :: ks,v :: vs,p,x=>if eqv q p then x :: vs else v :: dPutV ks vs p x
 | _,_,_,x=>[x]
def dGet(ks l:List PV)(p:PV):Option PV:=(dIx ks p).bind fun j=>l[j]?
@[simp] def fzK:TV→Res PV
 | (.fz,p)=>.ok p
 | _=>.bad
@[simp] def eDic0 (d:Nat):EX:=fun _=>.ok (.ow d,.dic [] [])
@[simp] def eDic1 (tuple:Bool) (a b:EX):EX:=fun Γ=>(a Γ).bind fun x=>(b Γ).bind fun y=>(fzK x).bind fun p=>(putV y).bind fun q=>if (if tuple then keyT p else keyL p) then .ok (.ow 1,.dic [p] [q]) else .bad
@[simp] def dixV (o:TV) (p:PV):Res TV:=match o with
 | (t,.dic ks l)=>if sameK p ks then (match dGet ks l p with
  | some x=>.ok (dn t,x)
  | none=>.bad) else .bad
 | _=>.bad
@[simp] def eDIdx (a b:EX):EX:=fun Γ=>(a Γ).bind fun x=>(b Γ).bind fun y=>dixV x y.2
@[simp] def dinB (p q:PV):Res Bool:=match q with
 | .dic ks _=>if sameK p ks then .ok (dIx ks p).isSome else .bad
 | _=>.bad
@[simp] def opDIn (p q:PV):Res PV:=(dinB p q).bind fun b=>.ok (.bl b)
@[simp] def opDNotIn (p q:PV):Res PV:=(dinB p q).bind fun b=>.ok (.bl (!b))
@[simp] def eDLen (a:EX):EX:=fun Γ=>(a Γ).bind fun x=>match x.2 with
 | .dic ks _=>.ok (.fz,.int ks.length)
 | _=>.bad
@[simp] def dgetV (o:TV) (p:PV) (x:TV):Res TV:=match o with
 | (t,.dic ks l)=>if flat1 t && sameK p ks then (putV x).bind fun q=>.ok (.fz,(dGet ks l p).getD q) else .bad
 | _=>.bad
@[simp] def isDic:PV→Bool
 | .dic _ _=>true
 | _=>false
@[simp] def eDGet (a b c:EX):EX:=fun Γ=>(a Γ).bind fun x=>match isDic x.2 with
 | true=>(b Γ).bind fun y=>(c Γ).bind fun z=>dgetV x y.2 z
 | false=>.bad
@[simp] def dDPut (i:Nat) (k e:EX):ST:=fun Γ=>match Γ.get i with
 | some (.ow 1,.dic ks l)=>aft (e Γ) Γ fun x=>aft (k Γ) Γ fun y=>aft (putV x) Γ fun p=>aft (fzK y) Γ fun q =>
  if sameK q ks && decide (ks.length < 16777216) then .nx (Γ.set i (some (.ow 1,.dic (dPutK ks q) (dPutV ks l q p)))) else .bad
 | _=>.bad
@[simp] def setdD (ks l:List PV) (q:PV):List PV×List PV:=match dGet ks l q with
 | some _=>(ks,l)
 | none=>(dPutK ks q,dPutV ks l q (.lst []))
@[simp] def lstAtD (d:List PV×List PV) (q:PV):Option (Nat×List PV):=match dIx d.1 q with
 | some j=>(match d.2[j]? with
  | some (.lst m)=>some (j,m)
  | _=>none)
 | none=>none
@[simp] def dSetd (i:Nat) (k e:EX):ST:=fun Γ=>match Γ.get i with
 | some (.ow 2,.dic ks l)=>aft (k Γ) Γ fun y=>aft (fzK y) Γ fun q=>if keyL q && ks.all keyL && decide (ks.length < 16777216) then
  (match lstAtD (setdD ks l q) q with
   | some (j,m)=>aft (e (Γ.set i none)) (Γ.set i none) fun x=>aft (putV x) Γ fun p=>if m.length < 16777216 then .nx (Γ.set i (some (.ow 2,.dic (setdD ks l q).1 ((setdD ks l q).2.set j (.lst (m++[p])))))) else .bad
   | none=>.bad)
  else .bad
 | _=>.bad
@[simp] def jItems (a:EX):IX:=fun Γ=>(a Γ).bind fun x=>match x with
 | (.fz,.dic ks l)=>.ok (true,(ks.zip l).map fun kv=>(.fz,.tup [kv.1,kv.2]))
 | _=>.bad
@[simp] def jValues (a:EX):IX:=fun Γ=>(a Γ).bind fun x=>match x with
 | (.fz,.dic _ l)=>.ok (true,l.map fun v=>(.fz,v))
 | _=>.bad
@[simp] def jKeys (a:EX):IX:=fun Γ=>(a Γ).bind fun x=>match x with
 | (.fz,.dic ks _)=>.ok (true,ks.map fun k=>(.fz,k))
 | _=>.bad
end Vm
end
section
set_option Elab.async false
set_option linter.all false
set_option maxRecDepth 100000
set_option maxHeartbeats 1000000
namespace Vl
open PySem L2 Vm PyProof.Rows
section
variable {K:KK} {F H:Hp}
mutual
theorem rep_key:∀ (n:Nat) (p:PV) (v:V),keyN n p=true→Rep K F p v→KeyV F (nkOf p) v∧keyG p=true∧(nkOf p).depth≤n
 | n,.non,v,_,h=>by unfold Rep at h; subst h; exact ⟨by unfold nkOf KeyV; rfl,rfl,Nat.zero_le _⟩
 | n,.int i,v,_,h=>by unfold Rep at h; subst h; exact ⟨by unfold nkOf KeyV; rfl,rfl,Nat.zero_le _⟩
 | n,.str l,v,_,h=>by unfold Rep at h; obtain ⟨rfl,h2⟩:=h; exact ⟨by unfold nkOf KeyV; rfl,by unfold keyG; exact h2,Nat.zero_le _⟩
 | 0,.tup l,v,s,_=>by unfold keyN at s; cases s
 | n+1,.tup l,v,s,h=>by
  unfold keyN at s
  unfold Rep at h
  obtain ⟨a,vs,rfl,h2,h3⟩:=h
  obtain ⟨d1,d2,d3⟩:=rep_keys n l vs s h3
  exact ⟨by unfold nkOf KeyV; exact ⟨a,vs,rfl,h2,d1⟩,by unfold keyG; exact d2,by unfold nkOf NestedKey.depth; omega⟩
 | n,.bl _,v,s,_=>by unfold keyN at s; cases s
 | n,.lst _,v,s,_=>by unfold keyN at s; cases s
 | n,.dic _ _,v,s,_=>by unfold keyN at s; cases s
 | n,.exo _ _,v,s,_=>by unfold keyN at s; cases s
theorem rep_keys:∀ (n:Nat) (l:List PV) (vs:List V),keyNL n l=true→RepL K F l vs→KeyVs F (nkOfL l) vs∧keyGL l=true∧NestedKey.depthAll (nkOfL l)≤n
 | n,[],vs,_,h=>by unfold RepL at h; subst h; exact ⟨by unfold nkOfL KeyVs; rfl,rfl,Nat.zero_le _⟩
 | n,x :: xs,vs,s,h=>by
  unfold keyNL at s
  rw [Bool.and_eq_true] at s
  unfold RepL at h
  obtain ⟨v,r,rfl,h2,h3⟩:=h
  obtain ⟨a1,a2,a3⟩:=rep_key n x v s.1 h2
  obtain ⟨b1,b2,b3⟩:=rep_keys n xs r s.2 h3
  exact ⟨by unfold nkOfL KeyVs; exact ⟨v,r,rfl,a1,b1⟩,by unfold keyGL; rw [a2,b2]; rfl,by unfold nkOfL NestedKey.depthAll; omega⟩
end
mutual
theorem keyV_nested {P:Program} {w:World} {h:Heap} (ok:HOk P w H h):∀ (k:NestedKey) (v:V) (u:Value),KeyV H k v→RelV v u→NestedIs h k u
 | .none,v,u,g,r=>by unfold KeyV at g; subst g; cases r; exact .none
 | .num i,v,u,g,r=>by unfold KeyV at g; subst g; obtain ⟨t,rfl⟩:=r; exact .int _ _
 | .text x,v,u,g,r=>by unfold KeyV at g; subst g; obtain ⟨t,rfl⟩:=r; exact .text _ _
 | .tup ks,v,u,g,r=>by
  unfold KeyV at g
  obtain ⟨a,vs,rfl,⟨ob,_,h2⟩,h3⟩:=g
  cases r
  obtain ⟨_,_,its,rv,o,h4,h5,n,h6⟩:=(show ObjOk P w H h a (tq (ob,vs)) from ok a _ h2)
  exact .tup h4 h5 h6 (by simpa using keyVs_nested ok ks vs its h3 rv)
theorem keyVs_nested {P:Program} {w:World} {h:Heap} (ok:HOk P w H h):∀ (k:List NestedKey) (v:List V) (u:List Value),KeyVs H k v→Vals v u→NestedAll h k u
 | [],v,u,g,r=>by unfold KeyVs at g; subst g; cases r; exact .nil
 | k :: ks,v,u,g,r=>by
  unfold KeyVs at g
  obtain ⟨x,xs,rfl,h2,h3⟩:=g
  cases r with
  | cons r1 r2=>exact .cons (keyV_nested ok k x _ h2 r1) (keyVs_nested ok ks xs _ h3 r2)
end
end
mutual
theorem eqv_nk:∀ (n m:Nat) (p q:PV),keyN n p=true→keyN m q=true→(eqv p q=true ↔ nkOf p=nkOf q)
 | n,m,.non,q,_,h=>by cases q <;> simp [keyN] at h <;> simp [eqv,nkOf]
 | n,m,.int i,q,_,h=>by cases q <;> simp [keyN] at h <;> simp [eqv,nkOf]
 | n,m,.str b,q,_,h=>by cases q <;> simp [keyN] at h <;> simp [eqv,nkOf]
 | n,m,.tup l,q,s,h=>by
  cases n with
  | zero=>simp [keyN] at s
  | succ n =>
   cases q with
   | tup k =>
    cases m with
    | zero=>simp [keyN] at h
    | succ m =>
     unfold keyN at s h
     unfold eqv nkOf
     rw [eqvL_nk n m l k s h]
     exact ⟨fun z=>by rw [z],fun z=>by injection z⟩
   | non=>simp [eqv,nkOf]
   | int _=>simp [eqv,nkOf]
   | str _=>simp [eqv,nkOf]
   | _=>simp [keyN] at h
 | n,m,.bl _,q,s,_=>by simp [keyN] at s
 | n,m,.lst _,q,s,_=>by simp [keyN] at s
 | n,m,.dic _ _,q,s,_=>by simp [keyN] at s
 | n,m,.exo _ _,q,s,_=>by simp [keyN] at s
theorem eqvL_nk:∀ (n m:Nat) (p q:List PV),keyNL n p=true→keyNL m q=true→(eqvL p q=true ↔ nkOfL p=nkOfL q)
 | _,_,[],[],_,_=>by simp [eqvL]
 | _,_,[],_ :: _,_,_=>by simp [eqvL,nkOfL]
 | _,_,_ :: _,[],_,_=>by simp [eqvL,nkOfL]
 | n,m,x :: xs,y :: ys,s,h=>by
  unfold keyNL at s h
  rw [Bool.and_eq_true] at s h
  unfold eqvL nkOfL
  rw [Bool.and_eq_true,eqv_nk n m x y s.1 h.1,eqvL_nk n m xs ys s.2 h.2]
  exact ⟨fun z=>by rw [z.1,z.2],fun z=>by injection z with a b; exact ⟨a,b⟩⟩
end
theorem keyL_N{p:PV}(h:keyL p=true):keyN 8 p=true:=by cases p <;> simp [keyL] at h <;> simp [keyN]
theorem keyT_N{p:PV}(h:keyT p=true):keyN 8 p=true:=by cases p <;> simp [keyT] at h <;> simp [keyN,h]
theorem sameK_N{p:PV}{ks:List PV}(h:sameK p ks=true):keyN 8 p=true∧∀ q∈ks,keyN 8 q=true:=by
 unfold sameK at h
 rw [Bool.or_eq_true,Bool.and_eq_true,Bool.and_eq_true,List.all_eq_true,List.all_eq_true] at h
 rcases h with ⟨a,b⟩ | ⟨a,b⟩
 ·exact ⟨keyL_N a,fun q hq=>keyL_N (b q hq)⟩
 ·exact ⟨keyT_N a,fun q hq=>keyT_N (b q hq)⟩
section
variable {κ:Type} [DecidableEq κ] {f:κ→NestedKey}
theorem ix_val(inj:∀ a b,f a=f b→a=b){p:PV}{k:κ}(hp:nkOf p=f k)(h8:keyN 8 p=true):∀ {ks:List PV} {kvs:List (κ×V)},ks.map nkOf=kvs.map (fun q=>f q.1)→(∀ q∈ks,keyN 8 q=true)→valV kvs k=(dIx ks p).bind fun j=>(kvs.map (·.2))[j]?
 | [],[],_,_=>rfl
 | [],_ :: _,h,_=>by cases h
 | _ :: _,[],h,_=>by cases h
 | q :: ks,x :: kvs,h,g=>by
  rw [List.map_cons,List.map_cons] at h
  injection h with h1 h2
  have ih:=ix_val inj hp h8 h2 fun z hz=>g z (by simp [hz])
  have e:=eqv_nk 8 8 q p (g q (by simp)) h8
  unfold dIx
  by_cases hq:eqv q p=true
  ·rw [if_pos hq,valV_pos (inj _ _ (by rw [← h1,← hp]; exact e.mp hq))]; rfl
  ·rw [if_neg hq,valV_neg (fun z=>hq (e.mpr (by rw [h1,hp,z]))),ih]
   cases dIx ks p <;> rfl
theorem putK_cons{x:κ×V}{r:List (κ×V)}{k:κ}{v:V}(nd:((x :: r).map (·.1)).Nodup):putK (x :: r) k v=if x.1=k then (x.1,v) :: r else x :: putK r k v:=by
 unfold putK
 rw [List.any_cons,List.map_cons]
 by_cases h:x.1=k
 ·rw [if_pos h,decide_eq_true h,Bool.true_or,if_pos rfl,if_pos h]
  congr 1
  rw [List.map_cons,List.nodup_cons] at nd
  have:∀ y∈r,¬ y.1=k:=fun y hy z=>nd.1 (by rw [h,← z]; exact List.mem_map.mpr ⟨y,hy,rfl⟩)
  clear nd
  induction r with
  | nil=>rfl
  | cons y r ih=>rw [List.map_cons,if_neg (this y (by simp)),ih fun z hz=>this z (by simp [hz])]
 ·rw [if_neg h,decide_eq_false h,Bool.false_or,if_neg h]
  by_cases g:(r.any fun kv=>decide (kv.1=k))=true
  ·rw [if_pos g,if_pos g]
  ·rw [if_neg g,if_neg g]; rfl
theorem ix_put(inj:∀ a b,f a=f b→a=b){p:PV}{k:κ}(v:V)(hp:nkOf p=f k)(h8:keyN 8 p=true):∀ {ks:List PV} {kvs:List (κ×V)},ks.map nkOf=kvs.map (fun q=>f q.1)→(∀ q∈ks,keyN 8 q=true)→(kvs.map (·.1)).Nodup →
  (dPutK ks p).map nkOf=(putK kvs k v).map (fun q=>f q.1)∧(putK kvs k v).map (·.2)=dPutV ks (kvs.map (·.2)) p v
 | [],[],_,_,_=>⟨by simp [dPutK,putK,hp],by simp [dPutV,putK]⟩
 | [],_ :: _,h,_,_=>by cases h
 | _ :: _,[],h,_,_=>by cases h
 | q :: ks,x :: kvs,h,g,nd=>by
  rw [putK_cons nd]
  rw [List.map_cons,List.map_cons] at h
  injection h with h1 h2
  have nd':=nd
  rw [List.map_cons,List.nodup_cons] at nd'
  obtain ⟨ih1,ih2⟩:=ix_put inj v hp h8 h2 (fun z hz=>g z (by simp [hz])) nd'.2
  have e:=eqv_nk 8 8 q p (g q (by simp)) h8
  unfold dPutK
  rw [List.map_cons]
  unfold dPutV
  by_cases hq:eqv q p=true
  ·have hx:x.1=k:=inj _ _ (by rw [← h1,← hp]; exact e.mp hq)
   rw [if_pos hq,if_pos hx,if_pos hq,List.map_cons,List.map_cons,h1,h2,List.map_cons]
   exact ⟨rfl,rfl⟩
  ·have hx:¬ x.1=k:=fun z=>hq (e.mpr (by rw [h1,hp,z]))
   rw [if_neg hq,if_neg hx,if_neg hq,List.map_cons,List.map_cons,h1,ih1,List.map_cons,ih2]
   exact ⟨rfl,rfl⟩
end
theorem repL_put{K:KK}{F:Hp}{p:PV}{q:PV}{v:V}(g:Rep K F q v):∀ {ks l:List PV} {vs:List V},RepL K F l vs→RepL K F (dPutV ks l p q) (dPutV ks vs p v)
 | [],l,vs,_=>by unfold dPutV; exact RepL.cons g RepL.nil
 | _ :: _,[],vs,h=>by unfold RepL at h; subst h; unfold dPutV; exact RepL.cons g RepL.nil
 | k :: ks,x :: l,vs,h=>by
  unfold RepL at h
  obtain ⟨u,r,rfl,h1,h2⟩:=h
  unfold dPutV
  split
  ·exact RepL.cons g h2
  ·exact RepL.cons h1 (repL_put g h2)
theorem keyG_put{p:PV}(hp:keyG p=true):∀ {ks:List PV},ks.all keyG=true→(dPutK ks p).all keyG=true
 | [],_=>by simp [dPutK,hp]
 | k :: ks,h=>by
  rw [List.all_cons,Bool.and_eq_true] at h
  unfold dPutK
  split
  ·rw [List.all_cons,h.1,h.2]; rfl
  ·rw [List.all_cons,h.1,keyG_put hp h.2]; rfl
def leafOf:PV→Leaf
 | .int i=>.num i
 | .str l=>.text ⟨l.toArray⟩
 | _=>.none
theorem leafOf_key{p:PV}(h:keyL p=true):nkOf p=(leafOf p).key:=by cases p <;> simp [keyL] at h <;> rfl
theorem leaf_is{K:KK}{F:Hp}{p:PV}{v:V}{u:Value}(h:keyL p=true)(r:Rep K F p v)(rv:RelV v u):plIs (leafOf p) u=true:=by
 cases p <;> simp [keyL] at h <;> unfold Rep at r
 ·subst r; cases rv; rfl
 ·subst r; obtain ⟨t,rfl⟩:=rv; show (decide (_=_) && true)=true; simp
 ·obtain ⟨rfl,_⟩:=r; obtain ⟨t,rfl⟩:=rv; show (Leaf.isOf _ _ && true)=true; rw [Bool.and_true]; exact mixKind_str K.P K.w _ t
theorem toLeaf{K:KK}{F:Hp}{o:Obj}{ks:List PV}{vs:List V}(h:DicK K F o (ks.map nkOf) vs)(hk:ks.all keyL=true):LeafK K o (ks.map nkOf) vs:=by
 rcases h with h | ⟨kvs,xs,es,ep,h1,h2,h3,h4,h5,h6,h7,h8⟩
 ·exact h
 ·cases ks with
  | nil =>
   cases kvs with
   | nil =>
    cases h5
    refine ⟨[],[],es,ep,h1,h2,rfl,h4,.nil,fun e he=>?_,?_,List.nodup_nil,Nat.zero_le _⟩
    ·have:es = #[]:=by simpa using h6
     subst this; simp at he
    ·rw [h6]; exact .nil
   | cons _ _=>cases h3
  | cons k ks =>
   cases kvs with
   | nil=>cases h3
   | cons x kvs =>
    exfalso
    rw [List.map_cons,List.map_cons] at h3
    injection h3 with h3 _
    rw [List.all_cons,Bool.and_eq_true] at hk
    cases h5 with
    | cons r _ =>
     obtain ⟨_,kv,_⟩:=r
     rw [← h3] at kv
     have hk1:=hk.1
     cases k <;> simp [keyL] at hk1 <;> (unfold nkOf KeyV at kv; cases kv)
theorem toTup{K:KK}{F:Hp}{o:Obj}{ks:List PV}{vs:List V}(h:DicK K F o (ks.map nkOf) vs)(hk:ks.all keyT=true):TupK K F o (ks.map nkOf) vs:=by
 rcases h with ⟨kvs,rs,es,ep,h1,h2,h3,h4,h5,h6,h7,h8,h9⟩ | h
 ·cases ks with
  | nil =>
   cases kvs with
   | nil =>
    cases h5
    have hes:es.toList=[]:=by cases h7':es.toList with
     | nil=>rfl
     | cons _ _=>rw [h7'] at h7; cases h7
    exact ⟨[],[],es,ep,h1,h2,rfl,h4,.nil,hes,List.nodup_nil,Nat.zero_le _⟩
   | cons _ _=>cases h3
  | cons k ks =>
   cases kvs with
   | nil=>cases h3
   | cons x kvs =>
    exfalso
    rw [List.map_cons,List.map_cons] at h3
    injection h3 with h3 _
    rw [List.all_cons,Bool.and_eq_true] at hk
    have hk1:=hk.1
    cases k <;> simp [keyT] at hk1
    unfold nkOf at h3
    generalize x.1=y at h3
    cases y <;> cases h3
 ·exact h
theorem sameK_cases{p:PV}{ks:List PV}(h:sameK p ks=true):(keyL p=true∧ks.all keyL=true) ∨ (keyT p=true∧ks.all keyT=true):=by
 unfold sameK at h
 rw [Bool.or_eq_true,Bool.and_eq_true,Bool.and_eq_true] at h
 exact h
section
variable {X:Cx} {pins:List (Addr×Obj)} {σ:L2.St} {F H:Hp} {s:Shared} {a:Addr} {p:PV} {y v:V} {u r:Value} {A:Around} {E:Value→Shared→Prop} {o:Obj} {ks:List PV} {vs:List V}
theorem dx_get?(I:Inv X pins σ H s)(e:H a=some (dHO a o)):s.heap.get? a=some o:=(show ObjOk X.prog X.w H s.heap a (dHO a o) from I.hok a _ e).1
theorem leaf_dict(hg:s.heap.get? a=some o){nks:List NestedKey}(h:LeafK (kkX X) o nks vs):∃ (kvs:List (Leaf×V)) (rs:List (Leaf×Value)),nks=kvs.map (fun p=>p.1.key)∧vs=kvs.map (·.2)∧L2.KV kvs rs∧s.heap.DictOf (plK X.prog X.w) a rs∧(kvs.map (·.1)).Nodup∧kvs.length≤sizeLine:=by
 obtain ⟨kvs,rs,es,ep,h1,h2,h3,h4,h5,h6,h7,h8,h9⟩:=h
 exact ⟨kvs,rs,h3,h4,h5,⟨o,es,ep,hg,h1,h2,h6,h7,h8⟩,by rw [h5.keys]; exact h8,h9⟩
theorem kn_keys{kvs:List (NestedKey×V)}{xs:List (NestedKey×Addr×Value)}(h:KN F kvs xs):kvs.map (·.1)=xs.map (·.1):=by
 induction h with
 | nil=>rfl
 | cons h t ih=>rw [List.map_cons,List.map_cons,ih,h.1]
theorem tup_dict(I:Inv X pins σ H s)(hg:s.heap.get? a=some o)(hf:Same F H){nks:List NestedKey}(h:TupK (kkX X) F o nks vs):∃ (kvs:List (NestedKey×V)) (xs:List (NestedKey×Addr×Value)),nks=kvs.map (·.1)∧vs=kvs.map (·.2)∧KN F kvs xs∧s.heap.DictOfH (nestedKind X.prog X.w) a xs∧(kvs.map (·.1)).Nodup∧kvs.length≤sizeLine:=by
 obtain ⟨kvs,xs,es,ep,h1,h2,h3,h4,h5,h6,h7,h8⟩:=h
 refine ⟨kvs,xs,h3,h4,h5,⟨o,es,ep,hg,h1,h2,h6,?_,h7⟩,by rw [kn_keys h5]; exact h7,h8⟩
 clear h6 h7 h8 h3 h4
 induction h5 with
 | nil=>intro x hx; simp at hx
 | cons q t ih =>
  intro x hx
  rcases List.mem_cons.mp hx with e | hx
  ·subst e
   obtain ⟨q1,q2,q3,_⟩:=q
   rw [← q1]
   exact ⟨keyV_nested I.hok _ _ _ (KeyV.tups (fun _ _=>hf _ _) _ _ q2) rfl,q3⟩
  ·exact ih x hx
theorem kn_val{kvs:List (NestedKey×V)}{xs:List (NestedKey×Addr×Value)}(r:KN F kvs xs)(k:NestedKey):RelO (valV kvs k) ((atKey xs k).map (·.2)):=by
 induction r with
 | nil=>exact True.intro
 | @cons p q ps qs h t ih =>
  obtain ⟨h1,_,_,h2⟩:=h
  by_cases e:p.1=k
  ·have e':q.1=k:=h1.symm.trans e
   have b:atKey (q :: qs) k=some q.2:=by simp [atKey,List.find?_cons,e']
   rw [valV_pos e,b]; exact h2
  ·have e':¬ q.1=k:=fun z=>e (h1.trans z)
   have b:atKey (q :: qs) k=atKey qs k:=by simp [atKey,List.find?_cons,e']
   rw [valV_neg e,b]; exact ih
theorem kn_repl{kvs:List (NestedKey×V)}{xs:List (NestedKey×Addr×Value)}(r:KN F kvs xs)(k:NestedKey){y:V}{u:Value}(ry:RelV y u):KN F (kvs.map fun kv=>if kv.1=k then (kv.1,y) else kv) (xs.map (putAt k u)):=by
 induction r with
 | nil=>exact .nil
 | @cons p q ps qs h t ih =>
  rw [List.map_cons,List.map_cons]
  refine .cons ?_ ih
  obtain ⟨h1,h2,h3,h4⟩:=h
  unfold putAt
  by_cases e:p.1=k
  ·rw [if_pos e,if_pos (h1.symm.trans e)]; exact ⟨h1,h2,h3,ry⟩
  ·rw [if_neg e,if_neg (fun z=>e (h1.trans z))]; exact ⟨h1,h2,h3,h4⟩
theorem kn_put{kvs:List (NestedKey×V)}{xs:List (NestedKey×Addr×Value)}(r:KN F kvs xs)(k:NestedKey){b:Addr}{y:V}{u:Value}(hb:KeyV F k (.ref b))(hd:k.depth≤8)(ry:RelV y u):KN F (putK kvs k y) (storedH xs k b u):=by
 have e:(kvs.any fun kv=>decide (kv.1=k))=(atKey xs k).isSome:=by
  rw [valV_any,(kn_val r k).isSome_eq,Option.isSome_map]
 unfold putK storedH
 rw [e]
 by_cases q:(atKey xs k).isSome=true
 ·rw [if_pos q,if_pos q]; exact kn_repl r k ry
 ·rw [if_neg q,if_neg q]; exact Paired.snoc r ⟨rfl,hb,hd,ry⟩
theorem tup_ref{v:V}(h:keyT p=true)(r:Rep (kkX X) H p v):∃ b,v = .ref b:=by
 cases p <;> simp [keyT] at h
 unfold Rep at r
 obtain ⟨b,_,e,_⟩:=r
 exact ⟨b,e⟩
theorem dx_in{Q:Value→Shared→Prop}(neg:Bool)(hu:A.units+10 < cLine)(I:Inv X pins σ H s)(e:H a=some (dHO a o))(hd:(a == sysModules)=false)(dk:DicK (kkX X) H o (ks.map nkOf) vs)(hs:sameK p ks=true)(rp:Rep (kkX X) H p y)(ry:RelV y u)
  (h:∀ s',Inv X pins σ H s'→Q (.bool (if neg then !(dIx ks p).isSome else (dIx ks p).isSome)) s'):wpAny (model X.prog X.w) A (compareOp (if neg then .NotIn else .In) u (.ref a)) Q E s:=by
 have hg:=dx_get? I e
 obtain ⟨h8,hk8⟩:=sameK_N hs
 have hix:∀ {n:Nat},dIx ks p=some n→n < ks.length:=by
  intro n
  have:∀ (ks:List PV) (n:Nat),dIx ks p=some n→n < ks.length:=by
   intro ks
   induction ks with
   | nil=>intro n h; cases h
   | cons q ks ih =>
    intro n h
    unfold dIx at h
    split at h
    ·cases h; simp
    ·cases hq:dIx ks p with
     | none=>rw [hq] at h; cases h
     | some m=>rw [hq] at h; cases h; have:=ih m hq; simp; omega
  exact this ks n
 rcases sameK_cases hs with ⟨hp,hks⟩ | ⟨hp,hks⟩
 ·obtain ⟨kvs,rs,h3,h4,h5,dd,nd,hz⟩:=leaf_dict hg (toLeaf dk hks)
  have hval:=ix_val (fun a b=>Leaf.key_inj) (leafOf_key hp) h8 h3 hk8
  have q:=(h5.val (leafOf p)).isSome_eq
  have hlen:(kvs.map (·.2)).length=ks.length:=by have:=congrArg List.length h3; simpa using this.symm
  have hb:(dIx ks p).isSome=(valueAt rs (leafOf p)).isSome:=by
   rw [← q,hval]
   cases hx:dIx ks p with
   | none=>rfl
   | some n=>have:=hix hx; rw [Option.bind_some,List.getElem?_eq_getElem (show n < (kvs.map (·.2)).length by omega)]; rfl
  cases neg with
  | false=>exact wpAny_in_of (knd:=plK X.prog X.w) (leaf_is hp rp ry) hd dd.mapOf (by rw [← hb]; exact h _ (I.tok _))
  | true=>exact wpAny_notIn_of (knd:=plK X.prog X.w) (leaf_is hp rp ry) hd dd.mapOf (by rw [← hb]; exact h _ (I.tok _))
 ·obtain ⟨kvs,xs,h3,h4,h5,dd,nd,hz⟩:=tup_dict I hg (Same.refl _) (toTup dk hks)
  obtain ⟨b,rfl⟩:=tup_ref hp rp
  cases ry
  obtain ⟨kv,_,kd⟩:=rep_key 8 p _ h8 rp
  have hval:=ix_val (f:=id) (fun a b z=>z) (k:=nkOf p) rfl h8 h3 hk8
  have q:=(kn_val h5 (nkOf p)).isSome_eq
  rw [Option.isSome_map] at q
  have hlen:(kvs.map (·.2)).length=ks.length:=by have:=congrArg List.length h3; simpa using this.symm
  have hb:(dIx ks p).isSome=(atKey xs (nkOf p)).isSome:=by
   rw [← q,hval]
   cases hx:dIx ks p with
   | none=>rfl
   | some n=>have:=hix hx; rw [Option.bind_some,List.getElem?_eq_getElem (show n < (kvs.map (·.2)).length by omega)]; rfl
  have hr:A.in1.units+8 < cLine:=by rw [Around.in1_units]; omega
  cases neg with
  | false=>exact wpAny_in_heap (knd:=nestedKind X.prog X.w) hr ⟨keyV_nested I.hok _ _ _ kv rfl,kd⟩ hd dd (by rw [← hb]; exact h _ (I.tok _))
  | true=>exact wpAny_notIn_heap (knd:=nestedKind X.prog X.w) hr ⟨keyV_nested I.hok _ _ _ kv rfl,kd⟩ hd dd (by rw [← hb]; exact h _ (I.tok _))
theorem dx_setItem{Q:Unit→Shared→Prop}(hu:A.units+10 < cLine)(I:Inv X pins σ H s)(hf:Same F H)(e:H a=some (dHO a o))(dk:DicK (kkX X) F o (ks.map nkOf) vs)(hs:sameK p ks=true)(rp:Rep (kkX X) F p y)(ry:RelV y u)(rv:RelV v r)(hz:ks.length < sizeLine)
  (h:∀ o' s',DicK (kkX X) F o' ((dPutK ks p).map nkOf) (dPutV ks vs p v)→Inv X pins σ (upd H a (dHO a o')) s'→Q () s'):wpAny (model X.prog X.w) A (setItem (.ref a) u r) Q E s:=by
 have hg:=dx_get? I e
 obtain ⟨h8,hk8⟩:=sameK_N hs
 have mu:Mut (H a):=by rw [e]; exact True.intro
 have dkl:=dk.len
 rcases sameK_cases hs with ⟨hp,hks⟩ | ⟨hp,hks⟩
 ·obtain ⟨kvs,rs,h3,h4,h5,dd,nd,hz'⟩:=leaf_dict hg (toLeaf dk hks)
  have hlen:kvs.length=ks.length:=by have:=congrArg List.length h3; simpa using this.symm
  obtain ⟨p1,p2⟩:=ix_put (fun a b=>Leaf.key_inj) v (leafOf_key hp) h8 h3 hk8 nd
  refine wpAny_setItem_pairs (knd:=plK X.prog X.w) (hsz:=by rw [← h5.length]; exact hz') (leaf_is hp rp ry) dd fun h' dd' hs'=>?_
  obtain ⟨o',es,ep,g1,g2,g3,g4,g5,g6⟩:=dd'
  refine h o' _ (.inl ⟨putK kvs (leafOf p) v,_,es,ep,g2,g3,p1,by rw [p2,h4],h5.put _ rv,g4,g5,g6,?_⟩) (d_write (t':=s.toks+1) I mu hs' ⟨o',g1⟩ ⟨g1,⟨o',g1⟩,fun h1 h2 z k=>k _ z⟩)
  have:=length_putK kvs (leafOf p) v
  omega
 ·obtain ⟨kvs,xs,h3,h4,h5,dd,nd,hz'⟩:=tup_dict I hg hf (toTup dk hks)
  have rpH:Rep (kkX X) H p y:=Rep.mono hf _ _ rp
  obtain ⟨b,rfl⟩:=tup_ref hp rpH
  cases ry
  obtain ⟨kvF,_,kd⟩:=rep_key 8 p _ h8 rp
  obtain ⟨kv,_,_⟩:=rep_key 8 p _ h8 rpH
  have hlen:kvs.length=ks.length:=by have:=congrArg List.length h3; simpa using this.symm
  obtain ⟨p1,p2⟩:=ix_put (f:=id) (fun a b z=>z) (k:=nkOf p) v rfl h8 h3 hk8 nd
  refine wpAny_setItem_heap (knd:=nestedKind X.prog X.w) (hsz:=by rw [← Paired.length h5]; exact hz') (show A.in1.units+8 < cLine by rw [Around.in1_units]; omega) ⟨keyV_nested I.hok _ _ _ kv rfl,kd⟩ dd fun h' dd' hs'=>?_
  obtain ⟨o',es,ep,g1,g2,g3,g4,g5,g6⟩:=dd'
  refine h o' _ (.inr ⟨putK kvs (nkOf p) v,_,es,ep,g2,g3,p1,by rw [p2,h4],kn_put h5 _ kvF kd rv,g4,g6,?_⟩) (d_write (t':=s.toks+_) I mu hs' ⟨o',g1⟩ ⟨g1,⟨o',g1⟩,fun h1 h2 z k=>k _ z⟩)
  have:=length_putK kvs (nkOf p) v
  omega
end
end Vl
end
section
set_option Elab.async false
set_option linter.all false
set_option maxRecDepth 100000
set_option maxHeartbeats 1000000
namespace Vl
open PySem L2 Vm PyProof.Rows
section
variable {K:KK} {F H F1 H1:Hp}
theorem dic_exact{o:Obj}{nks:List NestedKey}{vs:List V}(h:DicK K F o nks vs):o.ExactDict:=by
 rcases h with ⟨_,_,_,_,z,_⟩ | ⟨_,_,_,_,z,_⟩ <;> exact z
theorem Ext.new(h:Same F H)(t:Tups F H){p:Addr}{o:HO}(ho:∀ xs,o ≠ tq xs)(hp:H p=none):Ext F H F (upd H p o) :=
 ⟨Same.refl _,same_new hp,h.trans (same_new hp),tups_new t ho (h.free hp),fun _ q=>.inl q⟩
theorem rep_dic{ks l:List PV}{v:V}(h:Rep K F (.dic ks l) v):∃ a o vs,v = .ref a∧F a=some (dHO a o)∧(a == sysModules)=false∧DicK K F o (ks.map nkOf) vs∧ks.all keyG=true∧RepL K F l vs:=by
 unfold Rep at h; exact h
theorem own_dic{d:Nat}{fp:List Addr}{ks l:List PV}{v:V}(h:Own K F H (d+1) fp (.dic ks l) v):∃ a o vs fps,v = .ref a∧H a=some (dHO a o)∧(a == sysModules)=false∧DicK K F o (ks.map nkOf) vs∧ks.all keyG=true∧fp=a :: fps.flatten∧OwnL (Own K F H d) fps l vs:=by
 rcases h with ⟨l',a,vs,fps,h1,h2,h3,h4⟩ | ⟨_,h,_⟩
 ·rcases h2 with ⟨e,_⟩ | ⟨ks',o,e,z1,z2,z3,z4⟩ | ⟨_,_,e,_⟩
  ·cases e
  ·cases e
   exact ⟨a,o,vs,fps,h1,z1,z2,z3,z4,h3,h4⟩
  ·cases e
 ·cases h
theorem own_mkD{d:Nat}{ks l:List PV}{a:Addr}{o:Obj}{vs:List V}{fps:List (List Addr)}(z1:H a=some (dHO a o))(z2:(a == sysModules)=false)(z3:DicK K F o (ks.map nkOf) vs)(z4:ks.all keyG=true)(h:OwnL (Own K F H d) fps l vs):Own K F H (d+1) (a :: fps.flatten) (.dic ks l) (.ref a) :=
 .inl ⟨l,a,vs,fps,rfl,.inr (.inl ⟨ks,o,rfl,z1,z2,z3,z4⟩),rfl,h⟩
theorem rv_partD{Hs:Hp}{t:Tg}{ks l:List PV}{v:V}(hf:Same F H)(h:RV K F H Hs (t,.dic ks l) v):∃ a o vs,v = .ref a∧H a=some (dHO a o)∧(a == sysModules)=false∧DicK K H o (ks.map nkOf) vs∧RepL K H l vs∧∀ (j:Nat) p u,l[j]? = some p→vs[j]? = some u→∀ Hs',RV K F H Hs' (dn t,p) u:=by
 have zero:Rep K F (.dic ks l) v→∃ a o vs,v = .ref a∧H a=some (dHO a o)∧(a == sysModules)=false∧DicK K H o (ks.map nkOf) vs∧RepL K H l vs∧∀ (j:Nat) p u,l[j]? = some p→vs[j]? = some u→∀ Hs',RV K F H Hs' (.fz,p) u:=fun r=>by
  obtain ⟨a,o,vs,rfl,h2,h3,h4,h5,h6⟩:=rep_dic r
  refine ⟨a,o,vs,rfl,hf _ _ h2,h3,h4.tups fun _ _=>hf _ _,h6.mono hf _ _,fun j p u e1 e2 Hs'=>.fz ?_⟩
  obtain ⟨u',e3,r⟩:=h6.get e1
  rw [e2] at e3; cases e3
  exact r
 have own:∀ {d:Nat} {fp:List Addr},Own K F H d fp (.dic ks l) v→∃ a o vs,v = .ref a∧H a=some (dHO a o)∧(a == sysModules)=false∧DicK K H o (ks.map nkOf) vs∧RepL K H l vs∧∀ (j:Nat) p u,l[j]? = some p→vs[j]? = some u→∀ Hs',RV K F H Hs' (dn (.bw d),p) u:=by
  intro d fp h
  cases d with
  | zero=>exact zero h.2
  | succ d =>
   obtain ⟨a,o,vs,fps,rfl,h2,h3,h4,h5,h6,h7⟩:=own_dic h
   refine ⟨a,o,vs,rfl,h2,h3,h4.tups fun _ _=>hf _ _,ownl_rep hf h7,fun j p u e1 e2 Hs'=>?_⟩
   obtain ⟨f,o⟩:=own_part h7 e1 e2
   cases d with
   | zero=>exact .fz o.2
   | succ d=>exact ⟨[],f,o⟩
 cases t with
 | fz=>obtain ⟨_,r⟩:=h; exact zero r
 | bw d=>obtain ⟨_,fp,h⟩:=h; exact own h
 | ow d =>
  obtain ⟨fp,h,_⟩:=h
  obtain ⟨a,o,vs,h1,h2,h3,h4,h5,h6⟩:=own h
  refine ⟨a,o,vs,h1,h2,h3,h4,h5,?_⟩
  cases d with
  | zero=>exact h6
  | succ d=>cases d with
   | zero=>exact h6
   | succ d=>exact h6
end
section
variable {C:Cn} {cm:Bool} {k:Nat} {N:List Str} {sc so:Scope} {a b c e o tg kx:Expr} {es:List Expr} {A B J:EX} {As:EXs} {T U:TX} {pos p tpos apos cpos p1 p2:Pos} {X:Cx} {x:Str}
theorem Sta.u10(S:Sta C cm k N sc X):X.A.units+10 < cLine:=by have:=S.u; omega
def rDIn(K:KK)(neg:Bool):R2:=fun x y H Q=>∃ p q b,Rep K H p x∧Rep K H q y∧dinB p q = .ok b∧Q (.bl (if neg then !b else b)) H
theorem op_dinP(hu:X.A.units+10 < cLine)(neg:Bool):OpR X (compareOp (if neg then .NotIn else .In)) (rDIn (kkX X) neg):=by
 intro pins s σ H x y v u Q I rx ry h
 obtain ⟨p,q,b,rp,rq,hb,hq⟩:=h
 cases q with
 | dic ks l =>
  obtain ⟨a,ob,vs,rfl,g1,g2,g3,g4,g5⟩:=rep_dic rq
  cases ry
  have hb:(if sameK p ks then (.ok (dIx ks p).isSome:Res Bool) else .bad) = .ok b:=hb
  by_cases hk:sameK p ks=true
  ·rw [if_pos hk] at hb
   cases hb
   exact dx_in neg hu I g1 g2 g3 hk rp rx fun s' I'=>⟨_,H,I',by cases neg <;> rfl,hq⟩
  ·rw [if_neg hk] at hb; cases hb
 | _=>cases hb
theorem dinB_noexc{p q:PV}{c:Nat}:dinB p q ≠ .exc c:=by
 intro h
 cases q with
 | dic ks l =>
  have h:(if sameK p ks then (.ok (dIx ks p).isSome:Res Bool) else .bad) = .exc c:=h
  split at h <;> cases h
 | _=>cases h
theorem op2_din:Op2 C (rDIn C.K false) opDIn:=by
 intro p q v u H Q rp rq
 unfold opDIn
 cases e:dinB p q with
 | ok b=>exact fun hq=>⟨p,q,b,rp,rq,e,hq fun F=>rep_bl⟩
 | exc c=>exact (dinB_noexc e).elim
 | bad=>trivial
theorem dc_din(ha:DE C cm k N sc a A)(hb:DE C cm k N sc b B):DCm C cm k N sc .In a b (eOp2 opDIn A B):=dc_op (r:=rDIn C.K false) (fun X S=>by rw [← S.KK]; exact op_dinP S.u10 false) op2_din ha hb
def dNew:Obj:={ cls:=.type "dict",data:=.dict #[] }
theorem dicK_new{K:KK}{F:Hp}:DicK K F dNew [] []:=.inl ⟨[],[],#[],0,⟨rfl,rfl,rfl⟩,rfl,rfl,rfl,.nil,fun e he=>by simp at he,.nil,List.nodup_nil,Nat.zero_le _⟩
def tDNewX:TE:=fun _ H Q=>∀ p,H p=none→(p == sysModules)=false→Q (.ref p) (upd H p (dHO p dNew))
theorem new_ok{pins:List (Addr×Obj)}{σ:L2.St}{H:Hp}{s:Shared}{t':Nat}(I:Inv X pins σ H s):Inv X pins σ (upd H s.heap.objs.size (dHO s.heap.objs.size dNew)) { s with heap:=s.heap.push dNew,toks:=t' }∧(s.heap.objs.size == sysModules)=false :=
 ⟨I.laid (a:=s.heap.objs.size) (t':=t') (fun _ _ q=>Heap.get?_push_of_some _ q) (Nat.le_refl _) ⟨Heap.get?_push_size _ rfl,⟨_,Heap.get?_push_size _ rfl⟩,fun h1 h2 z k=>k _ z⟩,beq_eq_false_iff_ne.mpr (Ne.symm (Nat.ne_of_lt I.big))⟩
theorem pe_dnewX:PE X (.Dict [] [] pos) tDNewX:=⟨fun pins s σ H Q I h=>by
 obtain ⟨I1,hd⟩:=new_ok (t':=s.toks) I
 exact wpAny_Dict_empty ⟨.ref s.heap.objs.size,_,I1,rfl,h _ (I.hok.fresh (Nat.le_refl _)) hd⟩⟩
theorem rv_newD{K:KK}{F H Hs:Hp}{d:Nat}{a:Addr}(z1:H a=some (dHO a dNew))(z2:(a == sysModules)=false)(hf:F a=none)(hs:Hs a=none):RV K F H Hs (.ow (d+1),.dic [] []) (.ref a) :=
 ⟨[a],own_mkD (fps:=[]) z1 z2 dicK_new rfl trivial,by simp,fun b hb=>by simp at hb; subst hb; exact ⟨hf,hs⟩⟩
theorem de_dic0(d:Nat):DE C cm k N sc (.Dict [] [] pos) (eDic0 (d+1)) :=
 ⟨fun _=>tDNewX,fun X S W T=>pe_dnewX,fun W σ Γ F0 H0 F H Q g h p hp hd=>h _ F _ (Ext.new g.ext.fh g.ext.tp (fun _ z=>by cases z) hp) (rv_newD upd_same hd (g.ext.fh.free hp) hp)⟩
def tDGetX(K:KK)(td ty tx:TE):TE:=fun σ H Q=>td σ H fun x H1=>∃ a,x = .ref a∧(∃ o,H1 a=some (dHO a o)∧o.ExactDict)∧ty σ H1 fun y H2=>tx σ H2 fun z H3=>∃ o ks vs p,H3 a=some (dHO a o)∧(a == sysModules)=false∧DicK K H3 o (ks.map nkOf) vs∧sameK p ks=true∧Rep K H3 p y ∧
 Q (((dIx ks p).bind fun j=>vs[j]?).getD z) H3
theorem dx_get2{pins:List (Addr×Obj)}{σ:L2.St}{H:Hp}{s:Shared}{ad:Addr}{pv:PV}{y z:V}{u r:Value}{A:Around}{E:Value→Shared→Prop}{ob:Obj}{ks:List PV}{vs:List V}{Q:Value→Shared→Prop}(hu:A.units+10 < cLine)(I:Inv X pins σ H s)(e:H ad=some (dHO ad ob))(hd:(ad == sysModules)=false)(dk:DicK (kkX X) H ob (ks.map nkOf) vs)(hs:sameK pv ks=true)(rp:Rep (kkX X) H pv y)(ry:RelV y u)(rz:RelV z r)
  (h:∀ w' s',Inv X pins σ H s'→RelV (((dIx ks pv).bind fun j=>vs[j]?).getD z) w'→Q w' s'):wpAny (model X.prog X.w) A (call (.builtin "dict.get") [.ref ad,u,r]) Q E s:=by
 have hg:=dx_get? I e
 obtain ⟨h8,hk8⟩:=sameK_N hs
 rcases sameK_cases hs with ⟨hp,hks⟩ | ⟨hp,hks⟩
 ·obtain ⟨kvs,rs,h3,h4,h5,dd,nd,hz⟩:=leaf_dict hg (toLeaf dk hks)
  have hval:=ix_val (fun a b=>Leaf.key_inj) (leafOf_key hp) h8 h3 hk8
  refine call_meetsIn PySem.F.slot_dict_get dd.typeIs PySem.F.entry_dict_get (PySem.F.args_dict_get_3 _ _ _) (meets_dict_get_default (plK X.prog X.w) ad (leaf_is hp rp ry) hd r) ⟨_,dd.mapOf,h _ _ (I.tok _) ?_⟩
  rw [h4,← hval]
  exact (h5.val _).getD rz
 ·obtain ⟨kvs,xs,h3,h4,h5,dd,nd,hz⟩:=tup_dict I hg (Same.refl _) (toTup dk hks)
  obtain ⟨b,rfl⟩:=tup_ref hp rp
  cases ry
  obtain ⟨kv,_,kd⟩:=rep_key 8 pv _ h8 rp
  have hval:=ix_val (f:=id) (fun a b z=>z) (k:=nkOf pv) rfl h8 h3 hk8
  refine call_meetsIn PySem.F.slot_dict_get dd.typeIs PySem.F.entry_dict_get (PySem.F.args_dict_get_3 _ _ _) (meetsH_dict_get_default (nestedKind X.prog X.w) ad b hd r) ⟨show A.in1.units+8 < cLine by rw [Around.in1_units]; omega,nkOf pv,xs,⟨keyV_nested I.hok _ _ _ kv rfl,kd⟩,dd,h _ _ (I.tok _) ?_⟩
  rw [h4,← hval]
  exact (kn_val h5 _).getD rz
theorem pe_dgetX {td ty tx:TE} {f:Expr} (hu:X.A.units+10 < cLine) (ho:PE X o td) (he:PE X e ty) (hf:PE X f tx) (m:M2 X o "get" apos e f cpos):PE X (.Call (.Attribute o "get" apos) [e,f] [] cpos) (tDGetX (kkX X) td ty tx):=by
 refine ⟨fun pins s σ H Q I h=>?_⟩
 refine wpAny_Call_method m.base m.few m.line PySem.F.plainAttrs_dict PySem.F.slot_dict_get PySem.F.type_dict_get (thn (ho.run pins s σ H _ I h) fun u s1 ⟨x,H1,I1,rx,a,ex,⟨ob,d1,d2⟩,q1⟩=>?_)
 subst ex
 obtain rfl:u=Value.ref a:=rx
 have hg:=dx_get? I1 d1
 refine ⟨⟨ob,hg,d2.1⟩,fun b q=>by cases q; exact ⟨ob,hg,d2.2.1⟩,?_⟩
 rw [m.trees]
 refine Calls.callWith_builtin rfl (Calls.evalArgs_plain (Calls.spliced_cons (thn (he.run pins s1 σ H1 _ I1 q1) fun iv s2 ⟨y,H2,I2,ry,q2⟩ =>
  Calls.spliced_cons (thn (hf.run pins s2 σ H2 _ I2 q2) fun fv s3 ⟨z,H3,I3,rz,ob3,ks,vs,p,g1,g2,g3,g4,g5,q3⟩=>Calls.spliced_nil ?_))))
 exact dx_get2 hu I3 g1 g2 g3 g4 g5 ry rz fun w' s4 I4 rw'=>⟨_,H3,I4,rw',q3⟩
end
end Vl
end
section
set_option Elab.async false
set_option linter.all false
set_option maxRecDepth 100000
set_option maxHeartbeats 1000000
namespace Vl
open PySem L2 Vm PyProof.Rows
section
variable {C:Cn} {cm:Bool} {k:Nat} {N:List Str} {sc so:Scope} {a b c e f o tg kx:Expr} {es:List Expr} {A B J E:EX} {As:EXs} {T U:TX} {pos p tpos apos cpos p1 p2 pos':Pos} {X:Cx} {x:Str}
theorem fzK_ok{y:TV}{q:PV}(h:fzK y = .ok q):y=(.fz,q):=by
 obtain ⟨t,p⟩:=y
 cases t with
 | fz=>cases h; rfl
 | _=>cases h
theorem fzK_noexc{y:TV}{c:Nat}:fzK y ≠ .exc c:=by
 obtain ⟨t,p⟩:=y
 cases t <;> (intro h; cases h)
theorem de_dget (ha:DE C cm k N sc a A) (hb:DE C cm k N sc b B) (hc:DE C cm k N sc c E) (m:∀ X,Sta C cm k N sc X→M2 X a "get" apos b c cpos:=by exact fun _ _=>⟨rfl,rfl,rfl,rfl⟩):DE C cm k N sc (.Call (.Attribute a "get" apos) [b,c] [] cpos) (eDGet A B E):=by
 obtain ⟨ta,pa,qa⟩:=ha
 obtain ⟨tb,pb,qb⟩:=hb
 obtain ⟨tc,pc,qc⟩:=hc
 refine ⟨fun W=>tDGetX C.K (ta W) (tb W) (tc W),fun X S W T=>by rw [← S.KK]; exact pe_dgetX S.u10 (pa X S W T) (pb X S W T) (pc X S W T) (m X S),fun W σ Γ F0 H0 F H Q g h=>?_⟩
 unfold eDGet at h
 refine qa W σ Γ F0 H0 F H _ g (EOk.bind h fun x v F1 H1 ex e1 r1 h1=>?_)
 obtain ⟨t,q⟩:=x
 cases q with
 | dic ks l =>
  have h1:EOk C W σ F H Q ((B Γ).bind fun y=>(E Γ).bind fun z=>dgetV (t,.dic ks l) y.2 z):=h1
  obtain ⟨ad,ob,vs,rfl,g1,g2,g3,g4,g5⟩:=rv_partD e1.fh r1
  refine ⟨ad,rfl,⟨ob,g1,dic_exact g3⟩,?_⟩
  refine qb W σ Γ F0 H0 F1 H1 _ (g.next e1) (EOk.bind (h1.next e1) fun y u F2 H2 ey e2 r2 h2=>?_)
  have e12:=e1.trans e2
  refine qc W σ Γ F0 H0 F2 H2 _ ((g.next e1).next e2) (EOk.bind (h2.next e2) fun z w F3 H3 ez e3 r3 h3=>?_)
  have rd:=(r1.ext e2).ext e3
  obtain ⟨ad',ob',vs',e0,k1,k2,k3,k4,k5⟩:=rv_partD e3.fh rd
  cases e0
  have ry:=(r2.ext e3).rep e3.fh
  have h5:EOk C W σ F2 H2 Q (if flat1 t && sameK y.2 ks then (putV z).bind fun q=>.ok (.fz,(dGet ks l y.2).getD q) else .bad):=h3
  by_cases hk:(flat1 t && sameK y.2 ks)=true
  ·rw [if_pos hk] at h5
   rw [Bool.and_eq_true] at hk
   refine ⟨ob',ks,vs',y.2,k1,k2,k3,hk.2,ry,?_⟩
   have dnf:dn t = .fz:=by
    match t,hk.1 with
    | .fz,_=>rfl
    | .bw 0,_=>rfl
    | .bw 1,_=>rfl
    | .ow 0,_=>rfl
    | .ow 1,_=>rfl
    | .bw (n+2),z=>cases z
    | .ow (n+2),z=>cases z
   cases hp:putV z with
   | exc c=>exact (put_noexc hp).elim
   | bad=>rw [hp] at h5; exact h5.elim
   | ok zz =>
    rw [hp,bind_ok] at h5
    obtain ⟨f,hf⟩:=r3
    obtain ⟨F4,e4,s4,r4,_⟩:=hf.put e3 hp
    unfold dGet at h5
    cases hj:dIx ks y.2 with
    | none =>
     rw [hj] at h5
     exact h5 w F4 H3 e4 (.fz r4)
    | some j =>
     rw [hj] at h5
     show Q ((vs'[j]?).getD w) H3
     have h5:EOk C W σ F2 H2 Q (.ok (.fz,(l[j]?).getD zz)):=h5
     cases hl:l[j]? with
     | none =>
      have hv:vs'[j]? = none:=by
       rw [List.getElem?_eq_none_iff] at hl ⊢
       rw [k4.len]; exact hl
      rw [hl] at h5
      rw [hv]
      exact h5 w F4 H3 e4 (.fz r4)
     | some q =>
      obtain ⟨w',hw',rw'⟩:=k4.get hl
      rw [hl] at h5
      rw [hw']
      have rq:=k5 j q w' hl hw' H3
      rw [dnf] at rq
      exact h5 w' F4 H3 e4 (.fz (Rep.mono s4 _ _ rq.ofFz))
  ·rw [if_neg hk] at h5; exact h5.elim
 | _=>exact h1.elim
def sDX(K:KK)(td ty tv:TE):TS:=fun D σ H=>tv σ H fun v H1=>td σ H1 fun x H2=>ty σ H2 fun y H3=>∃ F a o ks vs p,x = .ref a∧Same F H3∧H3 a=some (dHO a o)∧DicK K F o (ks.map nkOf) vs∧sameK p ks=true∧Rep K F p y∧ks.length < sizeLine ∧
 ∀ o',DicK K F o' ((dPutK ks p).map nkOf) (dPutV ks vs p v)→D.nx σ (upd H3 a (dHO a o'))
theorem ps_dx{td ty tv:TE}{i value:Expr}(hu:X.A.units+10 < cLine)(ho:PE X o td)(hi:PE X i ty)(hv:PE X value tv)(hs:swapsWith value (some (.Subscript o i pos')) pos.line X.env=pure false):PS X (.Assign [.Subscript o i pos'] value pos) (sDX (kkX X) td ty tv):=by
 refine ⟨fun pins s σ H D I h=>?_⟩
 refine wpAny_Assign_Subscript (thn (hv.run pins s σ H _ I h) fun r s1 ⟨v,H1,I1,rv,q1⟩=>thn (ho.run pins s1 σ H1 _ I1 q1) fun u s2 ⟨x,H2,I2,rx,q2⟩=>thn (hi.run pins s2 σ H2 _ I2 q2) fun iv s3 ⟨y,H3,I3,ry,F,a,ob,ks,vs,p,ex,g0,g1,g2,g3,g4,g5,q3⟩=>?_) hs
 subst ex
 obtain rfl:u=Value.ref a:=rx
 exact dx_setItem hu I3 g0 g1 g2 g3 g4 ry rv g5 fun o' s4 d' I4=>⟨σ,_,I4,q3 o' d'⟩
theorem ds_dput (i:Nat) (hj:DE C cm k N sc b B) (he:DE C cm k N sc e A) (hN:N[i]? = some x:=by rfl) (hv:Vis sc x:=by first | exact Or.inl rfl | exact Or.inr (Or.inl rfl) | exact Or.inr (Or.inr rfl)) (hd:(x == ("__debug__":Str))=false:=by decide)
  (hcd:(x == ("__classdict__":Str))=false:=by decide) (hs:∀ env:PySem.Env,swapsWith e (some (.Subscript (.Name x p1) b pos')) pos.line env=pure false:=by intro _; rfl):DS C cm k N sc (.Assign [.Subscript (.Name x p1) b pos'] e pos) (dDPut i B A):=by
 obtain ⟨ta,pa,qa⟩:=he
 obtain ⟨tb,pb,qb⟩:=hj
 refine ⟨fun W=>sDX C.K (tVar i) (tb W) (ta W),fun X S W T=>by rw [← S.KK]; exact ps_dx S.u10 (pe_var (by rw [S.n]; exact hN) (by rw [S.s]; exact hv) hd hcd) (pb X S.toSta W T) (pa X S.toSta W T) (hs _),fun W D σ Γ F0 H0 F H g h=>?_⟩
 unfold dDPut at h
 split at h
 ·rename_i ks l eg
  obtain ⟨v0,fp,hv0,own,nd,fr,go⟩:=good_chg g eg
  obtain ⟨ad,ob,vs,fps,rfl,d1,d2,d3,d4,rfl,d6⟩:=own_dic own
  obtain ⟨fl,rl⟩:=ownl0_nil d6
  refine qa W σ Γ F0 H0 F H _ g.toGood (OutOk.bind g h fun y v F1 H1 ex e1 rv h=>?_)
  refine ⟨.ref ad,hv0,qb W σ Γ F0 H0 F1 H1 _ (g.next e1).toGood (OutOk.bind (g.next e1) h fun z u F2 H2 ez e2 r2 h=>?_)⟩
  cases hp:putV y with
  | exc c=>exact (put_noexc hp).elim
  | bad=>rw [hp] at h; exact h.elim
  | ok q =>
   rw [hp,after_ok] at h
   cases hq:fzK z with
   | exc c=>exact (fzK_noexc hq).elim
   | bad=>rw [hq] at h; exact h.elim
   | ok kq =>
    rw [hq,after_ok] at h
    have ez:=fzK_ok hq
    subst ez
    by_cases hk:(sameK kq ks && decide (ks.length < 16777216))=true
    ·rw [if_pos hk] at h
     rw [Bool.and_eq_true,decide_eq_true_eq] at hk
     obtain ⟨f,hf⟩:=rv
     obtain ⟨F3,e3,s3,r3,_⟩:=(hf.ext e2).put (e1.trans e2) hp
     have rk:Rep C.K F3 kq u:=Rep.mono s3 _ _ r2.ofFz
     have d3':=d3.tups (G:=F3) fun _ _=>e3.ff _ _
     refine ⟨F3,ad,ob,ks,vs,kq,rfl,e3.fh,(e1.trans e2).hh _ _ d1,d3',hk.1,rk,by rw [← szL_eq]; exact hk.2,fun o' dk=>?_⟩
     refine h σ F3 _ (go (H2:=H2) (d':=1) (fp':=ad :: ((dPutV ks l kq q).map fun _=>[]).flatten) e3 (fun b hb=>upd_ne fun z=>hb (by rw [z]; simp)) (fun b hb xs=>?_) (own_mkD upd_same d2 dk (keyG_put (rep_key 8 kq u (sameK_N hk.1).1 rk).2.1 d4) (ownl_flat (repL_put r3 (rl.mono e3.ff _ _)))) (by rw [flat_nil]; simp) (fun b hb=>.inl (by rw [flat_nil] at hb; rw [fl]; exact hb)))
     rw [fl] at hb
     simp at hb
     subst hb
     rw [upd_same]
     intro z
     cases z
    ·rw [if_neg hk] at h; exact h.elim
 ·exact h.elim
end
end Vl
end
section
set_option Elab.async false
set_option linter.all false
set_option maxRecDepth 100000
set_option maxHeartbeats 1000000
namespace Vl
open PySem L2 Vm PyProof.Rows
section
variable {C:Cn} {F0 H0 F H F1 H1:Hp} {Γ:En} {σ:L2.St}
end
section
variable {C:Cn} {cm:Bool} {k:Nat} {N:List Str} {sc so:Scope} {a b c e f o tg kx:Expr} {es:List Expr} {A B J E:EX} {As:EXs} {T U:TX} {pos p tpos apos cpos p1 p2 p3 pos' apos2 cpos2:Pos} {X:Cx} {x:Str}
end
end Vl
end
section
set_option linter.all false
set_option maxHeartbeats 1000000
namespace Vm
@[simp] def eDicN (ks:List (List Nat)) (as:EXs):EX:=fun Γ=>(as Γ).bind fun xs=>(putVs xs).bind fun ps=>if ps.length=ks.length then .ok (.ow 1,.dic (ks.map .str) ps) else .bad
end Vm
end
section
set_option Elab.async false
set_option linter.all false
set_option maxRecDepth 100000
set_option maxHeartbeats 1000000
namespace Vl
open PySem L2 Vm PyProof.Rows
section
variable {C:Cn} {cm:Bool} {k i:Nat} {N:List Str} {sc:Scope} {pos p1 p2 dpos:Pos} {X:Cx} {e b:Expr} {A B:EX} {As:EXs}
end
end Vl
end
section
set_option linter.all false
set_option maxHeartbeats 1000000
namespace Vm
@[simp] def eOrN (a b:EX):EX:=fun Γ=>(a Γ).bind fun x=>match x.2 with
 | .non=>b Γ
 | .int i=>if i=0 then b Γ else .ok (.fz,.int i)
 | _=>.bad
end Vm
end
section
set_option Elab.async false
set_option linter.all false
set_option maxRecDepth 100000
set_option maxHeartbeats 1000000
namespace Vl
open PySem L2 Vm PyProof.Rows
section
variable {C:Cn} {cm:Bool} {k i:Nat} {N:List Str} {sc:Scope} {pos p1 p2 dpos:Pos} {X:Cx} {a b:Expr} {A B:EX}
end
end Vl
end
section
set_option linter.all false
set_option maxHeartbeats 1000000
namespace Vm
@[simp] def eStrOnce (l:List Nat) (b:EX):EX:=fun Γ=>(b Γ).bind fun y=>match y.2 with
 | .int i=>if i=0 then .ok (.fz,.str []) else if i=1 then .ok (.fz,.str l) else .bad
 | _=>.bad
end Vm
end
section
set_option Elab.async false
set_option linter.all false
set_option maxRecDepth 100000
set_option maxHeartbeats 1000000
namespace Vl
open PySem L2 Vm PyProof.Rows
section
variable {C:Cn} {cm:Bool} {k:Nat} {N:List Str} {sc:Scope} {pos p1 p2:Pos} {X:Cx} {b:Expr} {B:EX}
end
end Vl
end
section
set_option Elab.async false
set_option linter.all false
set_option maxRecDepth 100000
set_option maxHeartbeats 1000000
namespace Vl
open PySem L2 Vm PyProof.Rows
section
variable {P:Program} {w:World} {K:PySem.W.Frag} {tg:Expr} {d:Addr} {o:Obj} {es:Array DictEntry} {ep:Nat}
end
end Vl
end
section
set_option Elab.async false
set_option linter.all false
set_option maxRecDepth 100000
set_option maxHeartbeats 1000000
namespace Vl
open PySem L2 Vm PyProof.Rows
section
variable {K:KK} {F H:Hp}
end
section
variable {P:Program} {w:World} {K:PySem.W.Frag} {tg:Expr} {d:Addr} {o:Obj} {es:Array DictEntry} {ep:Nat}
variable {X:Cx} {e:Expr} {td:TE} {apos cpos tpos:Pos}
end
section
variable {K:KK} {F H:Hp}
end
section
variable {C:Cn} {cm:Bool} {k:Nat} {N:List Str} {sc so:Scope} {a tg:Expr} {A:EX} {pos apos cpos tpos:Pos} {X:Cx} {elts:List Expr} {kk:Nat}
end
end Vl
end
section
set_option linter.all false
set_option maxHeartbeats 1000000
namespace Vm
@[simp] def sortKV (x:TV):Res TV:=match x.2 with
 | .dic ks _=>if srtOk ks && ks.all (keyN 8) && decide (ks.length≤16777216) then .ok (.ow 1,.lst (sortP ks)) else .bad
 | _=>.bad
@[simp] def eSortedD (a:EX):EX:=fun Γ=>(a Γ).bind sortKV
@[simp] def fzIts:TV→Res (List TV)
 | (.fz,.lst l)=>.ok (l.map fun p=>(.fz,p))
 | _=>.bad
@[simp] def fzX:TV→Res PV
 | (.fz,p)=>.ok p
 | _=>.bad
@[simp] def popG (Γ:En) (i:Nat):Option (List PV×PV):=match Γ.get i with
 | some (.ow 1,.lst l)=>l.getLast?.map fun p=>(l.dropLast,p)
 | _=>none
@[simp] def dForPop (i:Nat) (a:EX) (pat:Pat) (ws:List Nat) (body:ST):ST:=fun Γ=>aft (a Γ) Γ fun x=>match popG Γ i with
 | some q=>aft ((fzX x).bind fun p=>(ixV (.fz,p) q.2).bind fzIts) Γ fun l=>forL pat ws body l (wipeE (Γ.set i (some (.ow 1,.lst q.1))) ws)
 | none=>.bad
@[simp] def dForPopG (i:Nat) (a:EX) (pat:Pat) (ws:List Nat) (body:ST):ST:=fun Γ=>aft (a Γ) Γ fun x=>match popG Γ i with
 | some q=>aft ((fzX x).bind fun p=>(dgetV (.fz,p) q.2 (.ow 1,.lst [])).bind fzIts) Γ fun l=>forL pat ws body l (wipeE (Γ.set i (some (.ow 1,.lst q.1))) ws)
 | none=>.bad
@[simp] def dSetPop (j i:Nat):ST:=fun Γ=>match popG Γ i with
 | some q=>.nx ((Γ.set i (some (.ow 1,.lst q.1))).set j (some (.fz,q.2)))
 | none=>.bad
@[simp] def dIns (i:Nat) (k e:EX):ST:=fun Γ=>match Γ.get i with
 | some (.ow 1,.lst l)=>aft (k Γ) Γ fun y=>aft (e Γ) Γ fun x=>aft (putV x) Γ fun p=>match y.2 with
  | .int z=>if 0≤z∧z≤l.length∧l.length < 16777216 then .nx (Γ.set i (some (.ow 1,.lst (l.take z.toNat++p :: l.drop z.toNat)))) else .bad
  | _=>.bad
 | _=>.bad
@[simp] def lstO:Nat→PV→Bool
 | 0,_=>true
 | d+1,.lst l=>l.all (lstO d)
 | _+1,_=>false
@[simp] def lstA:TV→Bool
 | (.fz,_)=>true
 | (.bw d,p)=>lstO d p
 | (.ow d,p)=>lstO d p
@[simp] def stabD:TV→Bool
 | (.fz,.dic _ l)=>stabL l
 | r=>stabR r
@[simp] def eCallD (f:FN) (as:EXs):EX:=fun Γ=>(as Γ).bind fun xs=>(f (xs.map (·.2))).bind fun r=>if xs.all lstA && stabD r then .ok r else .bad
end Vm
end
section
set_option Elab.async false
set_option linter.all false
set_option maxRecDepth 100000
set_option maxHeartbeats 1000000
namespace Vl
open PySem L2 Vm PyProof.Rows
section
variable {X:Cx} {tg e:Expr} {te:TE}
end
section
variable {C:Cn} {cm:Bool} {k:Nat} {N:List Str} {sc so:Scope} {a b c e tg:Expr} {es:List Expr} {A B:EX} {As:EXs} {T U:TX} {pos p p1 apos cpos spos lpos:Pos} {X:Cx} {x y:Str} {st:Stmt} {sts:List Stmt} {d d':ST}
variable {F0 H0 F H F1 H1:Hp} {Γ:En} {σ:L2.St} {W:WX} {D:Ends}
end
end Vl
end
section
set_option Elab.async false
set_option linter.all false
set_option maxRecDepth 100000
set_option maxHeartbeats 1000000
namespace Vl
open PySem L2 Vm PyProof.Rows
section
variable {C:Cn} {cm:Bool} {k:Nat} {N:List Str} {sc so:Scope} {a b c e tg:Expr} {es:List Expr} {A B:EX} {As:EXs} {T U:TX} {pos p p1 apos cpos spos lpos gpos dpos:Pos} {X:Cx} {x y:Str} {st:Stmt} {sts:List Stmt} {d d':ST}
variable {F0 H0 F H F1 H1:Hp} {Γ:En} {σ:L2.St} {W:WX} {D:Ends}
end
section
variable {K:KK} {H:Hp}
mutual
theorem key_reads {P:Program} {w:World} {h:Heap} (ok:HOk P w H h):∀ (n:Nat) (p:PV) (v:V) (u:Value),keyN n p=true→Rep K H p v→RelV v u→Reads h u (dat p) []
 | n,.non,v,u,_,r,ru=>by unfold Rep at r; subst r; cases ru; exact .none
 | n,.int i,v,u,_,r,ru=>by unfold Rep at r; subst r; obtain ⟨t,rfl⟩:=ru; exact .int _ _
 | n,.str l,v,u,_,r,ru=>by unfold Rep at r; obtain ⟨rfl,_⟩:=r; obtain ⟨t,rfl⟩:=ru; exact .str _ _
 | 0,.tup l,v,u,s,_,_=>by simp [keyN] at s
 | n+1,.tup l,v,u,s,r,ru=>by
  unfold keyN at s
  unfold Rep at r
  obtain ⟨a,vs,rfl,⟨ob,_,h2⟩,h3⟩:=r
  cases ru
  obtain ⟨_,_,its,rv,o,h4,h5,m,h6⟩:=(show ObjOk P w H h a (tq (ob,vs)) from ok a _ h2)
  exact .tuple h4 h5 h6 (by simpa using keys_reads ok n l vs its s h3 rv)
 | n,.bl _,v,u,s,_,_=>by simp [keyN] at s
 | n,.lst _,v,u,s,_,_=>by simp [keyN] at s
 | n,.dic _ _,v,u,s,_,_=>by simp [keyN] at s
 | n,.exo _ _,v,u,s,_,_=>by simp [keyN] at s
theorem keys_reads {P:Program} {w:World} {h:Heap} (ok:HOk P w H h):∀ (n:Nat) (l:List PV) (vs:List V) (us:List Value),keyNL n l=true→RepL K H l vs→Vals vs us→ReadsAll h us (datL l) []
 | n,[],vs,us,_,r,ru=>by unfold RepL at r; subst r; cases ru; exact .nil
 | n,p :: ps,vs,us,s,r,ru=>by
  unfold keyNL at s
  rw [Bool.and_eq_true] at s
  unfold RepL at r
  obtain ⟨v,r',rfl,h2,h3⟩:=r
  cases ru with
  | cons r1 r2=>exact .cons (as:=[]) (bs:=[]) (key_reads ok n p v _ s.1 h2 r1) (keys_reads ok n ps r' _ s.2 h3 r2)
end
end
theorem keyNL_of{n:Nat}:∀ {ks:List PV},ks.all (keyN n)=true→keyNL n ks=true
 | [],_=>rfl
 | p :: ks,h=>by
  rw [List.all_cons,Bool.and_eq_true] at h
  unfold keyNL
  rw [h.1,keyNL_of h.2]; rfl
theorem each_reads0{h:Heap}:∀ {its:List Value} {us:List V} {l:List PV} {a:Addr},us.length=l.length→Vals us its→ReadsAll h its (datL l) []→PySem.W.EachIs (fun v (b:V×PV)=>∃ as,Reads h v (dat b.2) as∧a ∉ as) its (us.zip l)
 | _,[],[],_,_,.nil,_=>.nil
 | _,u :: us,p :: l,a,h,.cons r t,hr=>by
  unfold datL at hr
  generalize e:([]:List Addr)=q at hr
  cases hr with
  | @cons _ _ _ _ as bs h1 h2 =>
   have e2:=List.append_eq_nil_iff.mp e.symm
   obtain ⟨rfl,rfl⟩:=e2
   exact .cons ⟨[],h1,by simp⟩ (each_reads0 (by simpa using h) t h2)
 | _,[],_ :: _,_,h,_,_=>by simp at h
 | _,_ :: _,[],_,h,_,_=>by simp at h
section
variable {C:Cn} {cm:Bool} {k:Nat} {N:List Str} {sc so:Scope} {a:Expr} {A:EX} {pos p:Pos}
end
end Vl
end
section
set_option Elab.async false
set_option linter.all false
set_option maxRecDepth 100000
set_option maxHeartbeats 1000000
namespace Vl
open PySem L2 Vm PyProof.Rows
section
variable {K:KK} {F H:Hp}
end
section
variable {C:Cn} {cm:Bool} {k:Nat} {N:List Str} {sc:Scope} {a b c e:Expr} {es:List Expr} {A B:EX} {As:EXs} {T U:TX} {pos p:Pos} {X:Cx} {x:Str}
end
end Vl
end
section
set_option linter.all false
set_option maxHeartbeats 1000000
namespace Vm
@[simp] def eChain3 (op op' op'':PV→PV→Res PV) (a b c d:EX):EX:=fun Γ=>(a Γ).bind fun x=>(b Γ).bind fun y=>(op x.2 y.2).bind fun z=>match z with
 | .bl true=>(c Γ).bind fun w=>(op' y.2 w.2).bind fun z'=>match z' with
  | .bl true=>(d Γ).bind fun u=>(op'' w.2 u.2).bind fzv
  | .bl false=>.ok (.fz,.bl false)
  | _=>.bad
 | .bl false=>.ok (.fz,.bl false)
 | _=>.bad
def intsP:List PV→Option (List Int)
 | []=>some []
 | .int i :: l=>(intsP l).map (i :: ·)
 | _ :: _=>none
def lexI:List Int→List Int→Bool
 | [],[]=>false
 | [],_ :: _=>true
 | _ :: _,[]=>false
 | x :: xs,y :: ys=>decide (x < y) || (decide (x=y) && lexI xs ys)
@[simp] def opLtT:PV→PV→Res PV
 | .tup xs,.tup ys=>match intsP xs,intsP ys with
  | some a,some b=>.ok (.bl (lexI a b))
  | _,_=>.bad
 | _,_=>.bad
end Vm
end
section
set_option Elab.async false
set_option linter.all false
set_option maxRecDepth 100000
set_option maxHeartbeats 1000000
namespace Vl
open PySem L2 Vm PyProof.Rows
section
variable {X:Cx} {a b c d:Expr} {ta tb tc td:TE} {pos:Pos}
end
section
variable {C:Cn} {cm:Bool} {k:Nat} {N:List Str} {sc:Scope} {a b c d:Expr} {A B E D:EX} {pos:Pos}
structure CmpQ (C:Cn) (cm:Bool) (k:Nat) (N:List Str) (sc:Scope) (op:CmpOp) (r:R2) (f:PV→PV→Res PV):Prop where
 o:∀ X,Sta C cm k N sc X→OpR X (compareOp op) r
 e:Op2 C r f
 b:∀ p q z,f p q = .ok z→∃ b:Bool,z = .bl b
theorem CmpI.q{op:CmpOp}{f:PV→PV→Res PV}(h:CmpI C cm k N sc op f):∃ r,CmpQ C cm k N sc op r f:=by
 obtain ⟨r,o1,o2⟩:=h.x
 exact ⟨r,o1,o2,h.b⟩
end
end Vl
end
section
set_option linter.all false
set_option maxHeartbeats 1000000
namespace Vm
@[simp] def eTupRev (a:EX):EX:=fun Γ=>(a Γ).bind fun x=>match x with
 | (t,.lst l)=>if flat1 t then .ok (.fz,.tup l.reverse) else .bad
 | (_,.tup l)=>.ok (.fz,.tup l.reverse)
 | _=>.bad
end Vm
end
section
set_option Elab.async false
set_option linter.all false
set_option maxRecDepth 100000
set_option maxHeartbeats 1000000
namespace RT
open PySem PySem.Spec PyProof.Rows L2
theorem nolen_rt:typeLookup (.type "reversed") "__len__" = pure none:=by rw [typeLookup_type,builtinLookup_eq_fast]; kernel_rfl
theorem slot_rt_hint:Slot "reversed" "__length_hint__" "reversed.__length_hint__" :=
 .of (owner:="reversed") (n:="__length_hint__") (by rw [typeLookup_type,builtinLookup_eq_fast]; kernel_rfl) (by decide +kernel) (by decide +kernel) (by decide +kernel)
  (by first | exact .inl (by decide +kernel) | exact .inr (by decide +kernel)) (by rw [isSubtype_type]; kernel_rfl)
theorem entry_rt_hint:entryFor table "reversed.__length_hint__" = some Builtin.«reversed.__length_hint__»:=entryFor_of_tree (by kernel_rfl)
theorem args_rt_hint(a:Value):argsOk "reversed.__length_hint__" ⟨[a],[]⟩:=by
 unfold argsOk; rw [signature?_of (id:="reversed.__length_hint__") (n:="__length_hint__".toList.reverse) (o:=['d','e','s','r','e','v','e','r']) (by kernel_rfl) owner_rt]; kernel_rfl
section
variable {prog:Program} {w:World} {A:Around} {E:Value→Shared→Prop} {s:Shared}
theorem call_rt_hint {it t:Addr} {items:Array Value} {Q:Value→Shared→Prop} (hit:IsRt s.heap it t ((items.size:Int) - 1))
  (hlen:∀ (A:Around) (E:Value→Shared→Prop) (Q:Value→Shared→Prop),Q (.int items.size (s.toks+1)) { s with toks:=s.toks+1+1 }→wpAny (model prog w) A (call (.builtin "len") [.ref t]) Q E s)
  (h:∀ tk tk',Q (.int items.size tk) { s with toks:=tk' }):wpAny (model prog w) A (call (.builtin "reversed.__length_hint__") [.ref it]) Q E s:=by
 obtain ⟨o,ho,hc,hd⟩:=id hit
 refine wpAny_call_entry slot_rt_hint hit.typeIs entry_rt_hint ?_ (args_rt_hint _)
 unfold Builtin.«reversed.__length_hint__»
 refine wpAny_bind (wpAny_of_eq (a:=Value.ref it) rfl ?_)
 try dsimp only
 refine wpAny_bind (wpAny_field ho hd (x:=.ref t) rfl ?_)
 try dsimp only
 try rw [if_neg (by decide)]
 try dsimp only
 refine wpAny_bind (hlen _ _ _ ?_)
 refine wpAny_bind (wpAny_of_eq (a:=some ((items.size:Nat):Int)) rfl ?_)
 try dsimp only
 refine wpAny_bind (wpAny_field (s:={ s with toks:=s.toks+1+1 }) ho hd (x:=rawInt ((items.size:Int) - 1)) rfl ?_)
 show wpAny _ _ (if ((items.size:Nat):Int) < (items.size:Int) - 1+1 then _ else _) _ _ _
 rw [if_neg (by omega)]
 have e:(items.size:Int) - 1+1=(items.size:Int):=by omega
 rw [e]
 unfold retInt
 refine wpAny_bind (wpAny_mkInt ?_)
 exact wpAny_pure ⟨_,rfl,h _ _⟩
theorem hint_rt {it t:Addr} {items:Array Value} {Q:Bool→Shared→Prop} (hit:IsRt s.heap it t ((items.size:Int) - 1)) (hn:items.size≤sizeLine)
  (hlen:∀ (A:Around) (E:Value→Shared→Prop) (Q:Value→Shared→Prop),Q (.int items.size (s.toks+1)) { s with toks:=s.toks+1+1 }→wpAny (model prog w) A (call (.builtin "len") [.ref t]) Q E s)
  (h:∀ b tk,Q b { s with toks:=tk }):wpAny (model prog w) A (Builtin.List.listLengthHint (.ref it)) Q E s:=by
 have hT:s.TypeIs (.ref it) "reversed":=hit.typeIs
 unfold Builtin.List.listLengthHint
 refine wpAny_bind (wpAny_specialOf hT nolen_rt ?_)
 show wpAny _ A (specialOf (Value.ref it) (Str.ofString "__length_hint__") >>= _) _ _ _
 refine wpAny_bind (wpAny_specialOf hT slot_rt_hint.lookup ?_)
 generalize hid:("reversed.__length_hint__":String)=id0
 wp_delta
 rw [show splitId id0=some ("reversed","__length_hint__") from by subst hid; decide +kernel]
 subst hid
 refine wpAny_bind (wpAny_isInstance (T:="reversed") (b:=true) hT F.sub_reversed_self ?_)
 refine wpAny_ite_split (fun hab=>absurd hab (by decide)) (fun _=>?_)
 refine wpAny_ite_split (fun hab=>absurd hab (by decide +kernel)) (fun _=>?_)
 refine wpAny_bind (wpAny_rule ?_)
 refine wpAny_bind (wpAny_of_eq (slot_rt_hint.bind _) ?_)
 try dsimp only
 refine wpAny_bind (wpAny_attempt (call_rt_hint hit hlen fun tk tk'=>?_))
 try dsimp only
 have ei:asInt? (Value.int ((items.size:Nat):Int) tk)=pure (some ((items.size:Nat):Int)):=rfl
 refine wpAny_bind ?_
 rw [ei]
 refine wpAny_pure ?_
 try dsimp only
 have hs:=line63
 have hf:Builtin.List.listFitsIndex ((items.size:Nat):Int)=true:=by
  unfold Builtin.List.listFitsIndex
  simp only [Bool.and_eq_true,decide_eq_true_eq]
  omega
 have hl:Builtin.List.listTooLong ((items.size:Nat):Int).toNat=false:=by
  unfold Builtin.List.listTooLong
  simp only [decide_eq_false_iff_not]
  omega
 simp only [hf,hl,Bool.not_true,Bool.false_eq_true,if_false]
 rw [if_neg (by omega)]
 exact wpAny_pure (h _ _)
theorem Walks.tupRev(hh:A.handled=none)(I t:Addr)(hne:t ≠ I)(items:Array Value)(hsz:items.size≤sizeLine) :
  Walks prog w A I [I,t] [I] items.size (fun i v=>items[items.size - 1 - i]? = some v) (fun i h=>i≤items.size∧IsRt h I t ((items.size:Int) - 1 - (i:Int))∧IsTup h t items) where
 sub:=fun b hb=>by simp at hb; simp [hb]
 frame:=fun _ _ _ x hk=>⟨x.1,x.2.1.at fun o e=>hk I (by simp) o e,let ⟨o,e,r⟩:=x.2.2; ⟨o,hk t (by simp) o e,r⟩⟩
 item:=fun i s Q E hi x hQ=>by
  have e:(items.size:Int) - 1 - (i:Int)=((items.size - 1 - i:Nat):Int):=by omega
  have hit:=x.2.1
  rw [e] at hit
  have hx:items[items.size - 1 - i]? = some (items[items.size - 1 - i]'(by omega)):=Array.getElem?_eq_getElem (by omega)
  refine next_rt_item hit x.2.2 hx hsz fun h' hit' hs'=>?_
  have e2:((items.size - 1 - i:Nat):Int) - 1=(items.size:Int) - 1 - ((i+1:Nat):Int):=by omega
  rw [e2] at hit'
  obtain ⟨o,ho,r⟩:=id x.2.2
  exact hQ _ h' (s.toks+1) hx ⟨hi,hit',⟨o,(hs'.2 t hne).trans ho,r⟩⟩ fun b o hb eo=>hs'.extBut b o (fun h=>hb (by simp [h])) eo
 done:=fun s Q E x hQ=>by
  have e:(items.size:Int) - 1 - (items.size:Int)=-1:=by omega
  have hit:=x.2.1
  rw [e] at hit
  exact next_rt_end hh hit fun h' he'=>hQ h' s.toks fun b o hb eo=>he' b o (fun h=>hb (by simp [h])) eo
 self:=fun _ _ _ _ x hQ=>iter_rt x.2.1 hQ
theorem collect_rt {it t:Addr} {items:Array Value} {Q:List Value→Shared→Prop} (hh:A.handled=none) (hit:IsRt s.heap it t ((items.size:Int) - 1)) (ht:IsTup s.heap t items) (hne:t ≠ it) (hn:items.size≤sizeLine)
  (hlen:∀ (s:Shared) (A:Around) (E:Value→Shared→Prop) (Q:Value→Shared→Prop),IsTup s.heap t items→Q (.int items.size (s.toks+1)) { s with toks:=s.toks+1+1 }→wpAny (model prog w) A (call (.builtin "len") [.ref t]) Q E s)
  (hQ:∀ (h':Heap) (tk:Nat) (acc:Array Value),(∀ b o,b ≠ it→s.heap.get? b=some o→h'.get? b=some o)→ItemsOf (fun i v=>items[items.size - 1 - i]? = some v) acc items.size→Q acc.toList { s with heap:=h',toks:=tk }) :
  wpAny (model prog w) A (collect (.ref it)) Q E s:=by
 have W:=(Walks.tupRev (prog:=prog) (w:=w) (A:=A.in1) hh it t hne items hn).toS
 obtain ⟨oi,hoi,_⟩:=id hit
 obtain ⟨ol,hol,_⟩:=id ht
 have hSi:s.heap.objs.size ≠ it:=Nat.ne_of_gt (Heap.lt_size hoi)
 have hSl:s.heap.objs.size ≠ t:=Nat.ne_of_gt (Heap.lt_size hol)
 have hSf:s.heap.objs.size ∉ [it,t]:=by simp only [List.mem_cons,List.not_mem_nil,or_false,not_or]; exact ⟨hSi,hSl⟩
 unfold collect
 refine wpAny_bind (wpAny_runValue (codeAny_builtin F.entry_proto_collect ?_))
 rw [Around.under_plainId F.plain_proto_collect _]
 show wpAny _ A.in1 (newList [] >>= fun l'=>again (.builtin "list.__iadd__" ⟨[l',.ref it],[]⟩)) _ _ s
 refine wpAny_bind (wpAny_newObj_type ?_)
 refine wpAny_pure ⟨plainId_quiet F.plain_list_iadd _,codeAny_builtin F.entry_list_iadd ?_⟩
 rw [Around.under_plainId F.plain_list_iadd _]
 have hS₁:(s.heap.push { cls:=.type "list",data:=.seq ([]:List Value).toArray }).get? s.heap.objs.size=some { cls:=.type "list",data:=.seq ([]:List Value).toArray }:=Heap.get?_push_size _ rfl
 have hit1:IsRt (s.heap.push { cls:=.type "list",data:=.seq ([]:List Value).toArray }) it t ((items.size:Int) - 1):=hit.at fun o e=>Heap.get?_push_of_some _ e
 have ht1:IsTup (s.heap.push { cls:=.type "list",data:=.seq ([]:List Value).toArray }) t items:=ht.push _
 have hT:({ s with heap:=s.heap.push { cls:=.type "list",data:=.seq ([]:List Value).toArray } }:Shared).TypeIs (.ref it) "reversed":=IsRt.typeIs (s:={ s with heap:=s.heap.push { cls:=.type "list",data:=.seq ([]:List Value).toArray } }) hit1
 have h1:Builtin.List.listSameRef (.ref s.heap.objs.size) (.ref it)=false:=by simp [Builtin.List.listSameRef,hSi]
 show wpAny _ A.in1 (Builtin.List.listExtendWith (.ref s.heap.objs.size) (.ref it) (.ref s.heap.objs.size)) _ _ _
 unfold Builtin.List.listExtendWith
 refine wpAny_bind (wpAny_typeOf hT ?_)
 have h2:(Value.type "reversed" == Value.type "list")=false:=by decide
 have h3:(Value.type "reversed" == Value.type "tuple")=false:=by decide
 simp only [h1,h2,h3,Bool.or_false,Bool.false_eq_true,if_false]
 refine wpAny_bind (iter_rt (s:={ s with heap:=s.heap.push { cls:=.type "list",data:=.seq ([]:List Value).toArray } }) hit1 ?_)
 refine wpAny_bind (wpAny_holding ?_)
 refine hint_rt (s:={ s with heap:=s.heap.push { cls:=.type "list",data:=.seq ([]:List Value).toArray } }) hit1 hn (fun A E Q k=>hlen _ A E Q ht1 k) fun room tk=>?_
 have e0:((items.size:Nat):Int) - 1 - ((0:Nat):Int)=(items.size:Int) - 1:=by omega
 have h4:(Builtin.List.listSameRef (.ref s.heap.objs.size) (.ref it))=false:=h1
 cases room with
 | false =>
  refine wpAny_ite_split (fun hab=>absurd hab (by decide +kernel)) (fun _=>?_)
  refine wpAny_pure ⟨plainId_quiet F.plain_extend_loop _,codeAny_extend_loopS W hn _ hSf _ items.size 0 _ _ _ rfl (Nat.zero_le _) ⟨Nat.zero_le _,by rw [e0]; exact hit1,ht1⟩ hS₁ (ItemsOf.nil _) fun s' acc' c' hm hS' hacc=>?_⟩
  show wpAny _ A (load s.heap.objs.size >>= _) _ _ s'
  refine wpAny_bind (wpAny_load hS' ?_)
  refine wpAny_pure ?_
  rw [Moved.eq_with hm]
  refine hQ s'.heap s'.toks acc' (fun b o hb e=>hm.heap b o (fun hmem=>?_) (Heap.get?_push_of_some _ e)) hacc
  rcases List.mem_cons.mp hmem with e' | hmem
  ·exact absurd (Heap.lt_size e) (by rw [e']; exact Nat.lt_irrefl _)
  ·exact hb (List.mem_singleton.mp hmem)
 | true =>
  show wpAny _ A.in1 (rule "list.extend.makes-room" >>= fun _=>Builtin.List.listTouch (.ref s.heap.objs.size) >>= fun _ =>
   again (.builtin "list.extend.loop" ⟨[.ref s.heap.objs.size,.ref it,.ref s.heap.objs.size],[]⟩)) _ _ _
  refine wpAny_bind (wpAny_rule ?_)
  refine wpAny_bind ?_
  show wpAny _ A.in1 (updateSeq s.heap.objs.size (·.push .none) >>= fun _=>updateSeq s.heap.objs.size (·.pop)) _ _ _
  refine wpAny_bind (wpAny_updateSeq hS₁ rfl ?_)
  have hS₂:=Heap.get?_update_self (Obj.mapSeq (·.push Value.none)) hS₁ rfl
  refine wpAny_updateSeq hS₂ rfl ?_
  have hS₃:=Heap.get?_update_self (Obj.mapSeq (·.pop)) hS₂ rfl
  have oth:∀ b o,b ≠ s.heap.objs.size→(s.heap.push { cls:=.type "list",data:=.seq ([]:List Value).toArray }).get? b=some o →
    (((s.heap.push { cls:=.type "list",data:=.seq ([]:List Value).toArray }).update s.heap.objs.size (Obj.mapSeq (·.push Value.none))).update s.heap.objs.size (Obj.mapSeq (·.pop))).get? b=some o :=
   fun b o hb e=>(Heap.get?_update_other _ _ (Ne.symm hb)).trans ((Heap.get?_update_other _ _ (Ne.symm hb)).trans e)
  refine wpAny_pure ⟨plainId_quiet F.plain_extend_loop _,codeAny_extend_loopS W hn _ hSf _ items.size 0 _ _ _ rfl (Nat.zero_le _)
   ⟨Nat.zero_le _,by rw [e0]; exact hit1.at fun o e=>oth it o (Ne.symm hSi) e,by obtain ⟨o,e,r⟩:=ht1; exact ⟨o,oth t o (Ne.symm hSl) e,r⟩⟩ hS₃ (ItemsOf.nil _) fun s' acc' c' hm hS' hacc=>?_⟩
  show wpAny _ A (load s.heap.objs.size >>= _) _ _ s'
  refine wpAny_bind (wpAny_load hS' ?_)
  refine wpAny_pure ?_
  rw [Moved.eq_with hm]
  refine hQ s'.heap s'.toks acc' (fun b o hb e=>hm.heap b o (fun hmem=>?_) (oth b o (fun e'=>?_) (Heap.get?_push_of_some _ e))) hacc
  ·rcases List.mem_cons.mp hmem with e' | hmem
   ·exact absurd (Heap.lt_size e) (by rw [e']; exact Nat.lt_irrefl _)
   ·exact hb (List.mem_singleton.mp hmem)
  ·exact absurd (Heap.lt_size e) (by rw [e']; exact Nat.lt_irrefl _)
theorem code_tuple_new_rt {it t:Addr} {items:Array Value} {Q₁:Value→Shared→Prop} (hh:A.handled=none) (hit:IsRt s.heap it t ((items.size:Int) - 1)) (ht:IsTup s.heap t items) (hne:t ≠ it) (hn:items.size≤sizeLine)
  (hlen:∀ (s:Shared) (A:Around) (E:Value→Shared→Prop) (Q:Value→Shared→Prop),IsTup s.heap t items→Q (.int items.size (s.toks+1)) { s with toks:=s.toks+1+1 }→wpAny (model prog w) A (call (.builtin "len") [.ref t]) Q E s)
  (h:∀ (h':Heap) (tk:Nat) (acc:Array Value),(∀ b o,b ≠ it→s.heap.get? b=some o→h'.get? b=some o)→ItemsOf (fun i v=>items[items.size - 1 - i]? = some v) acc items.size →
   Q₁ (.ref h'.objs.size) { s with heap:=h'.push { cls:=.type "tuple",data:=.seq acc },toks:=tk }) :
  codeAny (model prog w) A (.call (.builtin "tuple.__new__") ⟨[.type "tuple",.ref it],[]⟩) (wants Q₁ E) s:=by
 refine codeAny_of_tree ?_
 show wpAny _ A.in1 (do checkBuiltinCall "tuple.__new__" ⟨[.type "tuple",.ref it],[]⟩; again (.builtin "tuple.__new__" ⟨[.type "tuple",.ref it],[]⟩)) _ _ s
 refine wpAny_bind (wpAny_of_eq (F.newCall_tuple_1 _) (wpAny_pure ⟨plainId_quiet F.plain_tuple_new _,codeAny_builtin F.entry_tuple_new ?_⟩))
 rw [Around.under_plainId F.plain_tuple_new _]
 have hsub:=sub_tuple_self
 have hinit:=init_tuple_lookup
 have hmh:=madeHere_tuple
 have hTI:s.TypeIs (.ref it) "reversed":=hit.typeIs
 have hh1:A.in1.handled=none:=hh
 wp_walk using wpAny_typeOf hTI,collect_rt (A:=A.in1) hh1 hit ht hne hn hlen
 intro h' tk acc hk hacc
 show wpAny _ _ (Builtin.Tuple.tupleExact acc.toList.toArray >>= fun v=>ret v) _ _ _
 unfold Builtin.Tuple.tupleExact
 refine wpAny_bind (wpAny_newObj_type ?_ (by show acc.toList.toArray.size≤sizeLine; simp only [Array.toArray_toList]; rw [hacc.1]; exact hn))
 refine wpAny_pure ?_
 have e:acc.toList.toArray=acc:=by simp
 rw [e]
 exact h h' tk acc hk hacc
theorem call_tuple_rt {it t:Addr} {items:Array Value} {Q:Value→Shared→Prop} (hh:A.handled=none) (hit:IsRt s.heap it t ((items.size:Int) - 1)) (ht:IsTup s.heap t items) (hne:t ≠ it) (hn:items.size≤sizeLine)
  (hlen:∀ (s:Shared) (A:Around) (E:Value→Shared→Prop) (Q:Value→Shared→Prop),IsTup s.heap t items→Q (.int items.size (s.toks+1)) { s with toks:=s.toks+1+1 }→wpAny (model prog w) A (call (.builtin "len") [.ref t]) Q E s)
  (hQ:∀ (h':Heap) (tk:Nat) (acc:Array Value),(∀ b o,b ≠ it→s.heap.get? b=some o→h'.get? b=some o)→ItemsOf (fun i v=>items[items.size - 1 - i]? = some v) acc items.size →
   Q (.ref h'.objs.size) { s with heap:=h'.push { cls:=.type "tuple",data:=.seq acc },toks:=tk }) :
  wpAny (model prog w) A (call (.type "tuple") [.ref it]) Q E s:=by
 refine callType_codes (Q₁:=fun obj s₁=>s₁.TypeIs obj "tuple"∧Q obj s₁) F.called_tuple (F.typeCall_tuple_1 _) F.entry_object_init
  (code_tuple_new_rt (A:=A.in1) hh hit ht hne hn hlen fun h' tk acc hk hacc=>⟨⟨_,Heap.get?_push_size _ rfl,rfl⟩,hQ h' tk acc hk hacc⟩) fun obj s₁ h₁=>?_
 exact ⟨h₁.1,F.args_object_init_2 obj _,object_init_meets F.called_tuple.init.lookup F.called_tuple.made (by decide) prog w A.in1 _ s₁ ⟨h₁.1,rfl,h₁.2⟩⟩
end
def tTupRevA(K:PySem.W.Frag)(te:TE):TE:=fun σ H Q=>te σ H fun v H1=>∃ (a:Addr) (xs:List V),v = .ref a∧(SqL K H1 a xs ∨ SqT K H1 a xs)∧NewT xs.reverse H1 Q
section
variable {X:Cx}
theorem pe_tupRevA {e:Expr} {te:TE} {p p2 pos pos2:Pos} (hc:X.calm=true) (hg:Gl X "tuple") (hm:X.mg "tuple" = none) (hg2:Gl X "reversed") (hm2:X.mg "reversed" = none) (he:PE X e te)
  (hs:starEach [e] X.env=(false,eval e X.env) :: starEach [] X.env:=by rfl)
  (hs2:starEach [.Call (.Name "reversed" p2) [e] [] pos2] X.env=(false,eval (.Call (.Name "reversed" p2) [e] [] pos2) X.env) :: starEach [] X.env:=by rfl) :
  PE X (.Call (.Name "tuple" p) [.Call (.Name "reversed" p2) [e] [] pos2] [] pos) (tTupRevA X.K te):=by
 refine ⟨fun pins s σ H Q I h=>?_⟩
 refine Call_ (ld_blt I hg hm boot_tuple (PyProof.Rows.callWith_type1 (args_cons (Call_ (ld_blt I hg2 hm2 PyProof.Rows.boot_reversed (PyProof.Rows.callWith_type1 (args_cons (thn (he.run pins s σ H _ I h) fun u s1 ⟨v,H1,I1,r1,q1⟩=>args_nil ?_) hs) hs rfl))) hs2) hs2 rfl))
 obtain ⟨a,xs,ev,hq,q⟩:=q1
 subst ev
 obtain rfl:u=Value.ref a:=r1
 rcases hq with hq | hq
 ·obtain ⟨its,rv,p',hz⟩:=I1.list hq
  refine call_reversed_list p'.isList (args_nil ?_)
  have k0:∀ b o,s1.heap.get? b=some o→(s1.heap.push (revObj a ((its.toArray.size:Int) - 1))).get? b=some o:=fun b o e=>Heap.get?_push_of_some _ e
  have I2:Inv X pins σ H1 { s1 with heap:=s1.heap.push (revObj a ((its.toArray.size:Int) - 1)) }:=I1.kept (t':=s1.toks) k0
  obtain ⟨f0,f1,f2,f3,f4,f5⟩:=I1.fpOk (H':=H1) (b:=s1.heap.objs.size) (Nat.le_refl _) (I1.hok.fresh (Nat.le_refl _))
  have hl:=p'.isList
  obtain ⟨ol,hol,_⟩:=id hl
  have hne:a ≠ s1.heap.objs.size:=Nat.ne_of_lt (Heap.lt_size hol)
  have hn:its.toArray.size≤sizeLine:=by rw [List.size_toArray,← rv.length]; exact hz
  refine call_tuple_rev (s:={ s1 with heap:=s1.heap.push (revObj a ((its.toArray.size:Int) - 1)) }) (I1.ok.hd hc) ⟨_,Heap.get?_push_size _ rfl,rfl,rfl⟩ (hl.push _) hne hn fun h' tk acc hk hi=>?_
  have I3:Inv X pins σ H1 { s1 with heap:=h',toks:=tk }:=I2.turned (t':=tk) (fun b o hb e=>hk b o hb e) f0 f1 f3 f4 f5
  have fin:=newD (its:=acc.toList) (xs:=xs.reverse) tk I3 (by rw [List.length_reverse]; exact hz) (vals_rev rv hi) q
  rw [Array.toArray_toList] at fin
  exact fin
 ·obtain ⟨its,rv,p',hz⟩:=I1.tuple hq
  have hl:=rv.length
  have h63:=line63
  have hn:its.toArray.size≤sizeLine:=by rw [List.size_toArray,← rv.length]; exact hz
  have len:∀ (s:Shared) (A:Around) (E:Value→Shared→Prop) (Q:Value→Shared→Prop),IsTup s.heap a its.toArray→Q (.int its.toArray.size (s.toks+1)) { s with toks:=s.toks+1+1 }→wpAny (model X.prog X.w) A (call (.builtin "len") [.ref a]) Q E s :=
   fun s A E Q p k=>len_tuple p (by simp only [List.size_toArray] <;> omega) k
  refine call_reversed_tup p' (fun A E Q k=>len s1 A E Q p' k) (args_nil ?_)
  have k0:∀ b o,s1.heap.get? b=some o→(s1.heap.push (rtObj a ((its.toArray.size:Int) - 1))).get? b=some o:=fun b o e=>Heap.get?_push_of_some _ e
  have I2:Inv X pins σ H1 { s1 with heap:=s1.heap.push (rtObj a ((its.toArray.size:Int) - 1)),toks:=s1.toks+1+1 }:=I1.kept (t':=s1.toks+1+1) k0
  obtain ⟨f0,f1,f2,f3,f4,f5⟩:=I1.fpOk (H':=H1) (b:=s1.heap.objs.size) (Nat.le_refl _) (I1.hok.fresh (Nat.le_refl _))
  obtain ⟨ol,hol,_⟩:=id p'
  have hne:a ≠ s1.heap.objs.size:=Nat.ne_of_lt (Heap.lt_size hol)
  refine call_tuple_rt (s:={ s1 with heap:=s1.heap.push (rtObj a ((its.toArray.size:Int) - 1)),toks:=s1.toks+1+1 }) (I1.ok.hd hc) ⟨_,Heap.get?_push_size _ rfl,rfl,rfl⟩ (p'.push _) hne hn len fun h' tk acc hk hi=>?_
  have I3:Inv X pins σ H1 { s1 with heap:=h',toks:=tk }:=I2.turned (t':=tk) (fun b o hb e=>hk b o hb e) f0 f1 f3 f4 f5
  have fin:=newD (its:=acc.toList) (xs:=xs.reverse) tk I3 (by rw [List.length_reverse]; exact hz) (vals_rev rv hi) q
  rw [Array.toArray_toList] at fin
  exact fin
end
end RT
end
section
set_option Elab.async false
set_option linter.all false
set_option maxRecDepth 100000
set_option maxHeartbeats 1000000
namespace Vl
open PySem L2 Vm PyProof.Rows
section
variable {C:Cn} {cm:Bool} {k:Nat} {N:List Str} {sc:Scope} {a:Expr} {A:EX} {pos p p2 pos2:Pos}
theorem de_tupRev (hcm:cm=true) (ha:DE C cm k N sc a A) (mx:C.mg "tuple" = none) (mx2:C.mg "reversed" = none) (hg:sc.names.lookup ("tuple":Str)=some .globalImplicit:=by rfl) (hg2:sc.names.lookup ("reversed":Str)=some .globalImplicit:=by rfl)
  (hst:∀ env:PySem.Env,starEach [a] env=(false,eval a env) :: starEach [] env:=by intro _; rfl) :
  DE C cm k N sc (.Call (.Name "tuple" p) [.Call (.Name "reversed" p2) [a] [] pos2] [] pos) (eTupRev A):=by
 obtain ⟨ta,pa,qa⟩:=ha
 refine ⟨fun W=>RT.tTupRevA C.K (ta W),fun X S W T=>by rw [← S.K]; exact RT.pe_tupRevA (S.c hcm) (S.gl hg) (by rw [S.mg]; exact mx) (S.gl hg2) (by rw [S.mg]; exact mx2) (pa X S W T) (hst _) rfl,fun W σ Γ F0 H0 F H Q g h=>?_⟩
 refine qa W σ Γ F0 H0 F H _ g (EOk.bind h fun x v F1 H1 ex e1 r1 h1=>?_)
 have h2:=h1.next e1
 obtain ⟨t,q⟩:=x
 have hf:=e1.fh
 have ht:=e1.tp
 cases q with
 | lst l =>
  have h:EOk C W σ F1 H1 Q (if flat1 t then .ok (.fz,.tup l.reverse) else .bad):=h2
  by_cases f1:flat1 t=true
  ·rw [if_pos f1] at h
   obtain ⟨ad,vs,rfl,s2,r3⟩:=rv_flat hf r1 f1
   refine ⟨ad,vs,rfl,.inl s2,fun p o hp hd=>?_⟩
   refine h _ (upd F1 p (tq (o,vs.reverse))) _ (Ext.tup hf ht hp) (.fz ?_)
   unfold Rep
   exact ⟨p,_,rfl,.new hd,(RepL.reverse r3).mono (same_new (hf.free hp)) _ _⟩
  ·rw [if_neg f1] at h; exact h.elim
 | tup l =>
  have h:EOk C W σ F1 H1 Q (.ok (.fz,.tup l.reverse)):=h2
  obtain ⟨ad,vs,rfl,s2,r3⟩:=rv_tup r1
  refine ⟨ad,vs,rfl,.inr ((TupAt.sq (TupAt.mono hf s2))),fun p o hp hd=>?_⟩
  refine h _ (upd F1 p (tq (o,vs.reverse))) _ (Ext.tup hf ht hp) (.fz ?_)
  unfold Rep
  exact ⟨p,_,rfl,.new hd,(RepL.reverse r3).mono (same_new (hf.free hp)) _ _⟩
 | _=>exact h2.elim
end
end Vl
end
section
set_option linter.all false
set_option maxHeartbeats 1000000
namespace Vm
def putU(x:Int):List Int→List Int
 | []=>[x]
 | y :: ys=>if x < y then x :: y :: ys else if y < x then y :: putU x ys else y :: ys
def sortU(l:List Int):List Int:=l.foldr putU []
def sortSetV:TV→Res TV
 | (t,.lst l)=>if flat1 t then (intsOf l).bind fun ns=>if ns.length < 64 then .ok (.ow 1,.lst ((sortU ns).map PV.int)) else .bad else .bad
 | (_,.tup l)=>(intsOf l).bind fun ns=>if ns.length < 64 then .ok (.ow 1,.lst ((sortU ns).map PV.int)) else .bad
 | _=>.bad
@[simp] def eSortSet (a:EX):EX:=fun Γ=>(a Γ).bind sortSetV
end Vm
end
section
set_option Elab.async false
set_option linter.all false
set_option maxRecDepth 100000
set_option maxHeartbeats 4000000
namespace L2
open PySem PySem.Spec PyProof.Rows
section
variable {P:Program} {w:World} {A:Around} {E:Value→Shared→Prop} {s:Shared}
end
section
variable {X:Cx}
end
end L2
end
section
set_option Elab.async false
set_option linter.all false
set_option maxRecDepth 100000
set_option maxHeartbeats 1000000
namespace Vl
open PySem L2 Vm PyProof.Rows
section
variable {C:Cn} {cm:Bool} {k:Nat} {N:List Str} {sc:Scope} {a:Expr} {A:EX} {pos p p2 pos2:Pos}
end
end Vl
end
section
set_option linter.all false
set_option maxHeartbeats 1000000
namespace Vm
@[simp] def eIndexQ (a b:EX):EX:=fun Γ=>(a Γ).bind fun x=>match listOf x.2 with
 | some l=>(b Γ).bind fun y=>match shp 50 y.2 && shpL 50 l with
  | true=>match firstIx (fun z=>eqv z y.2) l with
   | some k=>.ok (.fz,.int k)
   | none=>.bad
  | false=>.bad
 | none=>.bad
def lrOk(n:Int):Bool:=rngOk n && Nat.ble n.toNat 16777216
@[simp] def eListR (a:EX):EX:=fun Γ=>(a Γ).bind fun x=>match x.2 with
 | .int n=>if lrOk n then .ok (.ow 1,.lst (rngL 0 n)) else .bad
 | _=>.bad
end Vm
end
section
set_option Elab.async false
set_option linter.all false
set_option maxRecDepth 100000
set_option maxHeartbeats 1000000
namespace L2
open PySem PySem.Spec PyProof.Rows
section
variable {X:Cx}
end
end L2
namespace Vl
open PySem L2 Vm PyProof.Rows
section
variable {C:Cn} {cm:Bool} {k:Nat} {N:List Str} {sc so:Scope} {e o:Expr} {A B:EX} {apos cpos:Pos} {X:Cx}
end
end Vl
end
section
set_option Elab.async false
set_option linter.all false
set_option maxRecDepth 100000
set_option maxHeartbeats 1000000
namespace Vl
open PySem L2 Vm PyProof.Rows
section
variable {C:Cn} {cm:Bool} {k:Nat} {N:List Str} {sc so:Scope} {a:Expr} {A:EX} {p p2 pos pos2:Pos} {X:Cx}
end
end Vl
end
section
set_option linter.all false
set_option maxHeartbeats 1000000
namespace Vm
abbrev FX:=List PV→Res (PV×List PV)
def isHs:List PV→Bool
 | .exo 0 _ :: _=>true
 | _=>false
def takeH(m:Bool)(Γ:En)(js:List (Nat×Tg)):Option (List PV):=match takeA Γ js with
 | some ps=>if m && !isHs ps then none else some ps
 | none=>none
def callX(m:Bool)(f:FX)(js:List (Nat×Tg))(as:EXs)(Γ:En)(k:PV→En→Out):Out:=match takeH m Γ js with
 | none=>.bad
 | some ps=>match as Γ with
  | .exc c=>.exc c Γ
  | .bad=>.bad
  | .ok xs=>match putVs xs with
   | .ok qs=>(match f (ps++qs) with
    | .ok (p,news)=>k p (putA Γ js news)
    | .exc c=>.exc c Γ
    | .bad=>.bad)
   | _=>.bad
inductive RM where
 | ok (b:Bool) (Γ:En) | exc (c:Nat) (Γ:En) | bad
abbrev TM:=En→RM
end Vm
end
section
set_option Elab.async false
set_option linter.all false
set_option maxRecDepth 100000
set_option maxHeartbeats 1000000
namespace Vl
open PySem L2 Vm PyProof.Rows
def spX(C:Cn)(ts:List Tg)(f:FX):Sp:=fun vs H Q E=>∃ F H0 ps,ps.length=ts.length∧vs.length=ts.length∧GoodS C.K F H0 (startM ts ps) (vs.map some) F H∧match f ps with
 | .ok (p,news)=>∀ v F' H',news.length=ts.length→GoodS C.K F H0 (startM ts news) (vs.map some) F' H'→Rep C.K F' p v→Q v H'
 | .exc c=>∀ F' H',GoodS C.K F H0 (startM ts ps) (vs.map some) F' H'→E (C.xc c) none H'
 | .bad=>False
structure CalX (C:Cn) (x:Str) (k:Nat) (ts:List Tg) (f:FX):Prop where
 ex:∃ ad fd ps,ps.length=ts.length∧FnOk C.P C.w C.K C.mg C.base (L2.CX C.P C.w) k ad fd ps (spX C ts f)∧PySem.W.keepIn C.K (.ref ad)=true∧Binds C.K fd ps []∧C.mg x=some (.ref ad)
section
variable {C:Cn} {F0 H0 F H F1 H1:Hp} {Γ:En} {σ:L2.St}
end
end Vl
end
section
set_option Elab.async false
set_option linter.all false
set_option maxRecDepth 100000
set_option maxHeartbeats 1000000
namespace Vl
open PySem L2 Vm PyProof.Rows
def Kp(keep:List Nat)(σ σ0:L2.St):Prop:=∀ i∈keep,σ[i]? = σ0[i]?
def OutX(C:Cn)(W:WX)(F0 H0:Hp)(D:Ends)(keep:List Nat)(σ0:L2.St):Out→Prop
 | .nx Γ=>∀ σ F H,GoodS C.K F0 H0 Γ σ F H→Kp keep σ σ0→D.nx σ H
 | .bk Γ=>∀ σ F H,GoodS C.K F0 H0 Γ σ F H→Kp keep σ σ0→D.bk σ H
 | .ct Γ=>∀ σ F H,GoodS C.K F0 H0 Γ σ F H→Kp keep σ σ0→D.ct σ H
 | .rt .fz p Γ=>∀ v σ F H,GoodS C.K F0 H0 Γ σ F H→Kp keep σ σ0→Rep C.K F p v→D.rt v H
 | .exc c Γ=>∀ σ F H,GoodS C.K F0 H0 Γ σ F H→Kp keep σ σ0→W (C.xc c) none σ H
 | _=>False
section
variable {C:Cn} {F0 H0 F H F1 H1:Hp} {Γ:En} {σ σ1:L2.St} {W:WX} {D:Ends} {keep:List Nat}
theorem Kp.refl:Kp keep σ σ:=fun _ _=>rfl
theorem Kp.trans{σ2:L2.St}(a:Kp keep σ2 σ1)(b:Kp keep σ1 σ):Kp keep σ2 σ:=fun i hi=>(a i hi).trans (b i hi)
theorem Kp.set{i:Nat}{v:Option V}(h:i ∉ keep):Kp keep (σ.set i v) σ:=fun j hj=>List.getElem?_set_ne (by intro z; subst z; exact h hj)
theorem OutX.bind{f:TV→Out}{Q1:VK}{r:Res TV}(g:GoodS C.K F0 H0 Γ σ F H)(h:OutX C W F0 H0 D keep σ (aft r Γ f))
  (q:∀ x v F1 H1,r = .ok x→Ext F H F1 H1→RV C.K F1 H1 H x v→OutX C W F0 H0 D keep σ (f x)→Q1 v H1):EOk C W σ F H Q1 r:=by
 cases r with
 | ok x=>exact fun v F' H' e rv=>q x v F' H' rfl e rv h
 | exc c=>exact fun F' H' e=>h σ F' H' (g.next e) Kp.refl
 | bad=>exact h
theorem OutX.bindT{f:Bool→Out}{Q1:Bool→Hp→Prop}{r:Res Bool}(g:GoodS C.K F0 H0 Γ σ F H)(h:OutX C W F0 H0 D keep σ (aft r Γ f))
  (q:∀ x F1 H1,r = .ok x→Ext F H F1 H1→OutX C W F0 H0 D keep σ (f x)→Q1 x H1):TOk C W σ F H Q1 r:=by
 cases r with
 | ok x=>exact fun F' H' e=>q x F' H' rfl e h
 | exc c=>exact fun F' H' e=>h σ F' H' (g.next e) Kp.refl
 | bad=>exact h
end
section
variable {C:Cn} {cm:Bool} {k:Nat} {N:List Str} {sc so:Scope} {a b c e o tg:Expr} {es:List Expr} {A B:EX} {As:EXs} {T U:TX} {pos p tpos apos cpos p1:Pos} {X:Cx} {x:Str} {st:Stmt} {sts:List Stmt} {d d':ST} {keep:List Nat}
variable {F0 H0 F H F1 H1:Hp} {Γ:En} {σ:L2.St} {W:WX} {D:Ends}
end
section
variable {C:Cn} {k:Nat} {N:List Str} {sc:Scope} {st:Stmt}
end
end Vl
end
section
set_option Elab.async false
set_option linter.all false
set_option maxRecDepth 100000
set_option maxHeartbeats 1000000
namespace Vl
open PySem L2 Vm PyProof.Rows
section
variable (C:Cn) (cm:Bool) (k:Nat) (N:List Str) (sc:Scope)
end
def CXok(C:Cn)(W:WX)(σ:L2.St)(F0 H0:Hp)(Γ:En)(m:Bool)(f:FX)(js:List (Nat×Tg))(as:EXs)(Q:PV→En→V→Hp→Prop):Prop:=match takeH m Γ js with
 | none=>False
 | some ps=>match as Γ with
  | .exc c=>∀ F' H',GoodS C.K F0 H0 Γ σ F' H'→W (C.xc c) none σ H'
  | .bad=>False
  | .ok xs=>match putVs xs with
   | .ok qs=>(match f (ps++qs) with
    | .ok (p,news)=>∀ v F' H',GoodS C.K F0 H0 (putA Γ js news) σ F' H'→Rep C.K F' p v→Q p (putA Γ js news) v H'
    | .exc c=>∀ F' H',GoodS C.K F0 H0 Γ σ F' H'→W (C.xc c) none σ H'
    | .bad=>False)
   | _=>False
section
variable {C:Cn} {cm:Bool} {k:Nat} {N:List Str} {sc so:Scope} {a b c e o tg:Expr} {es:List Expr} {A B:EX} {As:EXs} {T U:TX} {pos p tpos apos cpos p1:Pos} {X:Cx} {x:Str} {st:Stmt} {sts:List Stmt} {d d':ST} {keep:List Nat}
variable {F0 H0 F H F1 H1:Hp} {Γ:En} {σ:L2.St} {W:WX} {D:Ends} {js:List (Nat×Tg)} {f:FX} {ts:List Tg} {n j:Nat} {m:Bool}
theorem CXok.of{K1:PV→En→Out}{Q1:PV→En→V→Hp→Prop}(h:OutOk C W F0 H0 D (callX m f js As Γ K1))(q:∀ p Γ' v F' H',GoodS C.K F0 H0 Γ' σ F' H'→Rep C.K F' p v→OutOk C W F0 H0 D (K1 p Γ')→Q1 p Γ' v H'):CXok C W σ F0 H0 Γ m f js As Q1:=by
 unfold callX at h
 unfold CXok
 cases e1:takeH m Γ js with
 | none=>rw [e1] at h; exact h
 | some ps =>
  rw [e1] at h
  simp only at h ⊢
  cases e2:As Γ with
  | exc c=>rw [e2] at h; exact fun F' H' g=>h σ F' H' g
  | bad=>rw [e2] at h; exact h
  | ok xs =>
   rw [e2] at h
   simp only at h ⊢
   cases e3:putVs xs with
   | exc c=>rw [e3] at h; exact h
   | bad=>rw [e3] at h; exact h
   | ok qs =>
    rw [e3] at h
    simp only at h ⊢
    cases e4:f (ps++qs) with
    | exc c=>rw [e4] at h; exact fun F' H' g=>h σ F' H' g
    | bad=>rw [e4] at h; exact h
    | ok y=>rw [e4] at h; exact fun v F' H' g r=>q _ _ v F' H' g r h
theorem CXok.imp{Q1 Q2:PV→En→V→Hp→Prop}(h:CXok C W σ F0 H0 Γ m f js As Q1)(q:∀ p Γ' v H',Q1 p Γ' v H'→Q2 p Γ' v H'):CXok C W σ F0 H0 Γ m f js As Q2:=by
 unfold CXok at h ⊢
 cases e1:takeH m Γ js with
 | none=>rw [e1] at h; exact h
 | some ps =>
  rw [e1] at h
  simp only at h ⊢
  cases e2:As Γ with
  | exc c=>rw [e2] at h; exact h
  | bad=>rw [e2] at h; exact h
  | ok xs =>
   rw [e2] at h
   simp only at h ⊢
   cases e3:putVs xs with
   | exc c=>rw [e3] at h; exact h
   | bad=>rw [e3] at h; exact h
   | ok qs =>
    rw [e3] at h
    simp only at h ⊢
    cases e4:f (ps++qs) with
    | exc c=>rw [e4] at h; exact h
    | bad=>rw [e4] at h; exact h
    | ok y=>rw [e4] at h; exact fun v F' H' g r=>q _ _ v H' (h v F' H' g r)
def MOk(C:Cn)(W:WX)(σ:L2.St)(F0 H0:Hp)(Q:Bool→Hp→Prop):RM→Prop
 | .ok b Γ=>∀ F H,GoodS C.K F0 H0 Γ σ F H→Q b H
 | .exc c Γ=>∀ F H,GoodS C.K F0 H0 Γ σ F H→W (C.xc c) none σ H
 | .bad=>False
variable (C k N sc) in
def DTM (e:Expr) (t:TM):Prop:=∃ tb:WX→TT,(∀ X,Sta C true k N sc X→∀ W,Takes X W→PT X e (tb W)) ∧
 ∀ W σ Γ F0 H0 F H Q,GoodS C.K F0 H0 Γ σ F H→MOk C W σ F0 H0 Q (t Γ)→tb W σ H Q
variable (C k N sc) in
def DWM (e:Expr) (t:TM):Prop:=∃ tb:WX→TT,(∀ X,Sta C true k N sc X→∀ W,Takes X W→PW X e (tb W)) ∧
 ∀ W σ Γ F0 H0 F H Q,GoodS C.K F0 H0 Γ σ F H→MOk C W σ F0 H0 Q (t Γ)→tb W σ H Q
variable {t u:TM}
end
end Vl
end
section
set_option linter.all false
set_option maxHeartbeats 1000000
namespace Vm
@[simp] def dnP (t:Tg) (p:PV):Tg:=if boxed p then dn t else .fz
@[simp] def fldV (j:Nat) (x:TV):Res TV:=match x with
 | (t,.exo 0 l)=>match l[j]? with
  | some p=>.ok (dnP t p,p)
  | none=>.bad
 | _=>.bad
@[simp] def eFld (j:Nat) (a:EX):EX:=fun Γ=>(a Γ).bind fun x=>fldV j x
end Vm
end
section
set_option Elab.async false
set_option linter.all false
set_option maxRecDepth 100000
set_option maxHeartbeats 1000000
namespace Vl
open PySem L2 Vm PyProof.Rows
structure HsC (C:Cn):Prop where
 ex:∃ Ch:Addr,C.mg "House" = some (.ref Ch)∧Cls C.K Ch∧∀ f∈fldN,NoAttr C.K Ch f
section
variable {C:Cn} {cm:Bool} {k:Nat} {N:List Str} {sc so:Scope} {a b c e o tg:Expr} {es:List Expr} {A B:EX} {As:EXs} {T U:TX} {pos p tpos apos cpos p1 p2 pos':Pos} {X:Cx} {x fname m:Str} {st:Stmt} {sts:List Stmt} {d d':ST} {keep:List Nat}
variable {F0 H0 F H F1 H1:Hp} {Γ:En} {σ:L2.St} {W:WX} {D:Ends} {js:List (Nat×Tg)} {ts:List Tg} {n j:Nat}
end
end Vl
end
section
set_option Elab.async false
set_option linter.all false
set_option maxRecDepth 100000
set_option maxHeartbeats 1000000
namespace Vl
open PySem L2 Vm PyProof.Rows
section
variable {K:KK} {F H F' H':Hp}
end
section
variable {C:Cn} {cm:Bool} {k:Nat} {N:List Str} {sc so:Scope} {a b c e o tg:Expr} {es:List Expr} {A B:EX} {As:EXs} {T U:TX} {pos p tpos apos cpos p1 p2 pos':Pos} {X:Cx} {x fname m:Str} {st:Stmt} {sts:List Stmt} {d d':ST} {keep:List Nat}
variable {F0 H0 F H F1 H1:Hp} {Γ:En} {σ:L2.St} {W:WX} {D:Ends} {js:List (Nat×Tg)} {ts:List Tg} {n j:Nat}
end
end Vl
end
section
set_option Elab.async false
set_option linter.all false
set_option maxRecDepth 100000
set_option maxHeartbeats 1000000
namespace Vl
open PySem L2 Vm PyProof.Rows
section
variable {κ:Type} [DecidableEq κ] {f:κ→NestedKey}
end
section
variable {C:Cn} {cm:Bool} {k:Nat} {N:List Str} {sc so:Scope} {a b c e o tg:Expr} {es:List Expr} {A B:EX} {As:EXs} {T U:TX} {pos p tpos apos apos2 cpos p1 p2 pos':Pos} {X:Cx} {x fname m:Str} {st:Stmt} {sts:List Stmt} {d d':ST} {keep:List Nat}
variable {F0 H0 F H F1 H1:Hp} {Γ:En} {σ:L2.St} {W:WX} {D:Ends} {js:List (Nat×Tg)} {ts:List Tg} {n j:Nat}
structure CalI (C:Cn) (k:Nat) (f:FX):Prop where
 ex:∃ ad fd ps Ch,FnOk C.P C.w C.K C.mg C.base (L2.CX C.P C.w) k ad fd ps (spX C [.ow 2] f)∧Binds C.K fd ps []∧C.mg "House" = some (.ref Ch)∧Mk C.K Ch ad
structure CalF (C:Cn) (m:Str) (n k:Nat) (f:FN):Prop where
 ex:∃ ad fd ps Ch,ps.length=n∧FnOk C.P C.w C.K C.mg C.base (L2.CX C.P C.w) k ad fd ps (spOf C n f)∧Binds C.K fd ps []∧C.mg "House" = some (.ref Ch)∧Cls C.K Ch∧Meth C.K Ch m ad
structure CalH (C:Cn) (m:Str) (k:Nat) (ts:List Tg) (f:FX) (nd:Nat):Prop where
 ex:∃ ad fd ps Ch,ps.length=ts.length∧FnOk C.P C.w C.K C.mg C.base (L2.CX C.P C.w) k ad fd ps (spX C ts f)∧Binds C.K fd ps (List.replicate nd .none)∧C.mg "House" = some (.ref Ch)∧Cls C.K Ch∧Meth C.K Ch m ad
end
end Vl
end
section
set_option linter.all false
set_option maxHeartbeats 1000000
namespace Vm
@[simp] def tupKV (x:TV):Res TV:=match x.2 with
 | .dic ks _=>if ks.all (keyN 8) && decide (ks.length≤16777216) then .ok (.fz,.tup ks) else .bad
 | _=>.bad
@[simp] def eTupleK (a:EX):EX:=fun Γ=>(a Γ).bind tupKV
@[simp] def eFn (l:List Nat):EX:=fun _=>.ok (.fz,.exo 1 [.str l])
def fnOf{α:Type}(x:PV)(tb:List (List Nat×α)):Option α:=match x with
 | .exo 1 [.str s]=>(tb.find? fun q=>decide (q.1=s)).map (·.2)
 | _=>none
def catchN:List (List (Nat×Bool)×ST)→Nat→En→Out
 | [],c,Γ=>.exc c Γ
 | (cs,h) :: r,c,Γ=>match takesC cs c with
  | some true=>(match h Γ with
   | .exc _ _=>.bad
   | o=>o)
  | some false=>catchN r c Γ
  | none=>.bad
end Vm
end
section
set_option Elab.async false
set_option linter.all false
set_option maxRecDepth 100000
set_option maxHeartbeats 1000000
namespace PySem
open PySem.F PySem.W
section
variable {prog:Program} {w:World} {A:Around} {E:Value→Shared→Prop} {s:Shared}
end
end PySem
namespace Vl
open PySem L2 Vm PyProof.Rows
section
variable {C:Cn} {cm:Bool} {k:Nat} {N:List Str} {sc so:Scope} {a b c e o tg fe:Expr} {es:List Expr} {A B E:EX} {As:EXs} {T U:TX} {pos p tpos apos apos2 cpos p1 p2 pos' np:Pos} {X:Cx} {x fname m:Str} {st b₀:Stmt} {sts body suite:List Stmt} {d d':ST} {keep:List Nat}
variable {F0 H0 F H F1 H1:Hp} {Γ:En} {σ:L2.St} {W:WX} {D:Ends} {js:List (Nat×Tg)} {ts:List Tg} {n j:Nat}
variable (keep C k N sc) in
def DHX (hds:List ExceptHandler) (l:List (List (Nat×Bool)×ST)):Prop:=∃ l':List (Value×(Addr→Value→Option Addr→TS)),(∀ X,StaS C true k N sc X→HdsOk X hds l') ∧
 ∀ W D σ c Γ F0 H0 F H,GoodS C.K F0 H0 Γ σ F H→OutX C W F0 H0 D keep σ (catchN l c Γ)→wMany C.K W D l' (C.xc c) none σ H
end
end Vl
end
section
set_option Elab.async false
set_option linter.all false
set_option maxRecDepth 100000
set_option maxHeartbeats 1000000
namespace Vl
open PySem L2 Vm PyProof.Rows
section
variable {C:Cn} {k:Nat} {N:List Str} {sc:Scope} {st:Stmt}
end
section
variable {C:Cn} {k:Nat} {N:List Str} {sc:Scope} {a b:Expr} {B:EX} {As:EXs} {p1 pos:Pos} {x:Str} {js:List (Nat×Tg)} {f:FX} {m:Bool}
end
end Vl
end
section
set_option Elab.async false
set_option linter.all false
set_option maxRecDepth 100000
set_option maxHeartbeats 1000000
namespace Vl
open PySem L2 Vm PyProof.Rows
section
variable {C:Cn} {cm:Bool} {k:Nat} {N:List Str} {sc:Scope} {x:Str} {j j' n:Nat} {ts:List Tg} {keep:List Nat} {sts:List Stmt}
end
end Vl
end
section
namespace Vm
@[simp] def eListRev (a:EX):EX:=fun Γ=>(a Γ).bind fun x=>match x.2 with
 | .lst l=>if flat1 x.1 then .ok (.ow 1,.lst l.reverse) else .bad
 | _=>.bad
def onceL{α:Type}[DecidableEq α](l:List α):List α:=l.foldl (fun a x=>if x∈a then a else a++[x]) []
@[simp] def eLenSet (a:EX):EX:=fun Γ=>(a Γ).bind fun x=>match x.2 with
 | .lst l=>if flat1 x.1 then (match strsOf l with
  | some ws=>if ws.length < 1000 then .ok (.fz,.int (onceL ws).length) else .bad
  | none=>.bad) else .bad
 | _=>.bad
end Vm
end
section
set_option Elab.async false
set_option linter.all false
set_option maxRecDepth 100000
set_option maxHeartbeats 1000000
namespace RT
open PySem PySem.Spec PyProof.Rows
section
variable {prog:Program} {w:World} {A:Around} {E:Value→Shared→Prop} {s:Shared}
end
end RT
namespace L2
open PySem PySem.Spec PyProof.Rows RT
section
variable {X:Cx}
end
end L2
namespace Vl
open PySem L2 Vm PyProof.Rows
section
variable {C:Cn} {cm:Bool} {k:Nat} {N:List Str} {sc:Scope} {a:Expr} {A:EX} {pos p p2 pos2:Pos}
end
end Vl
end
section
set_option Elab.async false
set_option linter.all false
set_option maxRecDepth 100000
set_option maxHeartbeats 4000000
namespace L2
open PySem PySem.Spec PyProof.Rows
section
variable {P:Program} {w:World} {A:Around} {E:Value→Shared→Prop} {s:Shared}
end
section
variable {X:Cx}
end
end L2
end
section
set_option Elab.async false
set_option linter.all false
set_option maxRecDepth 100000
set_option maxHeartbeats 1000000
namespace Vl
open PySem L2 Vm PyProof.Rows
def toS(l:List Nat):Str:=⟨l.toArray⟩
section
variable {C:Cn} {cm:Bool} {k:Nat} {N:List Str} {sc:Scope} {a:Expr} {A:EX} {pos p p2 pos2:Pos}
end
end Vl
end
section
set_option linter.all false
namespace Vm
@[simp] def eLCX (own:List Nat) (it:IX) (pat:Pat) (c:TX) (e:EX):EX:=fun Γ=>(it Γ).bind fun xs =>
 if xs.2.length≤16777216 then (lcGo (wipeE Γ own) pat c e xs.2).bind fun ps=>if ps.length≤16777216 then .ok (.ow 1,.lst ps) else .bad else .bad
end Vm
end
section
set_option Elab.async false
set_option linter.all false
set_option maxRecDepth 100000
set_option maxHeartbeats 1000000
namespace Vl
open PySem L2 Vm PyProof.Rows
section
variable {M:Model} {A:Around} {E:Value→Shared→Prop} {s:Shared} {Z:Obj→Prop} {base:Heap} {env:PySem.Env} {outer l:List PySem.Env} {L C e:Addr}
open HandSPX
end
section
variable {X:Cx}
end
end Vl
end
section
set_option Elab.async false
set_option linter.all false
set_option maxRecDepth 100000
set_option maxHeartbeats 1000000
namespace Vl
open PySem L2 Vm PyProof.Rows
section
variable {C:Cn} {cm:Bool} {k:Nat} {N:List Str} {sc so:Scope} {a b c e tg:Expr} {es:List Expr} {A B:EX} {As:EXs} {T U:TX} {pos p:Pos} {X:Cx} {x:Str}
variable {elt iter:Expr} {ifs:List Expr} {scope:Scope} {own:List (Str×Nat)} {I:IX} {pat:Pat}
variable (C cm k N sc) in
def DEx (e:Expr) (E:EX):Prop:=∃ tb:WX→TE,(∀ X,StaS C cm k N sc X→∀ W,Takes X W→PE X e (tb W)) ∧
 ∀ W σ Γ F0 H0 F H Q,Good C.K F0 H0 Γ σ F H→EOk C W σ F H Q (E Γ)→tb W σ H Q
variable (C cm k N sc) in
def DAx (es:List Expr) (E:EXs):Prop:=∃ tb:WX→TA,(∀ X,StaS C cm k N sc X→∀ W,Takes X W→PA X es (tb W)) ∧
 ∀ W σ Γ F0 H0 F H Q,Good C.K F0 H0 Γ σ F H→AOk C W σ F H Q (E Γ)→tb W σ H Q
end
section
variable {C:Cn} {cm:Bool} {k:Nat} {N:List Str} {sc so:Scope} {a b c e tg:Expr} {es:List Expr} {A B:EX} {As:EXs} {T U:TX} {pos p:Pos} {X:Cx} {x:Str}
end
section
variable {C:Cn} {k:Nat} {N:List Str} {sc:Scope} {tg elt iter:Expr} {ifs:List Expr} {scope:Scope} {own:List (Str×Nat)} {I:IX} {pat:Pat} {A:EX} {T:TX} {pos p:Pos}
end
end Vl
end
section
set_option linter.all false
set_option maxRecDepth 10000
namespace Vm
def sortTV(x:TV):Res TV:=match x with
 | (.fz,.tup l)=>if srtOk l && l.all (keyN 8) && decide (l.length≤16777216) then .ok (.ow 1,.lst (sortP l)) else .bad
 | _=>.bad
def eSortedT(a:EX):EX:=fun Γ=>(a Γ).bind sortTV
end Vm
end
section
set_option Elab.async false
set_option linter.all false
set_option maxRecDepth 100000
set_option maxHeartbeats 1000000
namespace Vl
open PySem L2 Vm PyProof.Rows
section
variable {C:Cn} {F0 H0 F H F1 H1:Hp} {Γ:En} {σ:L2.St}
end
section
variable {C:Cn} {k:Nat} {N:List Str} {sc:Scope} {b1 b2 e tg:Expr} {A B1 B2:EX} {pos p1 p2 p3 p4 apos cpos pos':Pos} {X:Cx} {x:Str} {pat:Pat}
end
section
variable {C:Cn} {cm:Bool} {k:Nat} {N:List Str} {sc:Scope} {b e:Expr} {A B:EX} {pos p1 p2 pos':Pos} {x:Str}
end
end Vl
end
section
set_option Elab.async false
set_option linter.all false
set_option maxRecDepth 100000
set_option maxHeartbeats 1000000
namespace Vl
open PySem L2 Vm PyProof.Rows
def rSortT(K:KK):List V→Hp→VK→Prop:=fun vs H Q=>∃ (a:Addr) (us:List V) (l:List PV),vs=[.ref a]∧SqT K H a us∧RepL K H l us∧srtOk l=true∧l.all (keyN 8)=true ∧
 ∀ (ws:List V) (p:Addr),(∀ (F:Hp),RepL K F l us→RepL K F (sortP l) ws)→H p=none→Q (.ref p) (upd H p (.lst ws))
theorem cr_sortT{X:Cx}(hu:X.A.units+100 < cLine):CallR X (.builtin "sorted") (rSortT (kkX X)):=by
 intro pins s σ H vs us Q I r h
 obtain ⟨a,ws,l,rfl,hs,rl,hok,hkn,q⟩:=h
 rw [Vals.ref1 r]
 have hlen:=rl.len
 obtain ⟨its,rv,⟨o,ho,hcl,n,hdt⟩,hz0⟩:=I.tuple hs
 unfold srtOk at hok
 rw [Bool.and_eq_true] at hok
 obtain ⟨h1,h2,h3⟩:=ordOk_spec hok.1
 obtain ⟨d1,d2,d3⟩:=rep_dpL 50 l ws h1 rl
 refine PySem.Calls.call_function_entry kind_sorted plain_sorted entry_sorted (args_sorted1 _) ?_
 unfold Builtin.«sorted»
 refine wpAny_bind (m:=checkCount "sorted" 1 1 _) (wpAny_pure ?_)
 have hlt:ws.length=its.length:=Paired.length rv
 refine wpAny_bind (wpAny_collect_seq (A:=X.A.in1) a (T:="tuple") (.inr rfl) ho hcl hdt (fun h' hk=>?_) (by rw [List.size_toArray]; omega))
 have hz:l.length≤sizeLine:=by omega
 have hl:its.length=l.length:=by omega
 show wpAny _ _ _ _ _ { s with heap:=h' }
 rw [show its.toArray.toList=its from rfl]
 refine wpAny_bind (wpAny_newList ?_ (by omega))
 have I1:Inv X pins σ H { s with heap:=h',toks:=s.toks }:=I.kept (t':=s.toks) hk
 have ra:ReadsAll s.heap its (datL l) []:=keys_reads I.hok 8 l ws _ (keyNL_of hkn) rl rv
 have ra':ReadsAll (h'.push { cls:=.type "list",data:=.seq its.toArray }) its (datL l) []:=ReadsAll.keeps (fun b o e=>Heap.get?_push_of_some _ (hk b o e)) ra
 have rv':Vals ws its:=rv
 have em:(ws.zip l).map (fun b=>dat b.2)=datL l:=by
  rw [datL_map]
  have:(ws.zip l).map (fun b=>b.2)=l:=by rw [List.map_snd_zip (by omega)]
  calc (ws.zip l).map (fun b=>dat b.2)=((ws.zip l).map (fun b=>b.2)).map dat:=by rw [List.map_map]; rfl
   _=l.map dat:=by rw [this]
 have al:PySem.W.AllAlike ((ws.zip l).map fun b=>dat b.2):=by
  rw [em]
  obtain ⟨a1,_⟩:=alikeAll_of hok.1
  exact fun d hd d' hd'=>a1 d hd d' hd'
 have sb:PySem.W.Sortable ((ws.zip l).map fun b=>dat b.2):=by
  rw [em,datL_map]
  have h4:=hok.2
  rw [Bool.or_eq_true,List.all_eq_true,List.all_eq_true] at h4
  rcases h4 with h4 | h4
  ·refine .inl fun d hd=>?_
   obtain ⟨p,hp,rfl⟩:=List.mem_map.mp hd
   have:=h4 p hp
   cases p with
   | tup m=>cases m with
    | nil=>cases this
    | cons x r=>exact ⟨dat x,datL r,rfl⟩
   | _=>cases this
  ·refine .inr fun d hd=>?_
   obtain ⟨p,hp,rfl⟩:=List.mem_map.mp hd
   refine ⟨dat_non (shpL_mem h1 hp) (h3 p hp),fun xs e=>?_⟩
   have:=h4 p hp
   cases p <;> first | (cases this; done) | (cases e; done) | (have:=shpL_mem h1 hp; simp at this)
 have hg:=PySem.W.list_sort_data (prog:=X.prog) (w:=X.w) (A:=X.A.in1) (E:=X.xe) (s:={ s with heap:=h'.push { cls:=.type "list",data:=.seq its.toArray },toks:=s.toks }) (a:=h'.objs.size) (n:=0) (vs:=its) (Q:=fun _ s'=>∃ x H',Inv X pins σ H' s'∧RelV x (.ref h'.objs.size)∧Q x H')
  (R:=fun (v:Value) (b:V×PV)=>RelV b.1 v) (enc:=fun b=>dat b.2) (bs:=ws.zip l) (Heap.get?_push_size _ rfl) (eachZ rv' hlen) (each_reads0 hlen rv' ra') al sb (by rw [List.length_zip]; omega) (fun b hb=>by
   have:(dat b.2).depth≤50:=by
    refine depth_mem d3 _ ?_
    rw [← em]
    exact List.mem_map.mpr ⟨b,hb,rfl⟩
   have:X.A.in1.units=X.A.units+1:=Around.in1_units _
   omega) fun out hol he=>?_
 ·refine wpAny_bind (wpAny_holding (wpAny_mono hg (fun _ s' x=>?_) fun _ _ e=>e))
  exact wpAny_pure ⟨_,rfl,x⟩
 ·generalize hm:(ws.zip l).mergeSort (PySem.W.dataLe false fun b:V×PV=>dat b.2)=z at he
  have pm:z.Perm (ws.zip l):=by rw [← hm]; exact List.mergeSort_perm _ _
  have snd:z.map (·.2)=sortP l:=by
   have:sortP l=((ws.zip l).map (·.2)).mergeSort (fun a b=>!ltv b a):=by rw [List.map_snd_zip (by omega)]; rfl
   rw [this,← hm]
   refine List.map_mergeSort fun x hx y hy=>?_
   rw [PySem.W.dataLe_eq]
   have mx:x.2∈l:=(List.of_mem_zip hx).2
   have my:y.2∈l:=(List.of_mem_zip hy).2
   show (!PySem.W.dataLt (dat y.2) (dat x.2))=_
   rw [ltv_is (shpL_mem h1 my) (shpL_mem h1 mx)]
  obtain ⟨ep',he'⟩:=PyProof.Rows.sortedHeap_at (out:=out.toArray) (Heap.get?_push_size h' (o:={ cls:=.type "list",data:=.seq its.toArray }) rfl)
  have hlz:(z.map (·.1)).length≤sizeLine:=by rw [List.length_map,pm.length_eq,List.length_zip]; omega
  refine ⟨.ref _,upd H h'.objs.size (.lst (z.map (·.1))),I1.laid (t':=s.toks) (fun b u e=>?_) (Nat.le_refl _) ⟨hlz,out,ep',each_vals he,he'⟩,rfl,q _ _ (fun F rF=>?_) (I1.hok.fresh (Nat.le_refl _))⟩
  ·have e2:(h'.push { cls:=.type "list",data:=.seq its.toArray }).get? b=some u:=Heap.get?_push_of_some _ e
   rw [sortedHeap_old (Nat.ne_of_lt (Heap.lt_size e)) (Heap.lt_size e2)]
   exact e2
  ·rw [← snd]
   exact repL_zip fun x hx=>repL_each rF x (pm.mem_iff.mp hx)
section
variable {C:Cn} {cm:Bool} {k:Nat} {N:List Str} {sc so:Scope} {a:Expr} {A:EX} {pos p:Pos}
theorem de_sortedT (ha:DE C cm k N sc a A) (mx:C.mg "sorted" = none) (hg:sc.names.lookup ("sorted":Str)=some .globalImplicit:=by rfl)
  (hst:∀ env:PySem.Env,starEach [a] env=(false,eval a env) :: starEach [] env:=by intro _; rfl):DE C cm k N sc (.Call (.Name "sorted" p) [a] [] pos) (eSortedT A) :=
 de_b1 (r:=rSortT C.K) (fun X S=>by rw [← S.KK]; exact cr_sortT S.u) (fun W σ x v F H Hs Q hf ht rv h=>by
  obtain ⟨t,q⟩:=x
  unfold sortTV at h
  split at h
  ·rename_i l e
   cases e
   by_cases hc:(srtOk l && l.all (keyN 8) && decide (l.length≤16777216))=true
   ·rw [if_pos hc] at h
    rw [Bool.and_eq_true,Bool.and_eq_true,decide_eq_true_eq] at hc
    obtain ⟨ad,us,rfl,s,r⟩:=rep_tup rv.ofFz
    refine ⟨ad,us,l,rfl,(TupAt.mono hf s).sq,r.mono hf _ _,hc.1.1,hc.1.2,fun ws p hw hp=>?_⟩
    exact h _ F _ (Ext.lst hf ht hp) (rv_new (hw F r) upd_same (hf.free hp) hp)
   ·rw [if_neg hc] at h; exact h.elim
  ·exact h.elim) mx (by decide +kernel) (by decide) (by decide) ha hg hst
end
section
variable {C:Cn} {cm:Bool} {k:Nat} {N:List Str} {sc so:Scope} {a b:Expr} {A B:EX} {pos p:Pos}
end
end Vl
end
section
set_option linter.all false
set_option maxRecDepth 10000
namespace Vm
def dTryT(cs:List (Nat×Bool))(i:Nat)(b h:ST):ST:=fun Γ=>match b Γ with
 | .exc c Γ'=>match takesC cs c with
  | some true=>if Nat.ble (i+1) Γ'.length then match h (Γ'.set i (some (.fz,.exo (c+2) []))) with
   | .nx Γ2=>.nx (Γ2.set i none)
   | _=>.bad
   else .bad
  | some false=>.exc c Γ'
  | none=>.bad
 | o=>o
def isEV(tab:List (Nat×Bool))(x:TV):Res TV:=match x with
 | (.fz,.exo (c+2) _)=>match takesC tab c with
  | some b=>.ok (.fz,.bl b)
  | none=>.bad
 | _=>.bad
def eIsE(tab:List (Nat×Bool))(a:EX):EX:=fun Γ=>(a Γ).bind (isEV tab)
def isEsV(tabs:List (List (Nat×Bool)))(x:TV):Res TV:=match x with
 | (.fz,.exo (c+2) _)=>if tabs.all fun t=>(takesC t c).isSome then .ok (.fz,.bl (isCs tabs c)) else .bad
 | _=>.bad
def eIsEs(tabs:List (List (Nat×Bool)))(a:EX):EX:=fun Γ=>(a Γ).bind (isEsV tabs)
end Vm
end
section
set_option Elab.async false
set_option linter.all false
set_option maxRecDepth 100000
set_option maxHeartbeats 1000000
namespace L2
open PySem PySem.Spec PyProof.Rows
section
variable {X:Cx} {pins:List (Addr×Obj)} {σ:St} {H:Hp} {sI s:Shared} {B:Heap}
theorem Inv.suiteT(I:Inv X pins σ H s)(J:Inv X pins σ H sI)(hs:X.stack=X.env :: X.outer)(hf:X.env.frame=some X.env.locals)(nb:∀ b o,sI.heap.get? b=some o→b ∉ frs X.stack→B.get? b=some o){a:Addr}{oe:Obj}{vs:Array Value}(ha:s.heap.get? a=some oe)(hd:oe.data = .fields vs)(na:H a=none)(nL:a ≠ X.env.locals)(nF:a ∉ X.fs)(nB:B.get? a=none) :
  Inv (X.suite a (X.pn++pins)) [] σ (upd H a (Vl.excHO oe)) s:=by
 have pfr:∀ q,q ≠ X.env.locals→q ∉ X.fs→q ∉ frs X.stack:=fun q h1 h2 hm=>by
  rw [hs] at hm
  obtain ⟨e,he,q'⟩:=List.mem_filterMap.mp hm
  rcases List.mem_cons.mp he with rfl | he
  ·rw [hf] at q'; cases q'; exact h1 rfl
  ·exact h2 (List.mem_filterMap.mpr ⟨e,he,q'⟩)
 have out:∀ b o,sI.heap.get? b=some o→b ≠ a:=fun b o e q=>by
  subst q
  have:=nb b o e (pfr b nL nF)
  rw [nB] at this; cases this
 have up:∀ {b:Addr},b ≠ a→upd H a (Vl.excHO oe) b=H b:=fun h=>upd_ne h
 have hb:∀ {b:Addr} {o:HO},H b=some o→b ≠ a:=fun e q=>by rw [q,na] at e; cases e
 refine ⟨I.ok.suite _ _,I.os,I.bare,⟨I.base.keep,I.base.slot,fun b o e n hx=>?_,I.base.there,fun b xs e=>?_,fun b o u e=>?_,fun b ps e=>?_⟩,I.loc,I.cell,?_,fun x c e=>?_,fun p hp=>?_,fun b o e=>?_,I.len⟩
 ·obtain ⟨o',e'⟩:=J.base.there b o e hx
  rw [up (out b o' e')]
  exact I.base.free b o e n hx
 ·have:=I.base.tups b xs e
  rw [up (hb this)]; exact this
 ·have:=I.base.frzs b o u e
  rw [up (hb this)]; exact this
 ·obtain ⟨more,h⟩:=I.base.tbls b ps e
  exact ⟨more,by rw [up (hb h)]; exact h⟩
 ·rw [up (fun z=>nL z.symm)]; exact I.free
 ·obtain ⟨v,hc⟩:=I.cell x c e
  have:c ≠ a:=fun z=>by
   subst z
   obtain ⟨oc,h1,h2⟩:=hc
   rw [ha] at h1; cases h1
   rw [hd] at h2; cases h2
  rw [up this]; exact I.freeC x c e
 ·have hp':p∈X.pn++pins:=by rw [List.append_nil] at hp; exact hp
  obtain ⟨h1,h2,h3,h4,h5⟩:=I.pin p hp'
  obtain ⟨j1,_⟩:=J.pin p hp'
  exact ⟨h1,by rw [up (out _ _ j1)]; exact h2,h3,h4,h5⟩
 ·by_cases q:b=a
  ·subst q
   rw [upd_same] at e
   cases e
   exact ⟨ha,trivial,⟨_,ha⟩,fun _ _ _ _=>trivial⟩
  ·rw [up q] at e
   refine (I.hok b o e).stay (fun _ _ _ h=>h) (fun c h=>?_) (fun c xs h=>?_)
   ·rw [up (hb h)]; exact h
   ·rw [up (hb h)]; exact h
theorem Inv.unsuiteT{a:Addr}{pn':List (Addr×Obj)}(I:Inv (X.suite a (X.pn++pins)) pn' σ H s)(ok:X.Ok):Inv X pins σ H s :=
 ⟨ok,I.os,I.bare,I.base,I.loc,I.cell,I.free,I.freeC,fun p hp=>I.pin p (List.mem_append_left _ hp),I.hok,I.len⟩
def wAsT(K:PySem.W.Frag)(c:Value)(i:Nat)(ts:Addr→Value→Option Addr→TS)(Wout:WX)(D:Ends):WX:=fun cls d σ H =>
 ∃ b,PySem.W.exmOne K cls c=some b∧(b=true→∀ a oe,H a=none→Zc cls d oe→(∃ vs,oe.data = .fields vs)→ts a cls d { nx:=fun σ' H'=>D.nx (σ'.set i none) H',rt:=D.rt,bk:=fun σ' H'=>D.bk (σ'.set i none) H',ct:=fun σ' H'=>D.ct (σ'.set i none) H' } (σ.set i (some (.ref a))) (upd H a (Vl.excHO oe))) ∧
  (b=false→Wout cls d σ H)
end
section
variable {X:Cx} {x n:Str} {c:Value} {i:Nat} {body suite:List Stmt} {b₀:Stmt} {np pos pos':Pos} {tb:WX→TS} {ts:Addr→Value→Option Addr→TS} {Wout:WX}
theorem ps_try_asT(hs:X.stack=X.env :: X.outer)(hf:X.env.frame=some X.env.locals)(hN:X.N.Nodup)(hi:X.N[i]? = some n)(hln:X.env.kindOf n=some .local)(hc:Names X x c)(tk:Takes X Wout)
  (hb:∀ (W:WX) (pn:List (Addr×Obj)) (xe:Value→Shared→Prop),Takes (X.tr pn xe) W→PassesOwn (model X.prog X.w) X.A X.env xe→PSs (X.tr pn xe) body (tb W))
  (hsu:∀ (a:Addr) (cls:Value) (d:Option Addr) (pn:List (Addr×Obj)),PSs (X.suite a pn) (b₀ :: suite) (ts a cls d)) :
  PS X (.Try body [.ExceptHandler (some (.Name x np)) (some n) (b₀ :: suite) pos'] [] [] pos) (fun D σ H=>tb (wAsT X.K c i ts Wout D) D σ H):=by
 refine ⟨fun pins s σ H D I h=>?_⟩
 have ok:=I.ok
 have hfr:X.A.frames=some (X.env :: X.outer):=by rw [ok.frames,hs]
 have hloc:Loc X.env.scope n:=.inl hln
 refine wpAny_Try_except ?_
 refine wpAny_mono ((hb (wAsT X.K c i ts Wout D) (X.pn++pins) (fun e s₁=>wpAny (model X.prog X.w) X.A (noteFrame e X.env) (fun _ s₂=>wpAny (model X.prog X.w) X.A (setFlight e none) (fun _ s₃ =>
  wpAny (model X.prog X.w) X.A (handleBy e X.env [.ExceptHandler (some (.Name x np)) (some n) (b₀ :: suite) pos']) (SP X pins D) X.xe s₃) X.xe s₂) X.xe s₁) (fun u s' xx=>?_) PassesOwn.looking).run [] s σ H D (I.toTry _) h) (fun f s1 hsp=>?_) (fun e s1 he=>he)
 ·
  obtain ⟨a,B,sI,pins',σ',H',cls,d,rfl,J',nb,up,sky,na,os,ag,b,hb1,hyes,hno⟩:=xx
  have J:Inv X pins σ' H' sI:=J'.ofTry ok
  have sky':Sky B (X.env :: X.outer) a (Zc cls d) X.env.locals s'.heap:=by rw [← hs]; exact sky
  show wpAny (model X.prog X.w) X.A (noteFrame (.ref a) X.env) _ _ _
  refine Sky.land Zc.steady hfr hf sky' fun h3 fl3 up3=>?_
  have J3:Inv X pins σ' H' { s' with heap:=h3 }:=J.landed nb fl3.1 (up.trans up3) os ag
  obtain ⟨oe3,vs3,he3,hz3,hd3⟩:=fl3.there
  have notFr:∀ {h:Heap} {o:Obj} {vs:Array Value},h.FunFrames B (X.env :: X.outer)→h.get? a=some o→o.data = .fields vs→a ∉ frs (X.env :: X.outer):=fun {h o vs} ff e dd hm=>by
   obtain ⟨_,o',e',hnf⟩:=ff.mem hm
   rw [e] at e'; cases e'
   exact hnf _ dd
  have nfr:=notFr fl3.2.2.1 he3 hd3
  have nL:a ≠ X.env.locals:=fun z=>nfr (List.mem_filterMap.mpr ⟨X.env,List.mem_cons_self,by rw [hf,z]⟩)
  have nF:a ∉ X.fs:=fun hm=>by
   obtain ⟨e,he,q⟩:=List.mem_filterMap.mp hm
   exact nfr (List.mem_filterMap.mpr ⟨e,List.mem_cons_of_mem _ he,q⟩)
  have S3:=J3.suite he3 hd3 na nL nF
  refine wpAny_handleBy_cons (codeAny_handlers_test ?_) (by intro q; cases q)
  have LT:PySem.W.Looks (model X.prog X.w) h3 (typeOf (.ref a)) cls:=fun A Q E s k q=>wpAny_typeOf_ref (k _ _ he3) (by rw [hz3.1]; exact q)
  have LM:=PySem.W.exm_one (M:=model X.prog X.w) (J3.kIn) LT hb1
  have test:∀ {Q:Value→Shared→Prop} {E:Value→Shared→Prop},Q c { s' with heap:=h3 }→wpAny (model X.prog X.w) (X.A.mark (some (.ref a))) (eval (.Name x np) X.env) Q E { s' with heap:=h3 }:=fun {Q E} q=>by
   obtain ⟨hg,hdbg,hm | ⟨hm,hv,hnn⟩⟩:=hc
   ·exact ld_glob (X:=X.suite a ((a,oe3) :: (X.pn++pins))) S3 hg hm q hdbg
   ·exact ld_blt (X:=X.suite a ((a,oe3) :: (X.pn++pins))) S3 hg hm hv q hnn hdbg
  refine test (LM.here ?_)
  cases b with
  | true =>
   refine codeAny_handlers_suite_as ?_
   refine HandSPX.lands_againZ fl3 fun h4 fl4 up4=>?_
   have J4:Inv X pins σ' H' { s' with heap:=h4 }:=J.landed nb fl4.1 ((up.trans up3).trans up4) os ag
   obtain ⟨oe4,vs4,he4,hz4,hd4⟩:=fl4.there
   have S4:=J4.suiteT (B:=B) J hs hf nb he4 hd4 na nL nF fl4.2.1
   refine store_ok (X:=X.suite a (X.pn++pins)) (v:=.ref a) S4 hN hi hloc rfl (fun s5 S5=>?_) (.inr hln)
   refine wpAny_mono ((hsu a cls d (X.pn++pins)).run [] s5 _ _ _ S5 (hyes rfl a oe4 na hz4 ⟨_,hd4⟩)) (fun f s6 hsp=>?_) (fun _ _ z=>False.elim z)
   have end_:∀ {σ6:St} {H6:Hp} {Q:Shared→Prop},Inv (X.suite a (X.pn++pins)) [] σ6 H6 s6→(∀ s7,Inv X pins (σ6.set i none) H6 s7→Q s7) →
     wpAny (model X.prog X.w) X.A (do bindName X.env n .none; unbindBehindTheSuite X.env n pos') (fun _ s7=>Q s7) X.xe s6:=fun {σ6 H6 Q} S6 hq=>gone_ok (S6.unsuiteT ok) hN hi hln hq
   cases f with
   | next =>
    obtain ⟨σ6,H6,S6,q6⟩:=hsp
    exact end_ S6 fun s7 J7=>⟨_,_,J7,q6⟩
   | brk =>
    obtain ⟨σ6,H6,S6,q6⟩:=hsp
    exact end_ S6 fun s7 J7=>⟨_,_,J7,q6⟩
   | cont =>
    obtain ⟨σ6,H6,S6,q6⟩:=hsp
    exact end_ S6 fun s7 J7=>⟨_,_,J7,q6⟩
   | ret u =>
    obtain ⟨v6,σ6,H6,S6,r6,q6⟩:=hsp
    exact end_ S6 fun s7 J7=>⟨_,_,_,J7,r6,q6⟩
  | false =>
   show wpAny _ X.A (handleBy (.ref a) X.env []) _ _ _
   refine wpAny_handleBy_nil ?_
   obtain ⟨k1,k2,k3,oe,vs,T,oT,ts',he,hz,hd,h1,hr⟩:=id fl3
   unfold PySem.passOn
   refine wpAny_bind (wpAny_field he hd h1 ?_)
   rw [if_neg (show ¬ ((Value.ref T == Value.none)=true) from by simp)]
   have fin:wpAny (model X.prog X.w) X.A (setFlight (.ref a) X.env.frame) (fun _ s4=>wpAny (model X.prog X.w) X.A (throw (.ref a):Sem Flow) (SP X pins D) X.xe s4) X.xe { s' with heap:=h3 }:=by
    rw [hf]
    refine HandSPX.setFlight_upZ fl3 fun h4 hh4 up4=>wpAny_throw (tk _ _ ?_)
    exact ⟨a,B,sI,pins,σ',H',cls,d,rfl,J,nb,(up.trans up3).trans up4,.inr (.inr (by rw [hs]; exact hh4)),na,os,ag,hno rfl⟩
   first
    | exact wpAny_bind (wpAny_pure (wpAny_bind fin))
    | exact wpAny_bind fin
 ·cases f with
  | next =>
   obtain ⟨σ',H',J',q⟩:=hsp
   exact wpAny_execs_nil ⟨σ',H',J'.ofTry ok,q⟩
  | brk =>
   obtain ⟨σ',H',J',q⟩:=hsp
   exact ⟨σ',H',J'.ofTry ok,q⟩
  | cont =>
   obtain ⟨σ',H',J',q⟩:=hsp
   exact ⟨σ',H',J'.ofTry ok,q⟩
  | ret u =>
   obtain ⟨v,σ',H',J',r,q⟩:=hsp
   exact ⟨v,σ',H',J'.ofTry ok,r,q⟩
end
end L2
namespace Vl
open PySem L2 Vm PyProof.Rows
section
variable {C:Cn} {cm:Bool} {k i c:Nat} {N:List Str} {sc:Scope} {pos np pos' p p1 p2:Pos} {X:Cx} {d:ST} {a b e:Expr} {es:List Expr} {A B:EX}
theorem ext_exc{F H:Hp}{a:Addr}{oe:Obj}(fh:Same F H)(tp:Tups F H)(na:H a=none):Ext F H (upd F a (excHO oe)) (upd H a (excHO oe)):=by
 have fa:F a=none:=fh.free na
 have hb:∀ {G:Hp} {b:Addr} {o:HO},G a=none→G b=some o→b ≠ a:=fun g e q=>by rw [q,g] at e; cases e
 refine ⟨fun b o z=>by rw [upd_ne (hb fa z)]; exact z,fun b o z=>by rw [upd_ne (hb na z)]; exact z,fun b o z=>?_,fun b xs z=>?_,fun b z=>?_⟩
 ·by_cases q:b=a
  ·subst q; rw [upd_same] at z ⊢; exact z
  ·rw [upd_ne q] at z ⊢; exact fh _ _ z
 ·by_cases q:b=a
  ·subst q
   rw [upd_same] at z
   cases z
  ·rw [upd_ne q] at z ⊢; exact tp _ _ z
 ·by_cases q:b=a
  ·subst q; exact .inr na
  ·rw [upd_ne q] at z; exact .inl z
theorem ds_tryT {j:Nat} {cs:List (Nat×Bool)} {n:Str} {hd:ST} {body suite:List Stmt} {b₀:Stmt} (hx:Xs C j cs) (hb:DSs C cm k N sc body d) (hh:DSs C false k N sc (b₀ :: suite) hd) (hN:N[i]? = some n:=by rfl) (hln:sc.names.lookup n=some .local:=by rfl) (hg:sc.names.lookup (xName j)=some .globalImplicit:=by rfl) (hdb:(xName j == ("__debug__":Str))=false:=by decide) :
  DS C cm k N sc (.Try body [.ExceptHandler (some (.Name (xName j) np)) (some n) (b₀ :: suite) pos'] [] [] pos) (dTryT cs i d hd):=by
 obtain ⟨tb,pb,qb⟩:=hb
 obtain ⟨ts0,ps0,qs0⟩:=hh
 obtain ⟨ad,h1,h2⟩:=hx
 refine ⟨fun W D σ H=>tb (wAsT C.K (.ref ad) i (fun _ _ _=>ts0 fun _ _ _ _=>False) W D) D σ H,fun X S W T=>?_,fun W D σ Γ F0 H0 F H g h=>?_⟩
 ·have hK:X.K=C.K:=congrArg (fun C=>C.K.fr) S.cn
  have hm:X.mg=C.mg:=congrArg Cn.mg S.cn
  rw [← hK]
  refine ps_try_asT S.sk S.fr (by rw [S.n]; exact S.nd) (by rw [S.n]; exact hN) ?_ ⟨?_,hdb,.inl (by rw [hm]; exact h1)⟩ T (fun W' pn xe tk hp=>pb _ (sta_tr S hp) _ tk) (fun a cls dd pn=>ps0 _ (sta_suite S) _ (fun u s' xx=>?_))
  ·show X.env.scope.names.lookup n=some .local
   rw [S.s]
   exact hln
  ·show X.env.scope.names.lookup (xName j)=some .globalImplicit
   rw [S.s]
   exact hg
  ·obtain ⟨_,_,_,_,_,_,_,_,_,_,_,_,_,_,_,_,w⟩:=xx
   exact w.elim
 ·refine qb _ D σ Γ F0 H0 F H g ?_
  have h:OutOk C W F0 H0 D (dTryT cs i d hd Γ):=h
  unfold dTryT at h
  cases eo:d Γ with
  | nx Γ'=>rw [eo] at h; exact h
  | rt t p Γr=>rw [eo] at h; exact h
  | bk Γ'=>rw [eo] at h; exact h
  | ct Γ'=>rw [eo] at h; exact h
  | bad=>rw [eo] at h; exact h
  | exc c Γ' =>
   rw [eo] at h
   simp only at h
   intro σ' F' H' g'
   cases et:takesC cs c with
   | none=>rw [et] at h; exact h.elim
   | some b =>
    refine ⟨b,h2 c b et,fun hb a oe na hz hf=>?_,fun hb=>?_⟩
    ·subst hb
     rw [et] at h
     simp only at h
     by_cases hlt:Nat.ble (i+1) Γ'.length=true
     ·rw [if_pos hlt] at h
      have hlt':i < Γ'.length:=Nat.le_of_ble_eq_true hlt
      have e1:Ext F' H' (upd F' a (excHO oe)) (upd H' a (excHO oe)):=ext_exc g'.ext.fh g'.ext.tp na
      have rp:Rep C.K (upd F' a (excHO oe)) (.exo (c+2) []) (.ref a):=by
       unfold Rep
       exact ⟨a,oe,rfl,upd_same,hz.1,hz.2,hf⟩
      have gs:GoodS C.K F0 H0 (Γ'.set i (some (.fz,.exo (c+2) []))) (σ'.set i (some (.ref a))) (upd F' a (excHO oe)) (upd H' a (excHO oe)):=(g'.next e1).setF i rp
      refine qs0 _ _ _ _ F0 H0 _ _ gs ?_
      cases eh:hd (Γ'.set i (some (.fz,.exo (c+2) []))) with
      | nx Γ2 =>
       rw [eh] at h
       exact fun σ2 F2 H2 g2=>h (σ2.set i none) F2 H2 (good_hold (good_drop g2) (get_set_none _ _))
      | rt t p Γr=>rw [eh] at h; exact h.elim
      | bk Γ2=>rw [eh] at h; exact h.elim
      | ct Γ2=>rw [eh] at h; exact h.elim
      | exc c2 Γ2=>rw [eh] at h; exact h.elim
      | bad=>rw [eh] at h; exact h.elim
     ·rw [if_neg hlt] at h; exact h.elim
    ·subst hb
     rw [et] at h
     exact h σ' F' H' g'
theorem inst_of{oe:Obj}{D a:Addr}{s:Shared}(hget:s.heap.get? a=some oe)(h1:oe.cls = .ref D)(h2:oe.dict=none)(hf:∃ vs,oe.data = .fields vs):PySem.W.InstAt s.heap a oe D none:=by
 obtain ⟨vs,hv⟩:=hf
 obtain ⟨oc,od,oda,osl⟩:=oe
 dsimp only at h1 h2 hv
 subst h1 h2 hv
 exact ⟨hget,rfl,rfl,trivial⟩
def rIsR(K:PySem.W.Frag):List V→Hp→VK→Prop:=fun xs H Q=>∃ (a D:Addr) (oe:Obj) (cv:V) (u:Value) (b:Bool),xs=[.ref a,cv]∧H a=some (excHO oe)∧oe.cls = .ref D∧oe.dict=none∧(∃ vs,oe.data = .fields vs)∧ExcC K D∧(∀ u',RelV cv u'→u'=u)∧PySem.W.kitOne K (.ref D) u=some b∧Q (.bl b) H
theorem call_isR:CallR X (.builtin "isinstance") (rIsR X.K):=by
 intro pins s σ H xs us Q I r h
 obtain ⟨a,D,oe,cv,c,b,rfl,hH,h1,h2,hf,E,hcv,e,q⟩:=h
 cases r with
 | cons rx rr =>
  cases rr with
  | cons rt rr =>
   cases rr
   cases rx
   have ec:=hcv _ rt
   subst ec
   have hget:s.heap.get? a=some oe:=(show ObjOk X.prog X.w H s.heap a (excHO oe) from I.hok a _ hH).1
   exact PySem.W.kia_one (PySem.W.handS_kitx_exc E.hg E.hk E.hs E.hd E.ha E.hn E.ht E.hm) I.kIn (inst_of hget h1 h2 hf) e (fun z=>nomatch z) fun tk=>⟨.bl b,H,I.kept (t':=tk) fun _ _ z=>z,rfl,q⟩
theorem de_isE {y:Str} {tab:List (Nat×Bool)} (ha:DE C cm k N sc a A) (iq:Iq C y tab) (mx:C.mg "isinstance" = none) (hg:sc.names.lookup ("isinstance":Str)=some .globalImplicit:=by rfl) (hg2:sc.names.lookup y=some .globalImplicit:=by rfl) (hd2:(y == ("__debug__":Str))=false:=by decide)
  (hst:∀ env:PySem.Env,starEach [a,.Name y p2] env=(false,eval a env) :: starEach [.Name y p2] env:=by intro _; rfl) (hst2:∀ env:PySem.Env,starEach [.Name y p2] env=(false,eval (.Name y p2) env) :: starEach [] env:=by intro _; rfl) :
  DE C cm k N sc (.Call (.Name "isinstance" p) [a,.Name y p2] [] pos) (eIsE tab A):=by
 obtain ⟨ta,pa,qa⟩:=ha
 obtain ⟨⟨v,u,hm,hr,hinj,hk⟩⟩:=iq
 refine ⟨fun W=>tCB (rIsR C.K) (tCons (ta W) (tCons (tC v) tNil)),fun X S W T=>?_,fun W σ Γ F0 H0 F H Q g h=>qa W σ Γ F0 H0 F H _ g (EOk.bind h fun x w F1 H1 ex e1 r1 h1=>?_)⟩
 ·have e:=S.K
  rw [← e]
  exact pe_callB call_isR (S.gl hg) (by rw [S.mg]; exact mx) (by decide +kernel) (pa_cons (pa X S W T) (pa_cons (pe_nm (S.gl hg2) (by rw [S.mg]; exact hm) hr hd2) pa_nil (hst2 _)) (hst _)) (by decide) (by decide) (hst _) rfl
 ·unfold isEV at h1
  split at h1
  ·rename_i c l
   have rr:=r1.ofFz
   unfold Rep at rr
   obtain ⟨ad,oe,rfl,hF,hc,hd,hf⟩:=rr
   cases ht:takesC tab c with
   | none=>rw [ht] at h1; exact h1.elim
   | some b =>
    rw [ht] at h1
    obtain ⟨D,hD,hE,hkit⟩:=hk c b ht
    exact ⟨ad,D,oe,v,u,b,rfl,e1.fh _ _ hF,hc.trans hD,hd,hf,hE,hinj,hkit,h1 _ F1 H1 e1 (.fz rep_bl)⟩
  ·exact h1.elim
def rIsRs(K:PySem.W.Frag):List V→Hp→VK→Prop:=fun xs H Q=>∃ (a D q:Addr) (oe:Obj) (vs:List V) (its:List Value) (b:Bool),xs=[.ref a,.ref q]∧H a=some (excHO oe)∧oe.cls = .ref D∧oe.dict=none∧(∃ vs,oe.data = .fields vs)∧ExcC K D∧TupAt H q vs∧(∀ us,Vals vs us→us=its)∧PySem.W.kitAny K (.ref D) its=some b∧Q (.bl b) H
theorem call_isRs:CallR X (.builtin "isinstance") (rIsRs X.K):=by
 intro pins s σ H xs us Q I r h
 obtain ⟨a,D,tp,oe,vs,its,b,rfl,hH,h1,h2,hf,E,htp,hits,e,q⟩:=h
 cases r with
 | cons rx rr =>
  cases rr with
  | cons rt rr =>
   cases rr
   cases rx
   cases rt
   obtain ⟨its',r',pl,_⟩:=I.tuple ((TupAt.sq htp))
   have ei:=hits _ r'
   subst ei
   have hget:s.heap.get? a=some oe:=(show ObjOk X.prog X.w H s.heap a (excHO oe) from I.hok a _ hH).1
   obtain ⟨o,ho,hc,n,hd⟩:=pl
   have ho':s.heap.get? tp=some ⟨.type "tuple",o.dict,.seq its'.toArray n,o.slots⟩:=by
    rw [ho]
    obtain ⟨oc,od,oda,osl⟩:=o
    dsimp only at hc hd
    subst hc hd
    rfl
   exact PySem.W.kia_tup (PySem.W.handS_kitx_exc E.hg E.hk E.hs E.hd E.ha E.hn E.ht E.hm) I.kIn (inst_of hget h1 h2 hf) ho' e (fun z=>nomatch z) fun tk=>⟨.bl b,H,I.kept (t':=tk) fun _ _ z=>z,rfl,q⟩
variable (C k N sc cm) in
def TCA (es:List Expr) (tabs:List (List (Nat×Bool))):Prop:=∃ (vs:List V) (us:List Value),(∀ X,Sta C cm k N sc X→PA X es (tCl vs))∧vs.length=tabs.length∧(∀ us',Vals vs us'→us'=us) ∧
 (∀ c,(tabs.all fun t=>(takesC t c).isSome)=true→(tabs=[] ∨ ∃ D,C.xc c = .ref D∧ExcC C.K D)∧∀ D,C.xc c = .ref D→PySem.W.kitAny C.K (.ref D) us=some (isCs tabs c))
theorem tca_nil:TCA C cm k N sc [] []:=⟨[],[],fun _ _=>pa_nil,rfl,fun us' h=>by cases h; rfl,fun c _=>⟨.inl rfl,fun D _=>rfl⟩⟩
theorem tca_cons {y:Str} {tab:List (Nat×Bool)} {tabs:List (List (Nat×Bool))} (iq:Iq C y tab) (h:TCA C cm k N sc es tabs) (hg2:sc.names.lookup y=some .globalImplicit:=by rfl) (hd2:(y == ("__debug__":Str))=false:=by decide)
  (hst2:∀ env:PySem.Env,starEach (.Name y p2 :: es) env=(false,eval (.Name y p2) env) :: starEach es env:=by intro _; rfl):TCA C cm k N sc (.Name y p2 :: es) (tab :: tabs):=by
 obtain ⟨⟨v,u,hm,hr,hinj,hk⟩⟩:=iq
 obtain ⟨vs,us,h1,h2,h3,h4⟩:=h
 refine ⟨v :: vs,u :: us,fun X S=>pa_cons (pe_nm (S.gl hg2) (by rw [S.mg]; exact hm) hr hd2) (h1 X S) (hst2 _),by simp [h2],fun us' h=>?_,fun c hc=>?_⟩
 ·cases h with
  | cons a b=>rw [hinj _ a,h3 _ b]
 ·rw [List.all_cons,Bool.and_eq_true] at hc
  obtain ⟨b,hb⟩:=Option.isSome_iff_exists.mp hc.1
  obtain ⟨D,hD,hE,hkit⟩:=hk c b hb
  refine ⟨.inr ⟨D,hD,hE⟩,fun D' hD'=>?_⟩
  rw [hD] at hD'
  cases hD'
  have h4':=(h4 c hc.2).2 D hD
  have e1:=isC_of hb
  unfold PySem.W.kitAny
  rw [hkit]
  unfold isCs
  rw [List.any_cons,e1]
  cases b with
  | true=>rfl
  | false=>rw [Bool.false_or]; exact h4'
theorem de_isEs {tabs:List (List (Nat×Bool))} {x1:Nat} (ha:DE C cm k N sc a A) (tc:TCA C cm k N sc es tabs) (mx:C.mg "isinstance" = none) (hne:tabs.isEmpty=false:=by rfl) (hl:tabs.length≤16777216:=by decide) (hg:sc.names.lookup ("isinstance":Str)=some .globalImplicit:=by rfl)
  (hst:∀ env:PySem.Env,starEach [a,.Tuple es x1 p2] env=(false,eval a env) :: starEach [.Tuple es x1 p2] env:=by intro _; rfl) (hst2:∀ env:PySem.Env,starEach [.Tuple es x1 p2] env=(false,eval (.Tuple es x1 p2) env) :: starEach [] env:=by intro _; rfl) :
  DE C cm k N sc (.Call (.Name "isinstance" p) [a,.Tuple es x1 p2] [] pos) (eIsEs tabs A):=by
 obtain ⟨ta,pa,qa⟩:=ha
 obtain ⟨vs,us,t1,t2,t3,t4⟩:=tc
 refine ⟨fun W=>tCB (rIsRs C.K) (tCons (ta W) (tCons (tTupD (tCl vs)) tNil)),fun X S W T=>?_,fun W σ Γ F0 H0 F H Q g h=>qa W σ Γ F0 H0 F H _ g (EOk.bind h fun x w F1 H1 ex e1 r1 h1=>?_)⟩
 ·have e:=S.K
  rw [← e]
  exact pe_callB call_isRs (S.gl hg) (by rw [S.mg]; exact mx) (by decide +kernel) (pa_cons (pa X S W T) (pa_cons (pe_tupD (t1 X S)) pa_nil (hst2 _)) (hst _)) (by decide) (by decide) (hst _) rfl
 ·unfold isEsV at h1
  split at h1
  ·rename_i c l
   have rr:=r1.ofFz
   unfold Rep at rr
   obtain ⟨ad,oe,rfl,hF,hc,hd,hf⟩:=rr
   by_cases ht:(tabs.all fun t=>(takesC t c).isSome)=true
   ·rw [if_pos ht] at h1
    obtain ⟨q1,q2⟩:=t4 c ht
    rcases q1 with q1 | ⟨D,hD,hE⟩
    ·rw [q1] at hne; cases hne
    show tCl vs σ H1 _
    refine tCl_run vs ⟨by rw [t2,← szL_eq]; exact hl,fun q o hq hdo=>?_⟩
    have hne':ad ≠ q:=fun z=>by subst z; have:=e1.fh _ _ hF; rw [hq] at this; cases this
    refine ⟨ad,D,q,oe,vs,us,isCs tabs c,rfl,by rw [upd_ne hne']; exact e1.fh _ _ hF,hc.trans hD,hd,hf,hE,.new hdo,t3,q2 D hD,?_⟩
    exact h1 _ (upd F1 q (tq (o,vs))) _ (e1.trans (Ext.tup e1.fh e1.tp hq)) (.fz rep_bl)
   ·rw [if_neg ht] at h1; exact h1.elim
  ·exact h1.elim
end
end Vl
namespace Vl
open PySem L2 Vm PyProof.Rows
section
variable {C:Cn} {cm:Bool} {k:Nat} {N:List Str} {sc:Scope} {o:Expr} {A:EX} {apos pos:Pos}
end
end Vl
end
section
set_option Elab.async false
set_option linter.all false
set_option maxRecDepth 100000
set_option maxHeartbeats 4000000
namespace Vm
noncomputable def d_look_rows:FN:=runFn 3 5
 (dSeq (dIf (xVal (eOp2 opEq (eLen (eVar 0)) (eC (.int 0))))
 (dRaise 4)
 (dNil))
 (dSeq (dSet 3 (eC (.int 0)))
 (dFor (jSeq (eVar 0)) (.v 4) [4]
 (dSeq (dIf (xOr (xVal (eOp2 opLe (eVar 4) (eVar 3))) (xOr (xVal (eOp2 opGe (eVar 4) (eVar 1))) (xVal (eOp2 opDIn (eVar 4) (eVar 2)))))
 (dRaise 4)
 (dNil))
 (dSet 3 (eVar 4))))))
noncomputable def d_look_readings:FN:=runFn 3 9
 (dSeq (dIf (xVal (eOp2 opEq (eLen (eVar 1)) (eC (.int 0))))
 (dRaise 4)
 (dNil))
 (dSeq (dSetO 3 (eDic0 1))
 (dSeq (dSetO 4 (eLst (eNil)))
 (dSeq (dSet 5 (eC (.int 0)))
 (dSeq (dFor (jSeq (eVar 1)) (.t [6,7]) [6,7,8]
 (dSeq (dIf (xOr (xVal (eOp2 opEq (eVar 6) (eVar 0))) (xVal (eOp2 opIn (eVar 6) (eVar 4))))
 (dRaise 4)
 (dNil))
 (dSeq (dEx (eCall d_look_rows (eCons (eVar 7) (eCons (eVar 2) (eCons (eVar 3) (eNil))))))
 (dSeq (dIf (xVal (eOp2 opLe (eIdx (eVar 7) (eC (.int 0))) (eVar 5)))
 (dRaise 4)
 (dNil))
 (dSeq (dSet 5 (eIdx (eVar 7) (eC (.int 0))))
 (dSeq (dApp 4 (eVar 6))
 (dFor (jSeq (eVar 7)) (.v 8) [8]
 (dDPut 3 (eVar 8) (eVar 6)))))))))
 (dRetV 3))))))
noncomputable def d_column_back:FN:=runFn 3 4
 (dRet (eTuple (eLC [3] (jRange (eVar 1)) (.v 3) (xYes) (eDGet (eVar 2) (eVar 3) (eVar 0)))))
noncomputable def d_collation_back:FN:=runFn 3 8
 (dSeq (dSetO 3 (eLC [7] (jSeq (eVar 0)) (.v 7) (xYes) (eCall d_column_back (eCons (eVar 7) (eCons (eVar 1) (eCons (eDic0 1) (eNil)))))))
 (dSeq (dSet 4 (eOp1 opNeg (eC (.int 1))))
 (dSeq (dFor (jSeq (eVar 2)) (.t [5,6]) [5,6]
 (dSeq (dIf (xOr (xVal (eOp2 opLe (eVar 5) (eVar 4))) (xVal (eOp2 opGe (eVar 5) (eLen (eVar 0)))))
 (dRaise 4)
 (dNil))
 (dSeq (dSet 4 (eVar 5))
 (dSetIx 3 (eVar 5) (eCall d_column_back (eCons (eIdx (eVar 0) (eVar 5)) (eCons (eVar 1) (eCons (eCall d_look_readings (eCons (eIdx (eVar 0) (eVar 5)) (eCons (eVar 6) (eCons (eVar 1) (eNil))))) (eNil)))))))))
 (dRet (eTuple (eVar 3))))))
noncomputable def d_law_cell_at:FN:=runFn 2 2
 (dSeq (dIf (xVal (eOp2 opLt (eVar 1) (eLen (eVar 0))))
 (dRet (eIdx (eVar 0) (eVar 1)))
 (dNil))
 (dRet (eC (.int 0))))
noncomputable def d_law_draw:FN:=runFn 3 5
 (dSeq (dSet 3 (eC (.int 170141183460469231731687303715884105727)))
 (dSeq (dSet 4 (eOp2 opMod (eMul2 (eAdd (eMul2 (eVar 0) (eC (.int 2))) (eC (.int 1))) (eAdd (eMul2 (eMul2 (eVar 1) (eVar 1)) (eC (.int 9176023))) (eC (.int 84127918273645463728191)))) (eVar 3)))
 (dRet (eOp2 opMod (eOp2 opFdiv (eOp2 opMod (eMul2 (eVar 4) (eAdd (eVar 4) (eC (.int 5)))) (eVar 3)) (eC (.int 7))) (eVar 2)))))
noncomputable def d_law_word_by:FN:=runFn 2 4
 (dSeq (dSet 2 (eC (.str [])))
 (dSeq (dFor (jRange (eIdx (eLst (eCons (eC (.int 1)) (eCons (eC (.int 2)) (eCons (eC (.int 3)) (eCons (eC (.int 12)) (eNil)))))) (eCall d_law_draw (eCons (eVar 0) (eCons (eAdd (eMul2 (eC (.int 10)) (eVar 1)) (eC (.int 1))) (eCons (eC (.int 4)) (eNil))))))) (.v 3) [3]
 (dSet 2 (eAdd (eVar 2) (eIdx (eC (.str [97,98,99,100,101,102,103,104,105,106,107,108,109,110,111,112,113,114,115,116,117,118,119,120,121,122])) (eCall d_law_draw (eCons (eVar 0) (eCons (eAdd (eAdd (eC (.int 300)) (eMul2 (eC (.int 20)) (eVar 1))) (eVar 3)) (eCons (eC (.int 26)) (eNil)))))))))
 (dRetV 2)))
noncomputable def d_law_pool:FN:=runFn 1 5
 (dSeq (dSet 1 (eLC [4] (jRange (eC (.int 4))) (.v 4) (xYes) (eCall d_law_word_by (eCons (eVar 0) (eCons (eVar 4) (eNil))))))
 (dSeq (dSet 2 (eCall d_law_draw (eCons (eVar 0) (eCons (eC (.int 61)) (eCons (eLen (eIdx (eVar 1) (eC (.int 0)))) (eNil))))))
 (dSeq (dSet 3 (eIdx (eC (.str [97,98,99,100,101,102,103,104,105,106,107,108,109,110,111,112,113,114,115,116,117,118,119,120,121,122])) (eCall d_law_draw (eCons (eVar 0) (eCons (eC (.int 62)) (eCons (eC (.int 26)) (eNil)))))))
 (dRet (eAdd (eVar 1) (eLst (eCons (eAdd (eAdd (eSlice (eIdx (eVar 1) (eC (.int 0))) (oNone) (oSome (eVar 2))) (eVar 3)) (eSlice (eIdx (eVar 1) (eC (.int 0))) (oSome (eAdd (eVar 2) (eC (.int 1)))) (oNone))) (eNil))))))))
noncomputable def d_law_column_by:FN:=runFn 3 7
 (dSeq (dSet 3 (eAdd (eVar 1) (eLst (eCons (eC .non) (eNil)))))
 (dSeq (dSetO 4 (eLst (eCons (eIdx (eVar 3) (eCall d_law_draw (eCons (eVar 0) (eCons (eC (.int 1)) (eCons (eLen (eVar 3)) (eNil)))))) (eNil))))
 (dSeq (dFor (jRange2 (eC (.int 1)) (eVar 2)) (.v 5) [5,6]
 (dSeq (dSet 6 (eIdx (eVar 4) (eC (.int 0))))
 (dSeq (dIf (xVal (eOp2 opEq (eCall d_law_draw (eCons (eVar 0) (eCons (eAdd (eC (.int 20)) (eVar 5)) (eCons (eC (.int 3)) (eNil))))) (eC (.int 0))))
 (dSet 6 (eIdx (eVar 3) (eCall d_law_draw (eCons (eVar 0) (eCons (eAdd (eC (.int 60)) (eVar 5)) (eCons (eLen (eVar 3)) (eNil)))))))
 (dNil))
 (dApp 4 (eVar 6)))))
 (dRet (eTuple (eVar 4))))))
noncomputable def d_law_same_v1:Nat→FN
 | 0=>fun _=>.bad
 | n+1=>runFn 2 3 (
  dSeq (dIf (xVal (eIsI (eVar 1) "tuple"))
 (dSeq (dIf (xOr (xNot (xVal (eIsI (eVar 0) "tuple"))) (xVal (eOp2 opNe (eLen (eVar 0)) (eLen (eVar 1)))))
 (dRet (eC (.bl false)))
 (dNil))
 (dRet (eAll (eLC [2] (jRange (eLen (eVar 1))) (.v 2) (xYes) (eCall (d_law_same_v1 n) (eCons (eIdx (eVar 0) (eVar 2)) (eCons (eIdx (eVar 1) (eVar 2)) (eNil))))))))
 (dNil))
 (dSeq (dIf (xVal (eOp1 opIsN (eVar 1)))
 (dRet (eOp1 opIsN (eVar 0)))
 (dNil))
 (dSeq (dIf (xVal (eIsI (eVar 1) "str"))
 (dRet (eAnd (eIsI (eVar 0) "str") (eOp2 opEq (eVar 0) (eVar 1))))
 (dNil))
 (dRet (eAnd (eIsI (eVar 0) "int") (eAnd (eOp1 opNot (eIsI (eVar 0) "bool")) (eOp2 opEq (eVar 0) (eVar 1))))))))
noncomputable def d_law_readings_of:FN:=runFn 1 5
 (dSeq (dSetO 1 (eLst (eNil)))
 (dSeq (dFor (jSeq (eVar 0)) (.v 2) [2]
 (dIf (xAnd (xVal (eOp2 opNe (eVar 2) (eIdx (eVar 0) (eC (.int 0))))) (xVal (eOp2 opNotIn (eVar 2) (eVar 1))))
 (dApp 1 (eVar 2))
 (dNil)))
 (dSeq (dSetO 3 (eLst (eNil)))
 (dFrz 1 (dSeq (dFor (jSeq (eVar 1)) (.v 2) [2]
 (dApp 3 (eTup (eCons (eVar 2) (eCons (eTuple (eLC [4] (jRange (eLen (eVar 0))) (.v 4) (xVal (eOp2 opEq (eIdx (eVar 0) (eVar 4)) (eVar 2))) (eVar 4))) (eNil))))))
 (dRet (eTuple (eVar 3))))))))
noncomputable def d_law_notes_of:FN:=runFn 1 4
 (dSeq (dSetO 1 (eLst (eNil)))
 (dSeq (dFor (jRange (eLen (eVar 0))) (.v 2) [2,3]
 (dSeq (dSet 3 (eCall d_law_readings_of (eCons (eIdx (eVar 0) (eVar 2)) (eNil))))
 (dIf (xVal (eOp2 opNe (eVar 3) (eTup (eNil))))
 (dApp 1 (eTup (eCons (eVar 2) (eCons (eVar 3) (eNil)))))
 (dNil))))
 (dRet (eTuple (eVar 1)))))
noncomputable def d_law_other_rows:FN:=runFn 3 3
 (dSeq (dIf (xVal (eOp2 opEq (eVar 1) (eC (.int 7))))
 (dRet (eTupRev (eVar 0)))
 (dNil))
 (dSeq (dIf (xVal (eOp2 opEq (eVar 1) (eC (.int 8))))
 (dRet (eAdd (eTup (eCons (eC (.int 0)) (eNil))) (eVar 0)))
 (dNil))
 (dSeq (dIf (xVal (eOp2 opEq (eVar 1) (eC (.int 9))))
 (dRet (eAdd (eVar 0) (eTup (eCons (eAdd (eVar 2) (eOp2 opMod (eLen (eVar 0)) (eC (.int 3)))) (eNil)))))
 (dNil))
 (dSeq (dIf (xVal (eOp2 opEq (eVar 1) (eC (.int 10))))
 (dRet (eAdd (eSlice (eVar 0) (oNone) (oSome (eC (.int 1)))) (eVar 0)))
 (dNil))
 (dSeq (dIf (xVal (eOp2 opEq (eVar 1) (eC (.int 11))))
 (dRet (eTup (eNil)))
 (dNil))
 (dRet (eAdd (eTup (eCons (eOp2 opSub (eOp1 opNeg (eC (.int 1))) (eLen (eVar 0))) (eNil))) (eVar 0))))))))
noncomputable def d_law_other_readings:FN:=runFn 5 7
 (dSeq (dSet 5 (eIdx (eVar 1) (eVar 3)))
 (dSeq (dIf (xVal (eOp2 opEq (eVar 2) (eC (.int 4))))
 (dRet (eTup (eNil)))
 (dNil))
 (dSeq (dIf (xVal (eOp2 opEq (eVar 2) (eC (.int 5))))
 (dRet (eAdd (eAdd (eSlice (eVar 1) (oNone) (oSome (eVar 3))) (eTup (eCons (eTup (eCons (eVar 0) (eCons (eIdx (eVar 5) (eC (.int 1))) (eNil)))) (eNil)))) (eSlice (eVar 1) (oSome (eAdd (eVar 3) (eC (.int 1)))) (oNone))))
 (dNil))
 (dSeq (dIf (xVal (eOp2 opEq (eVar 2) (eC (.int 6))))
 (dRet (eAdd (eVar 1) (eTup (eCons (eTup (eCons (eIdx (eVar 5) (eC (.int 0))) (eCons (eTup (eCons (eOp2 opSub (eVar 4) (eC (.int 1))) (eNil))) (eNil)))) (eNil)))))
 (dNil))
 (dSeq (dIf (xVal (eOp2 opEq (eVar 2) (eC (.int 12))))
 (dSeq (dSet 6 (eTuple (eSortedT (eAdd (eIdx (eIdx (eVar 1) (eC (.int 0))) (eC (.int 1))) (eIdx (eIdx (eVar 1) (eOp1 opNeg (eC (.int 1)))) (eC (.int 1)))))))
 (dRet (eAdd (eSlice (eVar 1) (oNone) (oSome (eOp1 opNeg (eC (.int 1))))) (eTup (eCons (eTup (eCons (eIdx (eIdx (eVar 1) (eOp1 opNeg (eC (.int 1)))) (eC (.int 0))) (eCons (eVar 6) (eNil)))) (eNil))))))
 (dNil))
 (dSeq (dIf (xVal (eOp2 opEq (eVar 2) (eC (.int 13))))
 (dRet (eTupRev (eVar 1)))
 (dNil))
 (dRet (eAdd (eAdd (eSlice (eVar 1) (oNone) (oSome (eVar 3))) (eTup (eCons (eTup (eCons (eIdx (eVar 5) (eC (.int 0))) (eCons (eCall d_law_other_rows (eCons (eIdx (eVar 5) (eC (.int 1))) (eCons (eVar 2) (eCons (eVar 4) (eNil))))) (eNil)))) (eNil)))) (eSlice (eVar 1) (oSome (eAdd (eVar 3) (eC (.int 1)))) (oNone))))))))))
noncomputable def d_law_spoilt:FN:=runFn 3 10
 (dSeq (dSet 3 (eCall d_law_draw (eCons (eVar 2) (eCons (eC (.int 81)) (eCons (eC (.int 16)) (eNil))))))
 (dSeq (dSet 4 (eLen (eIdx (eVar 0) (eC (.int 0)))))
 (dSeq (dSet 5 (eCall d_law_draw (eCons (eVar 2) (eCons (eC (.int 82)) (eCons (eLen (eVar 1)) (eNil))))))
 (dSeq (dSet 6 (eIdx (eIdx (eVar 1) (eVar 5)) (eC (.int 0))))
 (dSeq (dSet 7 (eIdx (eIdx (eVar 1) (eVar 5)) (eC (.int 1))))
 (dSeq (dIf (xVal (eOp2 opLt (eVar 3) (eC (.int 2))))
 (dRet (eAdd (eVar 1) (eTup (eCons (eTup (eCons (eIdx (eLst (eCons (eLen (eVar 0)) (eCons (eOp2 opSub (eOp1 opNeg (eC (.int 1))) (eVar 6)) (eNil)))) (eVar 3)) (eCons (eVar 7) (eNil)))) (eNil)))))
 (dNil))
 (dSeq (dIf (xVal (eOp2 opEq (eVar 3) (eC (.int 2))))
 (dRet (eAdd (eAdd (eSlice (eVar 1) (oNone) (oSome (eVar 5))) (eSlice (eVar 1) (oSome (eVar 5)) (oSome (eAdd (eVar 5) (eC (.int 1)))))) (eSlice (eVar 1) (oSome (eVar 5)) (oNone))))
 (dNil))
 (dSeq (dIf (xVal (eOp2 opEq (eVar 3) (eC (.int 3))))
 (dRet (eTupRev (eVar 1)))
 (dNil))
 (dSeq (dIf (xVal (eOp2 opEq (eVar 3) (eC (.int 15))))
 (dRetV 1)
 (dNil))
 (dSeq (dSet 8 (eCall d_law_draw (eCons (eVar 2) (eCons (eC (.int 83)) (eCons (eLen (eVar 7)) (eNil))))))
 (dSeq (dSet 9 (eCall d_law_other_readings (eCons (eIdx (eIdx (eVar 0) (eVar 6)) (eC (.int 0))) (eCons (eVar 7) (eCons (eVar 3) (eCons (eVar 8) (eCons (eVar 4) (eNil))))))))
 (dRet (eAdd (eAdd (eSlice (eVar 1) (oNone) (oSome (eVar 5))) (eTup (eCons (eTup (eCons (eVar 6) (eCons (eVar 9) (eNil)))) (eNil)))) (eSlice (eVar 1) (oSome (eAdd (eVar 5) (eC (.int 1)))) (oNone)))))))))))))))
noncomputable def d_law_kind_of:FN:=runFn 1 1
 (dSeq (dIf (xVal (eIsEs [[(4,false)],[(4,false)],[(4,false)],[(4,false)],[(4,false)],[(4,false)],[(4,false)]] (eVar 0)))
 (dRet (eC (.str [97,110,111,116,104,101,114])))
 (dNil))
 (dSeq (dIf (xAnd (xVal (eIsE [(4,true)] (eVar 0))) (xVal (eIsE [(4,true)] (eVar 0))))
 (dRet (eC (.str [114,101,102,117,115,101,100])))
 (dNil))
 (dRet (eC (.str [111,100,100])))))
noncomputable def d_law_asked:FN:=runFn 3 6
 (dSeq (dSet 3 (eC .non))
 (dSeq (dSet 4 (eC .non))
 (dSeq (dTryT [(4,true)] 5 (dSet 4 (eCall d_collation_back (eCons (eVar 0) (eCons (eVar 1) (eCons (eVar 2) (eNil))))))
 (dSet 3 (eVar 5)))
 (dSeq (dIf (xVal (eOp1 opIsN (eVar 3)))
 (dRet (eTup (eCons (eC (.str [116,111,108,100])) (eCons (eVar 4) (eNil)))))
 (dNil))
 (dRet (eTup (eCons (eCall d_law_kind_of (eCons (eVar 3) (eNil))) (eCons (eC .non) (eNil)))))))))
noncomputable def d_law_v65:FN:=runFn 1 12
 (dSeq (dSet 1 (eCall d_law_cell_at (eCons (eVar 0) (eCons (eC (.int 0)) (eNil)))))
 (dSeq (dSet 2 (eCall d_law_pool (eCons (eVar 1) (eNil))))
 (dSeq (dSet 3 (eAdd (eC (.int 2)) (eCall d_law_draw (eCons (eVar 1) (eCons (eC (.int 71)) (eCons (eIdx (eLst (eCons (eC (.int 5)) (eCons (eC (.int 29)) (eNil)))) (eCall d_law_draw (eCons (eVar 1) (eCons (eC (.int 72)) (eCons (eC (.int 2)) (eNil)))))) (eNil)))))))
 (dSeq (dSetO 4 (eLst (eCons (eAdd (eTup (eCons (eC .non) (eNil))) (eMul2 (eTup (eCons (eC (.str [97])) (eNil))) (eOp2 opSub (eVar 3) (eC (.int 1))))) (eNil))))
 (dSeq (dFor (jSeq (eSlice (eVar 0) (oSome (eC (.int 1))) (oSome (eC (.int 21))))) (.v 5) [5]
 (dApp 4 (eCall d_law_column_by (eCons (eVar 5) (eCons (eVar 2) (eCons (eVar 3) (eNil)))))))
 (dSeq (dSet 4 (eTuple (eAdd (eSlice (eVar 4) (oSome (eC (.int 1))) (oNone)) (eSlice (eVar 4) (oNone) (oSome (eC (.int 1)))))))
 (dSeq (dSet 6 (eTuple (eLC [11] (jSeq (eVar 4)) (.v 11) (xYes) (eIdx (eVar 11) (eC (.int 0))))))
 (dSeq (dSet 7 (eCall d_law_notes_of (eCons (eVar 4) (eNil))))
 (dSeq (dFor (jSeq (eAdd (eLst (eCons (eVar 1) (eNil))) (eSlice (eVar 0) (oSome (eC (.int 21))) (oSome (eC (.int 61)))))) (.v 5) [5,8,9]
 (dSeq (dSet 8 (eCall d_law_spoilt (eCons (eVar 4) (eCons (eVar 7) (eCons (eVar 5) (eNil))))))
 (dSeq (dSet 9 (eCall d_law_asked (eCons (eVar 6) (eCons (eVar 3) (eCons (eVar 8) (eNil))))))
 (dSeq (dIf (xAnd (xVal (eOp2 opNe (eVar 8) (eVar 7))) (xVal (eOp2 opNe (eVar 9) (eTup (eCons (eC (.str [114,101,102,117,115,101,100])) (eCons (eC .non) (eNil)))))))
 (dRet (eC (.bl false)))
 (dNil))
 (dSeq (dSet 9 (eCall d_law_asked (eCons (eVar 6) (eCons (eVar 3) (eCons (eVar 7) (eNil))))))
 (dIf (xOr (xVal (eOp2 opNe (eIdx (eVar 9) (eC (.int 0))) (eC (.str [116,111,108,100])))) (xNot (xVal (eCall (d_law_same_v1 8) (eCons (eIdx (eVar 9) (eC (.int 1))) (eCons (eVar 4) (eNil)))))))
 (dRet (eC (.bl false)))
 (dNil)))))))
 (dSeq (dSet 10 (eTup (eCons (eTup (eCons (eC (.int 0)) (eCons (eTup (eCons (eTup (eCons (eC (.str [97])) (eCons (eTup (eCons (eC (.int 1)) (eNil))) (eNil)))) (eNil))) (eNil)))) (eNil))))
 (dSeq (dIf (xVal (eOp2 opNe (eCall d_law_asked (eCons (eTup (eNil)) (eCons (eVar 3) (eCons (eVar 10) (eNil))))) (eTup (eCons (eC (.str [114,101,102,117,115,101,100])) (eCons (eC .non) (eNil))))))
 (dRet (eC (.bl false)))
 (dNil))
 (dRet (eOp2 opEq (eCall d_law_asked (eCons (eTup (eCons (eC .non) (eNil))) (eCons (eC (.int 1)) (eCons (eVar 10) (eNil))))) (eTup (eCons (eC (.str [114,101,102,117,115,101,100])) (eCons (eC .non) (eNil)))))))))))))))))
end Vm
end
section
set_option Elab.async false
set_option linter.all false
set_option maxRecDepth 100000
set_option maxHeartbeats 4000000
namespace VP
open PySem PySem.Spec PyProof.Rows L2 Vm Vl
def topS (i : Nat) : Stmt := PySem.Challenge.pw_vellum_k29_notes_refused.main.body.getD i (.Pass ⟨0, 0, 0, 0⟩)
abbrev s_look_rows:Stmt:=topS 11
theorem sc_look_rows:FnScope ["rows","many","taken","last","row"] ["rows","many","taken"] (defScope s_look_rows):=⟨rfl,rfl,rfl,by decide +kernel,rfl,by decide +kernel,by decide +kernel⟩
theorem ok_look_rows {C:Cn} {ad:Addr} {fd:FuncData} (F:Fun C.K "look_rows" "look_rows" s_look_rows ad fd) (hm:C.mg "look_rows" = some (.ref ad)) (hb:Binds C.K fd ["rows","many","taken"] []) (z_len:C.mg "len" = none) (x_NoNotes:Xc C 4):Cal C "look_rows" 3 1 d_look_rows :=
 fn_ok F sc_look_rows rfl rfl hm hb
 (ds_cons (ds_if (dt_c (dc_eq (de_len (de_var 0) z_len) (de_int)))
 (ds_one (ds_raise (i:=4) x_NoNotes))
 (ds_nil))
 (ds_cons (ds_set 3 (de_int))
 (ds_one (ds_for [4] (di_seq (de_var 0)) (dg_v 4)
 (ds_cons (ds_if (dt_chain (dw_or (dt_c (dc_le (de_var 4) (de_var 3))) (dw_or (dt_c (dc_ge (de_var 4) (de_var 1))) (dw_or1 (dt_c (dc_din (de_var 4) (de_var 2)))))))
 (ds_one (ds_raise (i:=4) x_NoNotes))
 (ds_nil))
 (ds_one (ds_set 3 (de_var 4))))))))
abbrev s_look_readings:Stmt:=topS 12
theorem sc_look_readings:FnScope ["base","readings","many","taken","seen","first","entry","rows","row"] ["base","readings","many"] (defScope s_look_readings):=⟨rfl,rfl,rfl,by decide +kernel,rfl,by decide +kernel,by decide +kernel⟩
theorem ok_look_readings {C:Cn} {ad:Addr} {fd:FuncData} (F:Fun C.K "look_readings" "look_readings" s_look_readings ad fd) (hm:C.mg "look_readings" = some (.ref ad)) (hb:Binds C.K fd ["base","readings","many"] []) (z_len:C.mg "len" = none) (x_NoNotes:Xc C 4) (c_look_rows:Cal C "look_rows" 3 1 d_look_rows):Cal C "look_readings" 3 2 d_look_readings :=
 fn_ok F sc_look_readings rfl rfl hm hb
 (ds_cons (ds_if (dt_c (dc_eq (de_len (de_var 1) z_len) (de_int)))
 (ds_one (ds_raise (i:=4) x_NoNotes))
 (ds_nil))
 (ds_cons (ds_setO 3 (de_dic0 0))
 (ds_cons (ds_setO 4 (de_lst (da_nil)))
 (ds_cons (ds_set 5 (de_int))
 (ds_cons (ds_for [6,7,8] (di_seq (de_var 1)) (dg_t (dgs_cons (dg_v 6) (dgs_cons (dg_v 7) (dgs_nil))))
 (ds_cons (ds_if (dt_chain (dw_or (dt_c (dc_eq (de_var 6) (de_var 0))) (dw_or1 (dt_c (dc_in (de_var 6) (de_var 4))))))
 (ds_one (ds_raise (i:=4) x_NoNotes))
 (ds_nil))
 (ds_cons (ds_ex (de_call c_look_rows (da_cons (de_var 7) (da_cons (de_var 2) (da_cons (de_var 3) (da_nil)))) (hAs:=al_cons (al_cons (al_cons al_nil)))))
 (ds_cons (ds_if (dt_c (dc_le (de_idx (de_var 7) (de_int)) (de_var 5)))
 (ds_one (ds_raise (i:=4) x_NoNotes))
 (ds_nil))
 (ds_cons (ds_set 5 (de_idx (de_var 7) (de_int)))
 (ds_cons (ds_app 4 (de_var 6))
 (ds_one (ds_for [8] (di_seq (de_var 7)) (dg_v 8)
 (ds_one (ds_dput 3 (de_var 8) (de_var 6)))))))))))
 (ds_one (ds_retV 3)))))))
abbrev s_column_back:Stmt:=topS 13
theorem sc_column_back:FnScope ["base","many","taken","row"] ["base","many","taken"] (defScope s_column_back):=⟨rfl,rfl,rfl,by decide +kernel,rfl,by decide +kernel,by decide +kernel⟩
theorem ok_column_back {C:Cn} {ad:Addr} {fd:FuncData} (F:Fun C.K "column_back" "column_back" s_column_back ad fd) (hm:C.mg "column_back" = some (.ref ad)) (hb:Binds C.K fd ["base","many","taken"] []) (z_tuple:C.mg "tuple" = none) (z_range:C.mg "range" = none):Cal C "column_back" 3 1 d_column_back :=
 fn_ok F sc_column_back rfl rfl hm hb
 (ds_one (ds_ret (de_tuple (de_lc (own:=[("row",3)]) (di_range (de_var 1) z_range) (by decide +kernel) (dg_v 3) (df_nil) (de_dget (de_var 2) (de_var 3) (de_var 0))) z_tuple)))
abbrev s_collation_back:Stmt:=topS 14
theorem sc_collation_back:FnScope ["entries","many","notes","columns","last","number","readings","entry"] ["entries","many","notes"] (defScope s_collation_back):=⟨rfl,rfl,rfl,by decide +kernel,rfl,by decide +kernel,by decide +kernel⟩
theorem ok_collation_back {C:Cn} {ad:Addr} {fd:FuncData} (F:Fun C.K "collation_back" "collation_back" s_collation_back ad fd) (hm:C.mg "collation_back" = some (.ref ad)) (hb:Binds C.K fd ["entries","many","notes"] []) (z_len:C.mg "len" = none) (z_tuple:C.mg "tuple" = none) (x_NoNotes:Xc C 4) (c_column_back:Cal C "column_back" 3 1 d_column_back) (c_look_readings:Cal C "look_readings" 3 2 d_look_readings):Cal C "collation_back" 3 3 d_collation_back :=
 fn_ok F sc_collation_back rfl rfl hm hb
 (ds_cons (ds_setLC 3 true (own:=[("entry",7)]) (di_seq (de_var 0)) (by decide +kernel) (dg_v 7) (df_nil) (de_call c_column_back (da_cons (de_var 7) (da_cons (de_var 1) (da_cons (de_dic0 0) (da_nil)))) (hAs:=al_cons (al_cons (al_cons al_nil)))))
 (ds_cons (ds_set 4 (de_neg (de_int)))
 (ds_cons (ds_for [5,6] (di_seq (de_var 2)) (dg_t (dgs_cons (dg_v 5) (dgs_cons (dg_v 6) (dgs_nil))))
 (ds_cons (ds_if (dt_chain (dw_or (dt_c (dc_le (de_var 5) (de_var 4))) (dw_or1 (dt_c (dc_ge (de_var 5) (de_len (de_var 0) z_len))))))
 (ds_one (ds_raise (i:=4) x_NoNotes))
 (ds_nil))
 (ds_cons (ds_set 4 (de_var 5))
 (ds_one (ds_setIx 3 (de_var 5) (de_call c_column_back (da_cons (de_idx (de_var 0) (de_var 5)) (da_cons (de_var 1) (da_cons (de_call c_look_readings (da_cons (de_idx (de_var 0) (de_var 5)) (da_cons (de_var 6) (da_cons (de_var 1) (da_nil)))) (hAs:=al_cons (al_cons (al_cons al_nil)))) (da_nil)))) (hAs:=al_cons (al_cons (al_cons al_nil)))))))))
 (ds_one (ds_ret (de_tuple (de_var 3) z_tuple))))))
abbrev s__law_cell_at:Stmt:=topS 16
theorem sc__law_cell_at:FnScope ["script","k"] ["script","k"] (defScope s__law_cell_at):=⟨rfl,rfl,rfl,by decide +kernel,rfl,by decide +kernel,by decide +kernel⟩
theorem ok__law_cell_at {C:Cn} {ad:Addr} {fd:FuncData} (F:Fun C.K "_law_cell_at" "_law_cell_at" s__law_cell_at ad fd) (hm:C.mg "_law_cell_at" = some (.ref ad)) (hb:Binds C.K fd ["script","k"] []) (z_len:C.mg "len" = none):Cal C "_law_cell_at" 2 1 d_law_cell_at :=
 fn_ok F sc__law_cell_at rfl rfl hm hb
 (ds_cons (ds_if (dt_c (dc_lt (de_var 1) (de_len (de_var 0) z_len)))
 (ds_one (ds_ret (de_idx (de_var 0) (de_var 1))))
 (ds_nil))
 (ds_one (ds_ret (de_int))))
abbrev s__law_draw:Stmt:=topS 17
theorem sc__law_draw:FnScope ["cell","k","many","prime","mixed"] ["cell","k","many"] (defScope s__law_draw):=⟨rfl,rfl,rfl,by decide +kernel,rfl,by decide +kernel,by decide +kernel⟩
theorem ok__law_draw {C:Cn} {ad:Addr} {fd:FuncData} (F:Fun C.K "_law_draw" "_law_draw" s__law_draw ad fd) (hm:C.mg "_law_draw" = some (.ref ad)) (hb:Binds C.K fd ["cell","k","many"] []):Cal C "_law_draw" 3 1 d_law_draw :=
 fn_ok F sc__law_draw rfl rfl hm hb
 (ds_cons (ds_set 3 (de_int))
 (ds_cons (ds_set 4 (de_mod (de_mul2 (de_add (de_mul2 (de_var 0) (de_int)) (de_int)) (de_add (de_mul2 (de_mul2 (de_var 1) (de_var 1)) (de_int)) (de_int))) (de_var 3)))
 (ds_one (ds_ret (de_mod (de_fdiv (de_mod (de_mul2 (de_var 4) (de_add (de_var 4) (de_int))) (de_var 3)) (de_int)) (de_var 2))))))
abbrev s__law_word_by:Stmt:=topS 18
theorem sc__law_word_by:FnScope ["cell","k","word","j"] ["cell","k"] (defScope s__law_word_by):=⟨rfl,rfl,rfl,by decide +kernel,rfl,by decide +kernel,by decide +kernel⟩
theorem ok__law_word_by {C:Cn} {ad:Addr} {fd:FuncData} (F:Fun C.K "_law_word_by" "_law_word_by" s__law_word_by ad fd) (hm:C.mg "_law_word_by" = some (.ref ad)) (hb:Binds C.K fd ["cell","k"] []) (z_range:C.mg "range" = none) (c__law_draw:Cal C "_law_draw" 3 1 d_law_draw):Cal C "_law_word_by" 2 2 d_law_word_by :=
 fn_ok F sc__law_word_by rfl rfl hm hb
 (ds_cons (ds_set 2 (de_str []))
 (ds_cons (ds_for [3] (di_range (de_idx (de_lst (da_cons (de_int) (da_cons (de_int) (da_cons (de_int) (da_cons (de_int) (da_nil)))))) (de_call c__law_draw (da_cons (de_var 0) (da_cons (de_add (de_mul2 (de_int) (de_var 1)) (de_int)) (da_cons (de_int) (da_nil)))) (hAs:=al_cons (al_cons (al_cons al_nil))))) z_range) (dg_v 3)
 (ds_one (ds_set 2 (de_add (de_var 2) (de_idx (de_str [97,98,99,100,101,102,103,104,105,106,107,108,109,110,111,112,113,114,115,116,117,118,119,120,121,122]) (de_call c__law_draw (da_cons (de_var 0) (da_cons (de_add (de_add (de_int) (de_mul2 (de_int) (de_var 1))) (de_var 3)) (da_cons (de_int) (da_nil)))) (hAs:=al_cons (al_cons (al_cons al_nil)))))))))
 (ds_one (ds_retV 2))))
abbrev s__law_pool:Stmt:=topS 19
theorem sc__law_pool:FnScope ["cell","pool","at","letter","k"] ["cell"] (defScope s__law_pool):=⟨rfl,rfl,rfl,by decide +kernel,rfl,by decide +kernel,by decide +kernel⟩
theorem ok__law_pool {C:Cn} {ad:Addr} {fd:FuncData} (F:Fun C.K "_law_pool" "_law_pool" s__law_pool ad fd) (hm:C.mg "_law_pool" = some (.ref ad)) (hb:Binds C.K fd ["cell"] []) (z_range:C.mg "range" = none) (z_len:C.mg "len" = none) (c__law_word_by:Cal C "_law_word_by" 2 2 d_law_word_by) (c__law_draw:Cal C "_law_draw" 3 1 d_law_draw):Cal C "_law_pool" 1 3 d_law_pool :=
 fn_ok F sc__law_pool rfl rfl hm hb
 (ds_cons (ds_setLC 1 false (own:=[("k",4)]) (di_range (de_int) z_range) (by decide +kernel) (dg_v 4) (df_nil) (de_call c__law_word_by (da_cons (de_var 0) (da_cons (de_var 4) (da_nil))) (hAs:=al_cons (al_cons al_nil))))
 (ds_cons (ds_set 2 (de_call c__law_draw (da_cons (de_var 0) (da_cons (de_int) (da_cons (de_len (de_idx (de_var 1) (de_int)) z_len) (da_nil)))) (hAs:=al_cons (al_cons (al_cons al_nil)))))
 (ds_cons (ds_set 3 (de_idx (de_str [97,98,99,100,101,102,103,104,105,106,107,108,109,110,111,112,113,114,115,116,117,118,119,120,121,122]) (de_call c__law_draw (da_cons (de_var 0) (da_cons (de_int) (da_cons (de_int) (da_nil)))) (hAs:=al_cons (al_cons (al_cons al_nil))))))
 (ds_one (ds_ret (de_add (de_var 1) (de_lst (da_cons (de_add (de_add (de_slice (de_idx (de_var 1) (de_int)) (do_none) (do_some (de_var 2))) (de_var 3)) (de_slice (de_idx (de_var 1) (de_int)) (do_some (de_add (de_var 2) (de_int))) (do_none))) (da_nil)))))))))
abbrev s__law_column_by:Stmt:=topS 20
theorem sc__law_column_by:FnScope ["cell","pool","many","some","column","k","entry"] ["cell","pool","many"] (defScope s__law_column_by):=⟨rfl,rfl,rfl,by decide +kernel,rfl,by decide +kernel,by decide +kernel⟩
theorem ok__law_column_by {C:Cn} {ad:Addr} {fd:FuncData} (F:Fun C.K "_law_column_by" "_law_column_by" s__law_column_by ad fd) (hm:C.mg "_law_column_by" = some (.ref ad)) (hb:Binds C.K fd ["cell","pool","many"] []) (z_len:C.mg "len" = none) (z_range:C.mg "range" = none) (z_tuple:C.mg "tuple" = none) (c__law_draw:Cal C "_law_draw" 3 1 d_law_draw):Cal C "_law_column_by" 3 2 d_law_column_by :=
 fn_ok F sc__law_column_by rfl rfl hm hb
 (ds_cons (ds_set 3 (de_add (de_var 1) (de_lst (da_cons (de_non) (da_nil)))))
 (ds_cons (ds_setO 4 (de_lst (da_cons (de_idx (de_var 3) (de_call c__law_draw (da_cons (de_var 0) (da_cons (de_int) (da_cons (de_len (de_var 3) z_len) (da_nil)))) (hAs:=al_cons (al_cons (al_cons al_nil))))) (da_nil))))
 (ds_cons (ds_for [5,6] (di_range2 (de_int) (de_var 2) z_range) (dg_v 5)
 (ds_cons (ds_set 6 (de_idx (de_var 4) (de_int)))
 (ds_cons (ds_if (dt_c (dc_eq (de_call c__law_draw (da_cons (de_var 0) (da_cons (de_add (de_int) (de_var 5)) (da_cons (de_int) (da_nil)))) (hAs:=al_cons (al_cons (al_cons al_nil)))) (de_int)))
 (ds_one (ds_set 6 (de_idx (de_var 3) (de_call c__law_draw (da_cons (de_var 0) (da_cons (de_add (de_int) (de_var 5)) (da_cons (de_len (de_var 3) z_len) (da_nil)))) (hAs:=al_cons (al_cons (al_cons al_nil)))))))
 (ds_nil))
 (ds_one (ds_app 4 (de_var 6))))))
 (ds_one (ds_ret (de_tuple (de_var 4) z_tuple))))))
abbrev s__law_same:Stmt:=topS 21
theorem sc__law_same:FnScope ["found","due","k"] ["found","due"] (defScope s__law_same):=⟨rfl,rfl,rfl,by decide +kernel,rfl,by decide +kernel,by decide +kernel⟩
theorem ok__law_same {C:Cn} {ad:Addr} {fd:FuncData} (F:Fun C.K "_law_same" "_law_same" s__law_same ad fd) (hm:C.mg "_law_same" = some (.ref ad)) (hb:Binds C.K fd ["found","due"] []) (z_isinstance:C.mg "isinstance" = none) (z_tuple:C.mg "tuple" = none) (z_len:C.mg "len" = none) (z_all:C.mg "all" = none) (z_range:C.mg "range" = none) (z_str:C.mg "str" = none) (z_int:C.mg "int" = none) (z_bool:C.mg "bool" = none):∀ n,Cal C "_law_same" 2 (n+1) (d_law_same_v1 n)
 | 0=>cal_bad F sc__law_same rfl hm hb
 | n+1=>by
  have c_rec:=ok__law_same F hm hb z_isinstance z_tuple z_len z_all z_range z_str z_int z_bool n
  exact fn_ok F sc__law_same rfl rfl hm hb (
   ds_cons (ds_if (dt_val (de_isI (de_var 1) "tuple" z_isinstance z_tuple))
 (ds_cons (ds_if (dt_chain (dw_or (dt_not (dt_val (de_isI (de_var 0) "tuple" z_isinstance z_tuple))) (dw_or1 (dt_c (dc_ne (de_len (de_var 0) z_len) (de_len (de_var 1) z_len))))))
 (ds_one (ds_ret (de_bl)))
 (ds_nil))
 (ds_one (ds_ret (de_all (de_lc (own:=[("k",2)]) (di_range (de_len (de_var 1) z_len) z_range) (by decide +kernel) (dg_v 2) (df_nil) (de_call c_rec (da_cons (de_idx (de_var 0) (de_var 2)) (da_cons (de_idx (de_var 1) (de_var 2)) (da_nil))) (hAs:=al_cons (al_cons al_nil)) (hj:=by omega))) z_all))))
 (ds_nil))
 (ds_cons (ds_if (dt_c (dc_isN (de_var 1)))
 (ds_one (ds_ret (de_c (dc_isN (de_var 0)))))
 (ds_nil))
 (ds_cons (ds_if (dt_val (de_isI (de_var 1) "str" z_isinstance z_str))
 (ds_one (ds_ret (de_and (de_isI (de_var 0) "str" z_isinstance z_str) (de_one (de_c (dc_eq (de_var 0) (de_var 1)))))))
 (ds_nil))
 (ds_one (ds_ret (de_and (de_isI (de_var 0) "int" z_isinstance z_int) (de_and (de_not (de_isI (de_var 0) "bool" z_isinstance z_bool)) (de_one (de_c (dc_eq (de_var 0) (de_var 1)))))))))))
abbrev s__law_readings_of:Stmt:=topS 22
theorem sc__law_readings_of:FnScope ["column","entries","entry","found","row"] ["column"] (defScope s__law_readings_of):=⟨rfl,rfl,rfl,by decide +kernel,rfl,by decide +kernel,by decide +kernel⟩
theorem ok__law_readings_of {C:Cn} {ad:Addr} {fd:FuncData} (F:Fun C.K "_law_readings_of" "_law_readings_of" s__law_readings_of ad fd) (hm:C.mg "_law_readings_of" = some (.ref ad)) (hb:Binds C.K fd ["column"] []) (z_tuple:C.mg "tuple" = none) (z_len:C.mg "len" = none) (z_range:C.mg "range" = none):Cal C "_law_readings_of" 1 1 d_law_readings_of :=
 fn_ok F sc__law_readings_of rfl rfl hm hb
 (ds_cons (ds_setO 1 (de_lst (da_nil)))
 (ds_cons (ds_for [2] (di_seq (de_var 0)) (dg_v 2)
 (ds_one (ds_if (dt_chain (dw_and (dt_c (dc_ne (de_var 2) (de_idx (de_var 0) (de_int)))) (dw_and1 (dt_c (dc_notIn (de_var 2) (de_var 1))))))
 (ds_one (ds_app 1 (de_var 2)))
 (ds_nil))))
 (ds_cons (ds_setO 3 (de_lst (da_nil)))
 (ds_frz 1 (ds_cons (ds_for [2] (di_seq (de_var 1)) (dg_v 2)
 (ds_one (ds_app 3 (de_tup (da_cons (de_var 2) (da_cons (de_tuple (de_lc (own:=[("row",4)]) (di_range (de_len (de_var 0) z_len) z_range) (by decide +kernel) (dg_v 4) (df_one (dt_c (dc_eq (de_idx (de_var 0) (de_var 4)) (de_var 2)))) (de_var 4)) z_tuple) (da_nil)))))))
 (ds_one (ds_ret (de_tuple (de_var 3) z_tuple))))))))
abbrev s__law_notes_of:Stmt:=topS 23
theorem sc__law_notes_of:FnScope ["columns","found","number","readings"] ["columns"] (defScope s__law_notes_of):=⟨rfl,rfl,rfl,by decide +kernel,rfl,by decide +kernel,by decide +kernel⟩
theorem ok__law_notes_of {C:Cn} {ad:Addr} {fd:FuncData} (F:Fun C.K "_law_notes_of" "_law_notes_of" s__law_notes_of ad fd) (hm:C.mg "_law_notes_of" = some (.ref ad)) (hb:Binds C.K fd ["columns"] []) (z_len:C.mg "len" = none) (z_range:C.mg "range" = none) (z_tuple:C.mg "tuple" = none) (c__law_readings_of:Cal C "_law_readings_of" 1 1 d_law_readings_of):Cal C "_law_notes_of" 1 2 d_law_notes_of :=
 fn_ok F sc__law_notes_of rfl rfl hm hb
 (ds_cons (ds_setO 1 (de_lst (da_nil)))
 (ds_cons (ds_for [2,3] (di_range (de_len (de_var 0) z_len) z_range) (dg_v 2)
 (ds_cons (ds_set 3 (de_call c__law_readings_of (da_cons (de_idx (de_var 0) (de_var 2)) (da_nil)) (hAs:=al_cons al_nil)))
 (ds_one (ds_if (dt_c (dc_ne (de_var 3) (de_tup (da_nil))))
 (ds_one (ds_app 1 (de_tup (da_cons (de_var 2) (da_cons (de_var 3) (da_nil))))))
 (ds_nil)))))
 (ds_one (ds_ret (de_tuple (de_var 1) z_tuple)))))
abbrev s__law_other_rows:Stmt:=topS 24
theorem sc__law_other_rows:FnScope ["rows","way","many"] ["rows","way","many"] (defScope s__law_other_rows):=⟨rfl,rfl,rfl,by decide +kernel,rfl,by decide +kernel,by decide +kernel⟩
theorem ok__law_other_rows {C:Cn} {ad:Addr} {fd:FuncData} (F:Fun C.K "_law_other_rows" "_law_other_rows" s__law_other_rows ad fd) (hm:C.mg "_law_other_rows" = some (.ref ad)) (hb:Binds C.K fd ["rows","way","many"] []) (z_tuple:C.mg "tuple" = none) (z_reversed:C.mg "reversed" = none) (z_len:C.mg "len" = none):Cal C "_law_other_rows" 3 1 d_law_other_rows :=
 fn_ok F sc__law_other_rows rfl rfl hm hb
 (ds_cons (ds_if (dt_c (dc_eq (de_var 1) (de_int)))
 (ds_one (ds_ret (de_tupRev rfl (de_var 0) z_tuple z_reversed)))
 (ds_nil))
 (ds_cons (ds_if (dt_c (dc_eq (de_var 1) (de_int)))
 (ds_one (ds_ret (de_add (de_tup (da_cons (de_int) (da_nil))) (de_var 0))))
 (ds_nil))
 (ds_cons (ds_if (dt_c (dc_eq (de_var 1) (de_int)))
 (ds_one (ds_ret (de_add (de_var 0) (de_tup (da_cons (de_add (de_var 2) (de_mod (de_len (de_var 0) z_len) (de_int))) (da_nil))))))
 (ds_nil))
 (ds_cons (ds_if (dt_c (dc_eq (de_var 1) (de_int)))
 (ds_one (ds_ret (de_add (de_slice (de_var 0) (do_none) (do_some (de_int))) (de_var 0))))
 (ds_nil))
 (ds_cons (ds_if (dt_c (dc_eq (de_var 1) (de_int)))
 (ds_one (ds_ret (de_tup (da_nil))))
 (ds_nil))
 (ds_one (ds_ret (de_add (de_tup (da_cons (de_sub (de_neg (de_int)) (de_len (de_var 0) z_len)) (da_nil))) (de_var 0)))))))))
abbrev s__law_other_readings:Stmt:=topS 25
theorem sc__law_other_readings:FnScope ["base","readings","way","at","many","one","rows"] ["base","readings","way","at","many"] (defScope s__law_other_readings):=⟨rfl,rfl,rfl,by decide +kernel,rfl,by decide +kernel,by decide +kernel⟩
theorem ok__law_other_readings {C:Cn} {ad:Addr} {fd:FuncData} (F:Fun C.K "_law_other_readings" "_law_other_readings" s__law_other_readings ad fd) (hm:C.mg "_law_other_readings" = some (.ref ad)) (hb:Binds C.K fd ["base","readings","way","at","many"] []) (z_tuple:C.mg "tuple" = none) (z_sorted:C.mg "sorted" = none) (z_reversed:C.mg "reversed" = none) (c__law_other_rows:Cal C "_law_other_rows" 3 1 d_law_other_rows):Cal C "_law_other_readings" 5 2 d_law_other_readings :=
 fn_ok F sc__law_other_readings rfl rfl hm hb
 (ds_cons (ds_set 5 (de_idx (de_var 1) (de_var 3)))
 (ds_cons (ds_if (dt_c (dc_eq (de_var 2) (de_int)))
 (ds_one (ds_ret (de_tup (da_nil))))
 (ds_nil))
 (ds_cons (ds_if (dt_c (dc_eq (de_var 2) (de_int)))
 (ds_one (ds_ret (de_add (de_add (de_slice (de_var 1) (do_none) (do_some (de_var 3))) (de_tup (da_cons (de_tup (da_cons (de_var 0) (da_cons (de_idx (de_var 5) (de_int)) (da_nil)))) (da_nil)))) (de_slice (de_var 1) (do_some (de_add (de_var 3) (de_int))) (do_none)))))
 (ds_nil))
 (ds_cons (ds_if (dt_c (dc_eq (de_var 2) (de_int)))
 (ds_one (ds_ret (de_add (de_var 1) (de_tup (da_cons (de_tup (da_cons (de_idx (de_var 5) (de_int)) (da_cons (de_tup (da_cons (de_sub (de_var 4) (de_int)) (da_nil))) (da_nil)))) (da_nil))))))
 (ds_nil))
 (ds_cons (ds_if (dt_c (dc_eq (de_var 2) (de_int)))
 (ds_cons (ds_set 6 (de_tuple (de_sortedT (de_add (de_idx (de_idx (de_var 1) (de_int)) (de_int)) (de_idx (de_idx (de_var 1) (de_neg (de_int))) (de_int))) z_sorted) z_tuple))
 (ds_one (ds_ret (de_add (de_slice (de_var 1) (do_none) (do_some (de_neg (de_int)))) (de_tup (da_cons (de_tup (da_cons (de_idx (de_idx (de_var 1) (de_neg (de_int))) (de_int)) (da_cons (de_var 6) (da_nil)))) (da_nil)))))))
 (ds_nil))
 (ds_cons (ds_if (dt_c (dc_eq (de_var 2) (de_int)))
 (ds_one (ds_ret (de_tupRev rfl (de_var 1) z_tuple z_reversed)))
 (ds_nil))
 (ds_one (ds_ret (de_add (de_add (de_slice (de_var 1) (do_none) (do_some (de_var 3))) (de_tup (da_cons (de_tup (da_cons (de_idx (de_var 5) (de_int)) (da_cons (de_call c__law_other_rows (da_cons (de_idx (de_var 5) (de_int)) (da_cons (de_var 2) (da_cons (de_var 4) (da_nil)))) (hAs:=al_cons (al_cons (al_cons al_nil)))) (da_nil)))) (da_nil)))) (de_slice (de_var 1) (do_some (de_add (de_var 3) (de_int))) (do_none)))))))))))
abbrev s__law_spoilt:Stmt:=topS 26
theorem sc__law_spoilt:FnScope ["columns","notes","cell","way","many","at","number","readings","which","other"] ["columns","notes","cell"] (defScope s__law_spoilt):=⟨rfl,rfl,rfl,by decide +kernel,rfl,by decide +kernel,by decide +kernel⟩
theorem ok__law_spoilt {C:Cn} {ad:Addr} {fd:FuncData} (F:Fun C.K "_law_spoilt" "_law_spoilt" s__law_spoilt ad fd) (hm:C.mg "_law_spoilt" = some (.ref ad)) (hb:Binds C.K fd ["columns","notes","cell"] []) (z_len:C.mg "len" = none) (z_tuple:C.mg "tuple" = none) (z_reversed:C.mg "reversed" = none) (c__law_draw:Cal C "_law_draw" 3 1 d_law_draw) (c__law_other_readings:Cal C "_law_other_readings" 5 2 d_law_other_readings):Cal C "_law_spoilt" 3 3 d_law_spoilt :=
 fn_ok F sc__law_spoilt rfl rfl hm hb
 (ds_cons (ds_set 3 (de_call c__law_draw (da_cons (de_var 2) (da_cons (de_int) (da_cons (de_int) (da_nil)))) (hAs:=al_cons (al_cons (al_cons al_nil)))))
 (ds_cons (ds_set 4 (de_len (de_idx (de_var 0) (de_int)) z_len))
 (ds_cons (ds_set 5 (de_call c__law_draw (da_cons (de_var 2) (da_cons (de_int) (da_cons (de_len (de_var 1) z_len) (da_nil)))) (hAs:=al_cons (al_cons (al_cons al_nil)))))
 (ds_cons (ds_set 6 (de_idx (de_idx (de_var 1) (de_var 5)) (de_int)))
 (ds_cons (ds_set 7 (de_idx (de_idx (de_var 1) (de_var 5)) (de_int)))
 (ds_cons (ds_if (dt_c (dc_lt (de_var 3) (de_int)))
 (ds_one (ds_ret (de_add (de_var 1) (de_tup (da_cons (de_tup (da_cons (de_idx (de_lst (da_cons (de_len (de_var 0) z_len) (da_cons (de_sub (de_neg (de_int)) (de_var 6)) (da_nil)))) (de_var 3)) (da_cons (de_var 7) (da_nil)))) (da_nil))))))
 (ds_nil))
 (ds_cons (ds_if (dt_c (dc_eq (de_var 3) (de_int)))
 (ds_one (ds_ret (de_add (de_add (de_slice (de_var 1) (do_none) (do_some (de_var 5))) (de_slice (de_var 1) (do_some (de_var 5)) (do_some (de_add (de_var 5) (de_int))))) (de_slice (de_var 1) (do_some (de_var 5)) (do_none)))))
 (ds_nil))
 (ds_cons (ds_if (dt_c (dc_eq (de_var 3) (de_int)))
 (ds_one (ds_ret (de_tupRev rfl (de_var 1) z_tuple z_reversed)))
 (ds_nil))
 (ds_cons (ds_if (dt_c (dc_eq (de_var 3) (de_int)))
 (ds_one (ds_retV 1))
 (ds_nil))
 (ds_cons (ds_set 8 (de_call c__law_draw (da_cons (de_var 2) (da_cons (de_int) (da_cons (de_len (de_var 7) z_len) (da_nil)))) (hAs:=al_cons (al_cons (al_cons al_nil)))))
 (ds_cons (ds_set 9 (de_call c__law_other_readings (da_cons (de_idx (de_idx (de_var 0) (de_var 6)) (de_int)) (da_cons (de_var 7) (da_cons (de_var 3) (da_cons (de_var 8) (da_cons (de_var 4) (da_nil)))))) (hAs:=al_cons (al_cons (al_cons (al_cons (al_cons al_nil)))))))
 (ds_one (ds_ret (de_add (de_add (de_slice (de_var 1) (do_none) (do_some (de_var 5))) (de_tup (da_cons (de_tup (da_cons (de_var 6) (da_cons (de_var 9) (da_nil)))) (da_nil)))) (de_slice (de_var 1) (do_some (de_add (de_var 5) (de_int))) (do_none))))))))))))))))
abbrev s__law_kind_of:Stmt:=topS 27
theorem sc__law_kind_of:FnScope ["found"] ["found"] (defScope s__law_kind_of):=⟨rfl,rfl,rfl,by decide +kernel,rfl,by decide +kernel,by decide +kernel⟩
theorem ok__law_kind_of {C:Cn} {ad:Addr} {fd:FuncData} (F:Fun C.K "_law_kind_of" "_law_kind_of" s__law_kind_of ad fd) (hm:C.mg "_law_kind_of" = some (.ref ad)) (hb:Binds C.K fd ["found"] []) (z_isinstance:C.mg "isinstance" = none) (q_NoLine:Iq C "NoLine" [(4,false)]) (q_NoName:Iq C "NoName" [(4,false)]) (q_NoPrices:Iq C "NoPrices" [(4,false)]) (q_NoRow:Iq C "NoRow" [(4,false)]) (q_NoSlips:Iq C "NoSlips" [(4,false)]) (q_TooMany:Iq C "TooMany" [(4,false)]) (q_TwiceNamed:Iq C "TwiceNamed" [(4,false)]) (q_NoNotes:Iq C "NoNotes" [(4,true)]) (q_ValueError:Iq C "ValueError" [(4,true)]):Cal C "_law_kind_of" 1 1 d_law_kind_of :=
 fn_ok F sc__law_kind_of rfl rfl hm hb
 (ds_cons (ds_if (dt_val (de_isEs (de_var 0) (tca_cons q_NoLine (tca_cons q_NoName (tca_cons q_NoPrices (tca_cons q_NoRow (tca_cons q_NoSlips (tca_cons q_TooMany (tca_cons q_TwiceNamed (tca_nil)))))))) z_isinstance))
 (ds_one (ds_ret (de_str [97,110,111,116,104,101,114])))
 (ds_nil))
 (ds_cons (ds_if (dt_chain (dw_and (dt_val (de_isE (de_var 0) q_NoNotes z_isinstance)) (dw_and1 (dt_val (de_isE (de_var 0) q_ValueError z_isinstance)))))
 (ds_one (ds_ret (de_str [114,101,102,117,115,101,100])))
 (ds_nil))
 (ds_one (ds_ret (de_str [111,100,100])))))
abbrev s__law_asked:Stmt:=topS 28
theorem sc__law_asked:FnScope ["entries","many","notes","caught","found","e"] ["entries","many","notes"] (defScope s__law_asked):=⟨rfl,rfl,rfl,by decide +kernel,rfl,by decide +kernel,by decide +kernel⟩
theorem ok__law_asked {C:Cn} {ad:Addr} {fd:FuncData} (F:Fun C.K "_law_asked" "_law_asked" s__law_asked ad fd) (hm:C.mg "_law_asked" = some (.ref ad)) (hb:Binds C.K fd ["entries","many","notes"] []) (x_VellumError:Xc C 0) (x_NoNotes:Xc C 4) (s_VellumError:Xs C 0 [(4,true)]) (c_collation_back:Cal C "collation_back" 3 3 d_collation_back) (c__law_kind_of:Cal C "_law_kind_of" 1 1 d_law_kind_of):Cal C "_law_asked" 3 4 d_law_asked :=
 fn_ok F sc__law_asked rfl rfl hm hb
 (ds_cons (ds_set 3 (de_non))
 (ds_cons (ds_set 4 (de_non))
 (ds_cons (ds_tryT (i:=5) s_VellumError
 (ds_one (ds_set 4 (de_call c_collation_back (da_cons (de_var 0) (da_cons (de_var 1) (da_cons (de_var 2) (da_nil)))) (hAs:=al_cons (al_cons (al_cons al_nil))))))
 (ds_one (ds_set 3 (de_var 5))))
 (ds_cons (ds_if (dt_c (dc_isN (de_var 3)))
 (ds_one (ds_ret (de_tup (da_cons (de_str [116,111,108,100]) (da_cons (de_var 4) (da_nil))))))
 (ds_nil))
 (ds_one (ds_ret (de_tup (da_cons (de_call c__law_kind_of (da_cons (de_var 3) (da_nil)) (hAs:=al_cons al_nil)) (da_cons (de_non) (da_nil))))))))))
abbrev s_law:Stmt:=topS 29
theorem sc_law:FnScope ["script","base","pool","many","columns","cell","entries","notes","bad","found","one","column"] ["script"] (defScope s_law):=⟨rfl,rfl,rfl,by decide +kernel,rfl,by decide +kernel,by decide +kernel⟩
theorem ok_law {C:Cn} {ad:Addr} {fd:FuncData} (F:Fun C.K "law" "law" s_law ad fd) (hm:C.mg "law" = some (.ref ad)) (hb:Binds C.K fd ["script"] []) (z_tuple:C.mg "tuple" = none) (c__law_cell_at:Cal C "_law_cell_at" 2 1 d_law_cell_at) (c__law_pool:Cal C "_law_pool" 1 3 d_law_pool) (c__law_draw:Cal C "_law_draw" 3 1 d_law_draw) (c__law_column_by:Cal C "_law_column_by" 3 2 d_law_column_by) (c__law_notes_of:Cal C "_law_notes_of" 1 2 d_law_notes_of) (c__law_spoilt:Cal C "_law_spoilt" 3 3 d_law_spoilt) (c__law_asked:Cal C "_law_asked" 3 4 d_law_asked) (c__law_same:Cal C "_law_same" 2 9 (d_law_same_v1 8)):FnOk C.P C.w C.K C.mg C.base (L2.CX C.P C.w) 10 ad fd ["script"] (spOf C 1 d_law_v65) :=
 fn_okF F sc_law rfl rfl hm hb
 (ds_cons (ds_set 1 (de_call c__law_cell_at (da_cons (de_var 0) (da_cons (de_int) (da_nil))) (hAs:=al_cons (al_cons al_nil))))
 (ds_cons (ds_set 2 (de_call c__law_pool (da_cons (de_var 1) (da_nil)) (hAs:=al_cons al_nil)))
 (ds_cons (ds_set 3 (de_add (de_int) (de_call c__law_draw (da_cons (de_var 1) (da_cons (de_int) (da_cons (de_idx (de_lst (da_cons (de_int) (da_cons (de_int) (da_nil)))) (de_call c__law_draw (da_cons (de_var 1) (da_cons (de_int) (da_cons (de_int) (da_nil)))) (hAs:=al_cons (al_cons (al_cons al_nil))))) (da_nil)))) (hAs:=al_cons (al_cons (al_cons al_nil))))))
 (ds_cons (ds_setO 4 (de_lst (da_cons (de_add (de_tup (da_cons (de_non) (da_nil))) (de_mul2 (de_tup (da_cons (de_str [97]) (da_nil))) (de_sub (de_var 3) (de_int)))) (da_nil))))
 (ds_cons (ds_for [5] (di_seq (de_slice (de_var 0) (do_some (de_int)) (do_some (de_int)))) (dg_v 5)
 (ds_one (ds_app 4 (de_call c__law_column_by (da_cons (de_var 5) (da_cons (de_var 2) (da_cons (de_var 3) (da_nil)))) (hAs:=al_cons (al_cons (al_cons al_nil)))))))
 (ds_cons (ds_set 4 (de_tuple (de_add (de_slice (de_var 4) (do_some (de_int)) (do_none)) (de_slice (de_var 4) (do_none) (do_some (de_int)))) z_tuple))
 (ds_cons (ds_set 6 (de_tuple (de_lc (own:=[("column",11)]) (di_seq (de_var 4)) (by decide +kernel) (dg_v 11) (df_nil) (de_idx (de_var 11) (de_int))) z_tuple))
 (ds_cons (ds_set 7 (de_call c__law_notes_of (da_cons (de_var 4) (da_nil)) (hAs:=al_cons al_nil)))
 (ds_cons (ds_for [5,8,9] (di_seq (de_add (de_lst (da_cons (de_var 1) (da_nil))) (de_slice (de_var 0) (do_some (de_int)) (do_some (de_int))))) (dg_v 5)
 (ds_cons (ds_set 8 (de_call c__law_spoilt (da_cons (de_var 4) (da_cons (de_var 7) (da_cons (de_var 5) (da_nil)))) (hAs:=al_cons (al_cons (al_cons al_nil)))))
 (ds_cons (ds_set 9 (de_call c__law_asked (da_cons (de_var 6) (da_cons (de_var 3) (da_cons (de_var 8) (da_nil)))) (hAs:=al_cons (al_cons (al_cons al_nil)))))
 (ds_cons (ds_if (dt_chain (dw_and (dt_c (dc_ne (de_var 8) (de_var 7))) (dw_and1 (dt_c (dc_ne (de_var 9) (de_tup (da_cons (de_str [114,101,102,117,115,101,100]) (da_cons (de_non) (da_nil)))))))))
 (ds_one (ds_ret (de_bl)))
 (ds_nil))
 (ds_cons (ds_set 9 (de_call c__law_asked (da_cons (de_var 6) (da_cons (de_var 3) (da_cons (de_var 7) (da_nil)))) (hAs:=al_cons (al_cons (al_cons al_nil)))))
 (ds_one (ds_if (dt_chain (dw_or (dt_c (dc_ne (de_idx (de_var 9) (de_int)) (de_str [116,111,108,100]))) (dw_or1 (dt_not (dt_val (de_call c__law_same (da_cons (de_idx (de_var 9) (de_int)) (da_cons (de_var 4) (da_nil))) (hAs:=al_cons (al_cons al_nil))))))))
 (ds_one (ds_ret (de_bl)))
 (ds_nil))))))))
 (ds_cons (ds_set 10 (de_tup (da_cons (de_tup (da_cons (de_int) (da_cons (de_tup (da_cons (de_tup (da_cons (de_str [97]) (da_cons (de_tup (da_cons (de_int) (da_nil))) (da_nil)))) (da_nil))) (da_nil)))) (da_nil))))
 (ds_cons (ds_if (dt_c (dc_ne (de_call c__law_asked (da_cons (de_tup (da_nil)) (da_cons (de_var 3) (da_cons (de_var 10) (da_nil)))) (hAs:=al_cons (al_cons (al_cons al_nil)))) (de_tup (da_cons (de_str [114,101,102,117,115,101,100]) (da_cons (de_non) (da_nil))))))
 (ds_one (ds_ret (de_bl)))
 (ds_nil))
 (ds_one (ds_ret (de_c (dc_eq (de_call c__law_asked (da_cons (de_tup (da_cons (de_non) (da_nil))) (da_cons (de_int) (da_cons (de_var 10) (da_nil)))) (hAs:=al_cons (al_cons (al_cons al_nil)))) (de_tup (da_cons (de_str [114,101,102,117,115,101,100]) (da_cons (de_non) (da_nil)))))))))))))))))))
end VP
end
section
set_option linter.all false
set_option maxHeartbeats 1000000
set_option maxRecDepth 10000
namespace Vm
def tryC{σ:Type}(cs:List (Nat×Bool))(R:Res σ)(H:Nat→Res σ):Res σ:=match R with
 | .exc c=>match takesC cs c with
  | some true=>match H c with
   | .exc _=>.bad
   | r=>r
  | some false=>.exc c
  | none=>.bad
 | r=>r
end Vm
end
section
set_option linter.all false
set_option maxHeartbeats 1000000
set_option maxRecDepth 10000
namespace Vm
@[irreducible] def rng3P (i j c:Int):Res (List Int):=rng3R i j c
end Vm
end
section
set_option linter.all false
set_option maxHeartbeats 1000000
set_option maxRecDepth 10000
namespace Vm
section
variable {α β γ δ ι κ σ τ ρ:Type} {ka:α→PV} {kb:β→PV} {EP:En→Prop} {Γ:En} {e j k:EX} {t u w:Tg}
theorem map_set{l:List (List α)}(n:Nat)(m:List α):(l.map (kL ka)).set n (.lst (m.map ka))=(l.set n m).map (kL ka):=by
 rw [List.map_set]; rfl
end
end Vm
end
section
set_option linter.all false
set_option maxHeartbeats 1000000
set_option maxRecDepth 10000
namespace Vm
inductive Stp where
 | keep | turn (w:List Nat) | lose | add (w:List Nat) | twice | swap | skip (k:Int)
 deriving DecidableEq
def kStp:Stp→PV
 | .keep=>.tup [.str [107,101,101,112]]
 | .turn w=>.tup [.str [116,117,114,110],.str w]
 | .lose=>.tup [.str [108,111,115,101]]
 | .add w=>.tup [.str [97,100,100],.str w]
 | .twice=>.tup [.str [116,119,105,99,101]]
 | .swap=>.tup [.str [115,119,97,112]]
 | .skip k=>.tup [.str [115,107,105,112],.int k]
instance:Enc kStp where
 d:=1
 eq:=fun a b=>by
  rw [Bool.eq_iff_iff]
  cases a <;> cases b <;> simp [kStp,eqv,eqvL]
 sh:=fun n h a=>by
  cases n with
  | zero=>omega
  | succ n=>cases a <;> cases n <;> simp [kStp,shp,shpL]
instance:NN kStp:=⟨fun a h=>by cases a <;> cases h⟩
instance:St kStp:=⟨fun a=>by cases a <;> simp [kStp,stab,stabL]⟩
section
variable {α β γ δ:Type} {Γ:En} {a b:EX} {as:EXs} {t u:Tg} {A:Res Stp}
end
end Vm
end
section
set_option linter.all false
set_option maxHeartbeats 1000000
set_option maxRecDepth 10000
namespace Vm
section
variable {α β:Type} {EP:En→Prop} {Γ:En}
end
end Vm
end
section
set_option linter.all false
set_option maxHeartbeats 1000000
set_option maxRecDepth 10000
namespace Vm
def kD{α β:Type}(ka:α→PV)(kb:β→PV)(l:List (α×β)):PV:=.dic (l.map fun z=>ka z.1) (l.map fun z=>kb z.2)
class KeyN {α:Type} (ka:α→PV):Prop where
 n:∀ m a,keyN m (ka a)=true
class KeyE {α:Type} (ka:α→PV):Prop where
 s:(∀ a,keyL (ka a)=true) ∨ (∀ a,keyT (ka a)=true)
instance:KeyN kI:=⟨fun m a=>by cases m <;> rfl⟩
instance:KeyN kS:=⟨fun m a=>by cases m <;> rfl⟩
instance {α:Type} {ka:α→PV} [KeyN ka]:KeyN (kO ka):=⟨fun m a=>by
 cases a with
 | none=>cases m <;> rfl
 | some a=>exact KeyN.n m a⟩
instance:KeyE kI:=⟨.inl fun a=>rfl⟩
instance:KeyE kS:=⟨.inl fun a=>rfl⟩
instance:KeyE (kO kI):=⟨.inl fun a=>by cases a <;> rfl⟩
instance:KeyE (kO kS):=⟨.inl fun a=>by cases a <;> rfl⟩
instance {α β:Type} {ka:α→PV} {kb:β→PV} [KeyN ka] [KeyN kb]:KeyE (kP2 ka kb):=⟨.inr fun a=>by
 show (keyN 7 (ka a.1) && (keyN 7 (kb a.2) && true))=true
 rw [KeyN.n,KeyN.n]; rfl⟩
theorem keyNL_map{α:Type}{ka:α→PV}[KeyN ka](n:Nat)(l:List α):keyNL n (l.map ka)=true:=by
 induction l with
 | nil=>cases n <;> rfl
 | cons a l ih=>show (keyN n (ka a) && keyNL n (l.map ka))=true; rw [KeyN.n,ih]; rfl
instance {α:Type} {ka:α→PV} [KeyN ka]:KeyE (kT ka):=⟨.inr fun a=>keyNL_map 7 a⟩
theorem sameK_e{α β:Type}{ka:α→PV}[KeyE ka](k:α)(l:List (α×β)):sameK (ka k) (l.map fun z=>ka z.1)=true:=by
 unfold sameK
 rcases KeyE.s (ka:=ka) with h | h
 ·rw [h k,show (l.map fun z=>ka z.1).all keyL=true by rw [List.all_map]; exact List.all_eq_true.mpr fun z _=>h z.1]; rfl
 ·rw [h k,show (l.map fun z=>ka z.1).all keyT=true by rw [List.all_map]; exact List.all_eq_true.mpr fun z _=>h z.1]; simp
section
variable {α β:Type} [DecidableEq α]
def dfind(d:List (α×β))(k:α):Option β:=(d.find? fun z=>decide (z.1=k)).map (·.2)
def dput:List (α×β)→α→β→List (α×β)
 | [],k,v=>[(k,v)]
 | z :: l,k,v=>if z.1=k then (z.1,v) :: l else z :: dput l k v
def dputR(d:List (α×β))(k:α)(v:β):Res (List (α×β)):=if d.length < 16777216 then .ok (dput d k v) else .bad
variable {ka:α→PV} {kb:β→PV} [Enc ka]
theorem dIx_e(k:α):∀ d:List (α×β),((dIx (d.map fun z=>ka z.1) (ka k)).bind fun j=>(d.map fun z=>kb z.2)[j]?)=(dfind d k).map kb∧(dIx (d.map fun z=>ka z.1) (ka k)).isSome=(dfind d k).isSome
 | []=>⟨rfl,rfl⟩
 | z :: d=>by
  obtain ⟨h1,h2⟩:=dIx_e k d
  unfold dfind at h1 h2 ⊢
  simp only [List.map_cons,dIx,Enc.eq]
  by_cases h:z.1=k
  ·rw [List.find?_cons_of_pos (by simpa using h)]
   simp [h]
  ·rw [List.find?_cons_of_neg (by simpa using h)]
   simp only [h,decide_false,Bool.false_eq_true,if_false]
   refine ⟨?_,by rw [← h2]; cases dIx (d.map fun z=>ka z.1) (ka k) <;> rfl⟩
   rw [← h1]
   cases dIx (d.map fun z=>ka z.1) (ka k) <;> simp
theorem dGet_e(k:α)(d:List (α×β)):dGet (d.map fun z=>ka z.1) (d.map fun z=>kb z.2) (ka k)=(dfind d k).map kb:=(dIx_e k d).1
theorem dPut_e(k:α)(v:β):∀ d:List (α×β),dPutK (d.map fun z=>ka z.1) (ka k)=(dput d k v).map (fun z=>ka z.1)∧dPutV (d.map fun z=>ka z.1) (d.map fun z=>kb z.2) (ka k) (kb v)=(dput d k v).map fun z=>kb z.2
 | []=>⟨rfl,rfl⟩
 | z :: d=>by
  obtain ⟨h1,h2⟩:=dPut_e k v d
  unfold dput
  simp only [List.map_cons,dPutK,dPutV,Enc.eq]
  by_cases h:z.1=k
  ·simp [h]
  ·simp [h,h1,h2]
end
section
variable {α β γ:Type} [DecidableEq α] {ka:α→PV} {kb:β→PV} [Enc ka] [KeyE ka] {Γ:En} {a b c:EX} {as:EXs} {t u w:Tg}
theorem rD0(d:Nat):RefG (tv (.ow d) (kD ka kb)) (eDic0 d Γ) (.ok []):=rfl
theorem rDIn{A:Res α}{B:Res (List (α×β))}(ha:RefG (tv t ka) (a Γ) A)(hb:RefG (tv u (kD ka kb)) (b Γ) B):RefG (tv .fz kB) (eOp2 opDIn a b Γ) (A.bind fun k=>B.bind fun d=>.ok (dfind d k).isSome):=ha.bind fun k=>hb.bind fun d=>by
 show RefG _ (((if sameK (ka k) (d.map fun z=>ka z.1) then Res.ok (dIx (d.map fun z=>ka z.1) (ka k)).isSome else .bad).bind fun b=>.ok (.bl b)).bind fzv) _
 rw [if_pos (sameK_e k d),(dIx_e (kb:=kb) k d).2]; rfl
theorem rDGet{A:Res (List (α×β))}{B:Res α}{D:Res β}(ha:RefG (tv t (kD ka kb)) (a Γ) A)(hb:RefG (tv u ka) (b Γ) B)(hc:RefG (tv .fz kb) (c Γ) D)(hf:flat1 t=true:=by rfl):RefG (tv .fz kb) (eDGet a b c Γ) (A.bind fun d=>B.bind fun k=>D.bind fun x=>.ok ((dfind d k).getD x)):=ha.bind fun d=>hb.bind fun k=>hc.bind fun x=>by
 show RefG _ (if flat1 t && sameK (ka k) (d.map fun z=>ka z.1) then (putV (Tg.fz,kb x)).bind fun q=>Res.ok (Tg.fz,(dGet (d.map fun z=>ka z.1) (d.map fun z=>kb z.2) (ka k)).getD q) else .bad) _
 rw [hf,sameK_e k d]
 show Res.ok (Tg.fz,(dGet (d.map fun z=>ka z.1) (d.map fun z=>kb z.2) (ka k)).getD (kb x))=_
 rw [dGet_e k d]
 cases dfind d k <;> rfl
theorem pDPut{EP:En→Prop}{e j:EX}(i:Nat){J:Res α}{E:Res β}{d:List (α×β)}(h:RefG (tv t kb) (e Γ) E)(hj:RefG (tv .fz ka) (j Γ) J)(hE:EP Γ)(hg:Γ.get i=some (.ow 1,kD ka kb d))(hp:∀ p,putV (t,p) = .ok p:=by intro _; rfl):Prim EP (dDPut i j e) Γ (E.bind fun x=>J.bind fun k=>dputR d k x) (fun d=>Γ.set i (some (.ow 1,kD ka kb d))):=by
 refine prim_of (EP:=EP) (d:=dDPut i j e) (F:=fun x=>aft (j Γ) Γ fun y=>aft (putV x) Γ fun p=>aft (fzK y) Γ fun q =>
  if sameK q (d.map fun z=>ka z.1) && decide ((d.map fun z=>ka z.1).length < 16777216) then .nx (Γ.set i (some (.ow 1,.dic (dPutK (d.map fun z=>ka z.1) q) (dPutV (d.map fun z=>ka z.1) (d.map fun z=>kb z.2) q p)))) else .bad) h hE ?_ fun x=>?_
 ·unfold dDPut
  rw [hg]; rfl
 ·cases J with
  | bad=>exact trivial
  | exc c =>
   have hj:j Γ = .exc c:=hj
   rw [hj]; exact ⟨Γ,rfl,hE⟩
  | ok k =>
   have hj:j Γ = .ok (.fz,ka k):=hj
   rw [hj,after_ok,hp,after_ok,bind_ok]
   show RG EP _ (if sameK (ka k) (d.map fun z=>ka z.1) && decide ((d.map fun z=>ka z.1).length < 16777216) then _ else _) _
   rw [sameK_e k d,List.length_map,Bool.true_and]
   unfold dputR
   by_cases hl:d.length < 16777216
   ·rw [if_pos (by simpa using hl),if_pos hl,(dPut_e (kb:=kb) k x d).1,(dPut_e (kb:=kb) k x d).2]
    exact ⟨_,rfl,rfl⟩
   ·rw [if_neg (by simpa using hl),if_neg hl]; exact trivial
end
end Vm
end
section
set_option linter.all false
set_option maxHeartbeats 1000000
set_option maxRecDepth 10000
namespace Vm
end Vm
end
section
set_option linter.all false
set_option maxHeartbeats 1000000
set_option maxRecDepth 10000
namespace Vm
end Vm
end
section
set_option linter.all false
set_option maxHeartbeats 1000000
set_option maxRecDepth 10000
namespace Vm
end Vm
end
section
set_option linter.all false
set_option maxHeartbeats 1000000
set_option maxRecDepth 10000
namespace Vm
section
variable {α β γ σ τ ι:Type} {ka:α→PV} {kb:β→PV} {Γ:En} {a b c j e:EX} {t u w:Tg} {EP:En→Prop} {Post:Out→σ→Prop}
instance kPT_e {ka:α→PV} {kb:β→PV} [KeyN ka] [KeyN kb]:KeyE (kP2 ka (kT kb)):=⟨.inr fun a=>by
 show (keyN 7 (ka a.1) && (keyN 7 (kT kb a.2) && true))=true
 rw [KeyN.n,show keyN 7 (kT kb a.2)=true from keyNL_map 6 a.2]; rfl⟩
instance {α β:Type} {ka:α→PV} {kb:β→PV}:NN (kD ka kb):=⟨fun _ h=>by cases h⟩
end
end Vm
end
section
set_option linter.all false
set_option maxHeartbeats 1000000
set_option maxRecDepth 10000
namespace Vm
section
variable {Γ:En} {a b c d:EX} {t u v w:Tg}
end
end Vm
end
section
set_option linter.all false
set_option maxHeartbeats 1000000
set_option maxRecDepth 10000
namespace Vm
section
variable {α:Type} {ka:α→PV} {Γ:En} {a:EX} {t:Tg}
theorem rTupRevT{A:Res (List α)}(ha:RefG (tv t (kT ka)) (a Γ) A):RefG (tv .fz (kT ka)) (eTupRev a Γ) (A.bind fun l=>.ok l.reverse):=ha.bind fun x=>by
 show _=_
 simp [tv]
end
end Vm
end
section
set_option linter.all false
set_option maxHeartbeats 1000000
set_option maxRecDepth 10000
namespace Vm
section
variable {Γ:En} {a:EX} {t:Tg}
end
end Vm
end
section
set_option linter.all false
set_option maxHeartbeats 1000000
set_option maxRecDepth 10000
namespace Vm
section
variable {Γ:En} {a b:EX} {t u:Tg} {α:Type} {ka:α→PV}
end
end Vm
end
section
set_option linter.all false
set_option maxHeartbeats 1000000
namespace Vm
section
variable {α β:Type} {EP:En→Prop} {Post:Out→β→Prop} {x y:ST} {T:TX}
end
end Vm
end
section
set_option linter.all false
set_option maxHeartbeats 1000000
set_option maxRecDepth 10000
namespace Vm
abbrev Hs:=List (List Nat×List (List Nat))×List (List Nat×Option Int)×List Int×Int
def hs0:Hs:=([],[],[1,2,2,2,1,1,3],100)
section
variable {Γ:En} {α β:Type} {a b:EX} {as:EXs} {t u:Tg}
variable {EP:En→Prop} {σ β:Type} {Post:Out→β→Prop} {f:FX} {js:List (Nat×Tg)} {ps:List PV} {k:PV→En→Out}
end
end Vm
end
section
set_option linter.all false
set_option maxHeartbeats 1000000
set_option maxRecDepth 10000
namespace Vm
section
variable {EP:En→Prop} {β:Type} {Post:Out→β→Prop}
end
section
variable {α β:Type} {EP:En→Prop} {Post:Out→β→Prop} {Γ:En} {e:EX} {t:Tg} {ka:α→PV} {rest:ST} {r:Res β}
end
section
variable {α β σ τ:Type} {EP:En→Prop} {Post:Out→β→Prop} {Γ:En} {a e:EX} {as:EXs} {t:Tg} {f:FX} {js:List (Nat×Tg)} {ps:List PV} {u:σ→En}
variable {T:TM} {D:Res (Bool×σ)} {x y rest:ST} {R1 R2:σ→Res β}
end
end Vm
end
section
set_option linter.all false
set_option maxHeartbeats 1000000
set_option maxRecDepth 10000
namespace Vm
def decStp:PV→Option Stp
 | .tup [.str [107,101,101,112]]=>some .keep
 | .tup [.str [108,111,115,101]]=>some .lose
 | .tup [.str [116,119,105,99,101]]=>some .twice
 | .tup [.str [115,119,97,112]]=>some .swap
 | .tup [.str [116,117,114,110],.str w]=>some (.turn w)
 | .tup [.str [97,100,100],.str w]=>some (.add w)
 | .tup [.str [115,107,105,112],.int k]=>some (.skip k)
 | _=>none
@[simp] theorem decStp_k (s:Stp):decStp (kStp s)=some s:=by cases s <;> rfl
end Vm
end
section
set_option linter.all false
set_option maxHeartbeats 1000000
set_option maxRecDepth 10000
namespace Vm
section
variable {α ι:Type} {ka:α→PV} {t:Tg} {Γ:En}
end
end Vm
end
section
set_option linter.all false
set_option maxHeartbeats 1000000
set_option maxRecDepth 10000
namespace Vm
section
variable {α β σ τ:Type} {EP:En→Prop} {Post:Out→β→Prop} {Γ:En} {a e:EX} {as:EXs} {t:Tg} {f:FX} {js:List (Nat×Tg)} {ps:List PV} {u:σ→En}
end
end Vm
end
section
set_option linter.all false
set_option maxHeartbeats 1000000
set_option maxRecDepth 10000
namespace Vm
section
variable {α β:Type} [DecidableEq α] {ka:α→PV} {kb:β→PV} [Enc ka] [KeyE ka] {Γ:En} {a b j e j1 j2:EX} {t u w:Tg} {EP:En→Prop}
end
theorem rSortTP{α:Type}{ka:α→PV}{Γ:En}{a:EX}[DecidableEq α][Ordk ka][Srk ka]{A:Res (List α)}(ha:RefG (tv .fz (kT ka)) (a Γ) A)(hkn:∀ x,keyN 8 (ka x)=true)(hd:Ordk.d ka≤50:=by decide):RefG (tv (.ow 1) (kL ka)) (eSortedT a Γ) (A.bind fun x=>sortR (Ordk.lt ka) x):=ha.bind fun x=>by
 unfold sortR
 by_cases h:x.length≤16777216
 ·rw [if_pos h]
  show RefG _ (if srtOk (x.map ka) && (x.map ka).all (keyN 8) && decide ((x.map ka).length≤16777216) then _ else _) _
  have hk:(x.map ka).all (keyN 8)=true:=by rw [List.all_map]; exact List.all_eq_true.mpr fun z _=>hkn z
  rw [srtOk_map hd,hk,if_pos (by simpa using h),sortP_map]; exact rfl
 ·rw [if_neg h]; exact trivial
end Vm
end
section
set_option linter.all false
set_option maxHeartbeats 1000000
set_option maxRecDepth 10000
namespace Vm
theorem gTryT{σ:Type}{EP:En→Prop}{Γ:En}{i:Nat}{b:ST}{h:ST}{P:σ→En→Prop}{R:Res σ}{H:Nat→Res σ}{cs:List (Nat×Bool)}(hb:RG (fun Γ'=>Γ'=Γ) (NxP P) (b Γ) R)(hh:∀ c,RG (fun _=>True) (NxP fun s Γ'=>P s (Γ'.set i none)) (h (Γ.set i (some (.fz,.exo (c+2) [])))) (H c))(hE:EP Γ)(hl:Nat.ble (i+1) Γ.length=true:=by rfl):RG EP (NxP P) (dTryT cs i b h Γ) (tryC cs R H):=by
 cases R with
 | ok s =>
  obtain ⟨Γ',e,p⟩:=hb
  show NxP P (dTryT cs i b h Γ) s
  unfold dTryT
  rw [e]
  exact ⟨Γ',rfl,p⟩
 | exc c =>
  obtain ⟨Γ',e,e2⟩:=hb
  subst e2
  unfold dTryT tryC
  simp only [e,hl,if_true]
  cases takesC cs c with
  | none=>exact trivial
  | some t =>
   cases t with
   | false=>exact ⟨_,rfl,hE⟩
   | true =>
    have hc:=hh c
    simp only
    cases eH:H c with
    | ok s =>
     rw [eH] at hc
     obtain ⟨Γ2,e2,p2⟩:=hc
     simp only [e2]
     exact ⟨_,rfl,p2⟩
    | exc c2=>exact trivial
    | bad=>exact trivial
 | bad=>exact trivial
section
variable {Γ:En} {a:EX} {A:Res PV}
def isEB(tab:List (Nat×Bool))(p:PV):Res Bool:=match p with
 | .exo (c+2) _=>match takesC tab c with
  | some b=>.ok b
  | none=>.bad
 | _=>.bad
def isEsB(tabs:List (List (Nat×Bool)))(p:PV):Res Bool:=match p with
 | .exo (c+2) _=>if tabs.all fun t=>(takesC t c).isSome then .ok (isCs tabs c) else .bad
 | _=>.bad
theorem rIsE{tab:List (Nat×Bool)}(ha:RefG (tv .fz kV) (a Γ) A):RefG (tv .fz kB) (eIsE tab a Γ) (A.bind fun x=>isEB tab x):=ha.bind fun x=>by
 show RefG _ (isEV tab (.fz,x)) _
 unfold isEV isEB
 split
 ·rename_i c l e
  cases e
  simp only
  cases takesC tab c <;> first | rfl | trivial
 ·rename_i h
  split
  ·rename_i c l
   exact absurd rfl (h c l)
  ·trivial
theorem rIsEs{tabs:List (List (Nat×Bool))}(ha:RefG (tv .fz kV) (a Γ) A):RefG (tv .fz kB) (eIsEs tabs a Γ) (A.bind fun x=>isEsB tabs x):=ha.bind fun x=>by
 show RefG _ (isEsV tabs (.fz,x)) _
 unfold isEsV isEsB
 split
 ·rename_i c l e
  cases e
  simp only
  split <;> first | rfl | trivial
 ·rename_i h
  split
  ·rename_i c l
   exact absurd rfl (h c l)
  ·trivial
end
end Vm
end
section
set_option Elab.async false
set_option linter.all false
set_option maxRecDepth 100000
set_option maxHeartbeats 4000000
namespace Vm
def f_look_rows(v_rows:List (Int))(v_many:Int)(v_taken:List ((Int)×(Option (List Nat)))):Res (Unit) :=
 if decide ((v_rows.length:Int)=(0:Int)) then (Res.exc 4) else (let s1:Int:=(0:Int); (forS (fun (s2:((Int))) (x3:Int)=>(if decide (x3≤s2) then Res.ok true else if decide (v_many≤x3) then Res.ok true else Res.ok ((dfind v_taken x3).isSome)).bind fun b5=>if b5 then (Res.exc 4) else (let s4:Int:=x3; Res.ok s4)) v_rows s1).bind fun (s6:((Int)))=>Res.ok ())
def f_look_readings(v_base:Option (List Nat))(v_readings:List (((Option (List Nat))×List (Int))))(v_many:Int):Res (List ((Int)×(Option (List Nat)))) :=
 if decide ((v_readings.length:Int)=(0:Int)) then (Res.exc 4) else (let s1:List ((Int)×(Option (List Nat))):=([]:List ((Int)×(Option (List Nat)))); let s2:List (Option (List Nat)):=([]:List (Option (List Nat))); let s3:Int:=(0:Int); (forS (fun (s4:((List ((Int)×(Option (List Nat))))×(List (Option (List Nat)))×(Int))) (x5:((Option (List Nat))×List (Int)))=>(if decide (x5.1=v_base) then Res.ok true else Res.ok (memB x5.1 s4.2.1)).bind fun b18=>if b18 then (Res.exc 4) else (((f_look_rows x5.2 v_many s4.1).bind fun _=>Res.ok ()).bind fun (s9:Unit)=>((ixR x5.2 ((0:Int))).bind fun x10=>Res.ok (decide (x10≤s4.2.2))).bind fun b17=>if b17 then (Res.exc 4) else ((ixR x5.2 ((0:Int))).bind fun (s11:Int)=>(appR s4.2.1 x5.1).bind fun (s12:List (Option (List Nat)))=>(forS (fun (s13:((List ((Int)×(Option (List Nat)))))) (x14:Int)=>(dputR s13 x14 x5.1).bind fun (s15:List ((Int)×(Option (List Nat))))=>Res.ok s15) x5.2 s4.1).bind fun (s16:((List ((Int)×(Option (List Nat))))))=>Res.ok ((s16,s12,s11))))) v_readings ((s1,s2,s3))).bind fun (s19:((List ((Int)×(Option (List Nat))))×(List (Option (List Nat)))×(Int)))=>Res.ok s19.1)
def f_column_back(v_base:Option (List Nat))(v_many:Int)(v_taken:List ((Int)×(Option (List Nat)))):Res (List (Option (List Nat))) :=
 ((rngR v_many).bind fun x4=>(noExc (mapR (fun (z3:Int)=>Res.ok ((dfind v_taken z3).getD v_base)) x4)).bind szR).bind fun x6=>Res.ok (x6)
def f_collation_back(v_entries:List (Option (List Nat)))(v_many:Int)(v_notes:List (((Int)×List (((Option (List Nat))×List (Int)))))):Res (List (List (Option (List Nat)))) :=
 ((noExc (mapR (fun (z1:Option (List Nat))=>f_column_back z1 v_many (([]:List ((Int)×(Option (List Nat)))))) v_entries)).bind szR).bind fun (s5:List (List (Option (List Nat))))=>let s6:Int:=-((1:Int)); (forS (fun (s7:((List (List (Option (List Nat))))×(Int))) (x8:((Int)×List (((Option (List Nat))×List (Int)))))=>(if decide (x8.1≤s7.2) then Res.ok true else Res.ok (decide ((v_entries.length:Int)≤x8.1))).bind fun b38=>if b38 then (Res.exc 4) else (let s9:Int:=x8.1; (((ixR v_entries x8.1).bind fun x34=>((ixR v_entries x8.1).bind fun x30=>f_look_readings x30 x8.2 v_many).bind fun x35=>f_column_back x34 v_many x35).bind fun x36=>setR s7.1 x8.1 x36).bind fun (s37:List (List (Option (List Nat))))=>Res.ok ((s37,s9)))) v_notes ((s5,s6))).bind fun (s39:((List (List (Option (List Nat))))×(Int)))=>Res.ok (s39.1)
def f_law_cell_at(v_script:List (Int))(v_k:Int):Res (Int) :=
 if decide (v_k < (v_script.length:Int)) then ((ixR v_script v_k).bind fun x2=>Res.ok (x2)) else (Res.ok (((0:Int))))
def f_law_draw(v_cell:Int)(v_k:Int)(v_many:Int):Res (Int) :=
 let s1:Int:=(170141183460469231731687303715884105727:Int); ((((mulR v_cell ((2:Int))).bind fun x2=>Res.ok (x2+((1:Int)))).bind fun x5=>(((mulR v_k v_k).bind fun x3=>mulR x3 ((9176023:Int))).bind fun x4=>Res.ok (x4+((84127918273645463728191:Int)))).bind fun x6=>mulR x5 x6).bind fun x7=>modR x7 s1).bind fun (s8:Int)=>((((mulR s8 (s8+((5:Int)))).bind fun x12=>modR x12 s1).bind fun x13=>Res.ok (x13 / (7:Int))).bind fun x14=>modR x14 v_many).bind fun x16=>Res.ok (x16)
def f_law_word_by(v_cell:Int)(v_k:Int):Res (List Nat) :=
 let s1:List Nat:=([]:List Nat); ((((((mulR ((10:Int)) v_k).bind fun x8=>Res.ok (x8+((1:Int)))).bind fun x12=>f_law_draw v_cell x12 ((4:Int))).bind fun x13=>ixR (([(1:Int),(2:Int),(3:Int),(12:Int)]:List (Int))) x13).bind fun x14=>rngR x14).bind fun x27=>forS (fun (s2:((List Nat))) (x15:Int)=>((((((mulR ((20:Int)) v_k).bind fun x18=>Res.ok (((300:Int))+x18)).bind fun x19=>Res.ok (x19+x15)).bind fun x23=>f_law_draw v_cell x23 ((26:Int))).bind fun x24=>(ixR (([97,98,99,100,101,102,103,104,105,106,107,108,109,110,111,112,113,114,115,116,117,118,119,120,121,122]:List Nat)) x24).bind fun z=>Res.ok [z]).bind fun x25=>catR s2 x25).bind fun (s26:List Nat)=>Res.ok s26) x27 s1).bind fun (s28:((List Nat)))=>Res.ok s28
def f_law_pool(v_cell:Int):Res (List (List Nat)) :=
 ((rngR ((4:Int))).bind fun x4=>(noExc (mapR (fun (z1:Int)=>f_law_word_by v_cell z1) x4)).bind szR).bind fun (s5:List (List Nat))=>(((ixR s5 ((0:Int))).bind fun x7=>Res.ok ((x7.length:Int))).bind fun x11=>f_law_draw v_cell ((61:Int)) x11).bind fun (s12:Int)=>((f_law_draw v_cell ((62:Int)) ((26:Int))).bind fun x16=>(ixR (([97,98,99,100,101,102,103,104,105,106,107,108,109,110,111,112,113,114,115,116,117,118,119,120,121,122]:List Nat)) x16).bind fun z=>Res.ok [z]).bind fun (s17:List Nat)=>((((((ixR s5 ((0:Int))).bind fun x50=>Res.ok (cutL x50 none (some s12))).bind fun x51=>catR x51 s17).bind fun x53=>((ixR s5 ((0:Int))).bind fun x52=>Res.ok (cutL x52 (some (s12+((1:Int)))) none)).bind fun x54=>catR x53 x54).bind fun x56=>Res.ok (([x56]:List (List Nat)))).bind fun x57=>catR s5 x57).bind fun x59=>Res.ok (x59)
def f_law_column_by(v_cell:Int)(v_pool:List (List Nat))(v_many:Int):Res (List (Option (List Nat))) :=
 (catR ((List.map some) v_pool) (([none]:List (Option (List Nat))))).bind fun (s3:List (Option (List Nat)))=>(((f_law_draw v_cell ((1:Int)) ((s3.length:Int))).bind fun x11=>ixR s3 x11).bind fun x13=>Res.ok (([x13]:List (Option (List Nat))))).bind fun (s14:List (Option (List Nat)))=>((rng2R ((1:Int)) v_many).bind fun x39=>forS (fun (s15:((List (Option (List Nat))))) (x16:Int)=>(ixR s15 ((0:Int))).bind fun (s17:Option (List Nat))=>(((f_law_draw v_cell (((20:Int))+x16) ((3:Int))).bind fun x24=>Res.ok (decide (x24=(0:Int)))).bind fun b38=>if b38 then (((f_law_draw v_cell (((60:Int))+x16) ((s3.length:Int))).bind fun x35=>ixR s3 x35).bind fun (s36:Option (List Nat))=>Res.ok s36) else (Res.ok s17)).bind fun s30=>(appR s15 s30).bind fun (s37:List (Option (List Nat)))=>Res.ok s37) x39 s14).bind fun (s40:((List (Option (List Nat)))))=>Res.ok (s40)
noncomputable def f_law_same_v1(n:Nat)(v_found:PV)(v_due:PV):Res (Bool):=asB (d_law_same_v1 n [kV v_found,kV v_due])
def f_law_readings_of(v_column:List (Option (List Nat))):Res (List (((Option (List Nat))×List (Int)))) :=
 let s1:List (Option (List Nat)):=([]:List (Option (List Nat))); (forS (fun (s2:((List (Option (List Nat))))) (x3:Option (List Nat))=>(((ixR v_column ((0:Int))).bind fun x4=>Res.ok (!decide (x3=x4))).bind fun x5=>if x5 then Res.ok (!memB x3 s2) else Res.ok false).bind fun b7=>if b7 then ((appR s2 x3).bind fun (s6:List (Option (List Nat)))=>Res.ok s6) else (Res.ok s2)) v_column s1).bind fun (s8:((List (Option (List Nat)))))=>let s9:List (((Option (List Nat))×List (Int))):=([]:List (((Option (List Nat))×List (Int)))); (forS (fun (s10:((List (((Option (List Nat))×List (Int)))))) (x11:Option (List Nat))=>((((rngR ((v_column.length:Int))).bind fun x20=>(noExc (lcR (fun (z18:Int)=>(ixR v_column z18).bind fun x19=>Res.ok (decide (x19=x11))) (fun (z18:Int)=>Res.ok (z18)) x20)).bind szR).bind fun x23=>Res.ok (((x11,x23):((Option (List Nat))×List (Int))))).bind fun x24=>appR s10 x24).bind fun (s25:List (((Option (List Nat))×List (Int))))=>Res.ok s25) s8 s9).bind fun (s26:((List (((Option (List Nat))×List (Int))))))=>Res.ok (s26)
def f_law_notes_of(v_columns:List (List (Option (List Nat)))):Res (List (((Int)×List (((Option (List Nat))×List (Int)))))) :=
 let s1:List (((Int)×List (((Option (List Nat))×List (Int))))):=([]:List (((Int)×List (((Option (List Nat))×List (Int)))))); ((rngR ((v_columns.length:Int))).bind fun x12=>forS (fun (s2:((List (((Int)×List (((Option (List Nat))×List (Int)))))))) (x3:Int)=>((ixR v_columns x3).bind fun x5=>f_law_readings_of x5).bind fun (s6:List (((Option (List Nat))×List (Int))))=>if !decide (s6=([]:List (((Option (List Nat))×List (Int))))) then ((appR s2 (((x3,s6):((Int)×List (((Option (List Nat))×List (Int))))))).bind fun (s11:List (((Int)×List (((Option (List Nat))×List (Int))))))=>Res.ok s11) else (Res.ok s2)) x12 s1).bind fun (s13:((List (((Int)×List (((Option (List Nat))×List (Int))))))))=>Res.ok (s13)
def f_law_other_rows(v_rows:List (Int))(v_way:Int)(v_many:Int):Res (List (Int)) :=
 if decide (v_way=(7:Int)) then (Res.ok (v_rows.reverse)) else (if decide (v_way=(8:Int)) then ((catR (([(0:Int)]:List (Int))) v_rows).bind fun x7=>Res.ok (x7)) else (if decide (v_way=(9:Int)) then ((catR v_rows (([v_many+(((v_rows.length:Int)) % (3:Int))]:List (Int)))).bind fun x13=>Res.ok (x13)) else (if decide (v_way=(10:Int)) then ((catR (cutL v_rows none (some ((1:Int)))) v_rows).bind fun x15=>Res.ok (x15)) else (if decide (v_way=(11:Int)) then (Res.ok ((([]:List (Int))))) else ((catR (([(-((1:Int))) - ((v_rows.length:Int))]:List (Int))) v_rows).bind fun x22=>Res.ok (x22))))))
def f_law_other_readings(v_base:Option (List Nat))(v_readings:List (((Option (List Nat))×List (Int))))(v_way:Int)(v_at:Int)(v_many:Int):Res (List (((Option (List Nat))×List (Int)))) :=
 (ixR v_readings v_at).bind fun (s1:((Option (List Nat))×List (Int)))=>if decide (v_way=(4:Int)) then (Res.ok ((([]:List (((Option (List Nat))×List (Int))))))) else (if decide (v_way=(5:Int)) then (((catR (cutL v_readings none (some v_at)) (([((v_base,s1.2):((Option (List Nat))×List (Int)))]:List (((Option (List Nat))×List (Int)))))).bind fun x28=>catR x28 (cutL v_readings (some (v_at+((1:Int)))) none)).bind fun x30=>Res.ok (x30)) else (if decide (v_way=(6:Int)) then ((catR v_readings (([((s1.1,([v_many - ((1:Int))]:List (Int))):((Option (List Nat))×List (Int)))]:List (((Option (List Nat))×List (Int)))))).bind fun x48=>Res.ok (x48)) else (if decide (v_way=(12:Int)) then (((((ixR v_readings ((0:Int))).bind fun x51=>Res.ok (x51.2)).bind fun x53=>((ixR v_readings (-((1:Int)))).bind fun x52=>Res.ok (x52.2)).bind fun x54=>catR x53 x54).bind fun x55=>sortR (Ordk.lt kI) x55).bind fun (s56:List (Int))=>(((((ixR v_readings (-((1:Int)))).bind fun x76=>Res.ok (x76.1)).bind fun x79=>Res.ok (((x79,s56):((Option (List Nat))×List (Int))))).bind fun x81=>Res.ok (([x81]:List (((Option (List Nat))×List (Int)))))).bind fun x82=>catR (cutL v_readings none (some (-((1:Int))))) x82).bind fun x84=>Res.ok (x84)) else (if decide (v_way=(13:Int)) then (Res.ok (v_readings.reverse)) else ((((((f_law_other_rows s1.2 v_way v_many).bind fun x151=>Res.ok (((s1.1,x151):((Option (List Nat))×List (Int))))).bind fun x153=>Res.ok (([x153]:List (((Option (List Nat))×List (Int)))))).bind fun x154=>catR (cutL v_readings none (some v_at)) x154).bind fun x155=>catR x155 (cutL v_readings (some (v_at+((1:Int)))) none)).bind fun x157=>Res.ok (x157))))))
def f_law_spoilt(v_columns:List (List (Option (List Nat))))(v_notes:List (((Int)×List (((Option (List Nat))×List (Int))))))(v_cell:Int):Res (List (((Int)×List (((Option (List Nat))×List (Int)))))) :=
 (f_law_draw v_cell ((81:Int)) ((16:Int))).bind fun (s4:Int)=>((ixR v_columns ((0:Int))).bind fun x5=>Res.ok ((x5.length:Int))).bind fun (s6:Int)=>(f_law_draw v_cell ((82:Int)) ((v_notes.length:Int))).bind fun (s10:Int)=>((ixR v_notes s10).bind fun x11=>Res.ok (x11.1)).bind fun (s12:Int)=>((ixR v_notes s10).bind fun x13=>Res.ok (x13.2)).bind fun (s14:List (((Option (List Nat))×List (Int))))=>if decide (s4 < (2:Int)) then (((((ixR (([(v_columns.length:Int),(-((1:Int))) - s12]:List (Int))) s4).bind fun x41=>Res.ok (((x41,s14):((Int)×List (((Option (List Nat))×List (Int))))))).bind fun x43=>Res.ok (([x43]:List (((Int)×List (((Option (List Nat))×List (Int)))))))).bind fun x44=>catR v_notes x44).bind fun x46=>Res.ok (x46)) else (if decide (s4=(2:Int)) then (((catR (cutL v_notes none (some s10)) (cutL v_notes (some s10) (some (s10+((1:Int)))))).bind fun x48=>catR x48 (cutL v_notes (some s10) none)).bind fun x50=>Res.ok (x50)) else (if decide (s4=(3:Int)) then (Res.ok (v_notes.reverse)) else (if decide (s4=(15:Int)) then (Res.ok v_notes) else ((f_law_draw v_cell ((83:Int)) ((s14.length:Int))).bind fun (s55:Int)=>(((ixR v_columns s12).bind fun x57=>ixR x57 ((0:Int))).bind fun x63=>f_law_other_readings x63 s14 s4 s55 s6).bind fun (s64:List (((Option (List Nat))×List (Int))))=>((catR (cutL v_notes none (some s10)) (([((s12,s64):((Int)×List (((Option (List Nat))×List (Int)))))]:List (((Int)×List (((Option (List Nat))×List (Int)))))))).bind fun x90=>catR x90 (cutL v_notes (some (s10+((1:Int)))) none)).bind fun x92=>Res.ok (x92)))))
def f_law_kind_of(v_found:PV):Res (List Nat) :=
 (isEsB [[(4,false)],[(4,false)],[(4,false)],[(4,false)],[(4,false)],[(4,false)],[(4,false)]] v_found).bind fun b6=>if b6 then (Res.ok ((([97,110,111,116,104,101,114]:List Nat)))) else (((isEB [(4,true)] v_found).bind fun x2=>if x2 then isEB [(4,true)] v_found else Res.ok false).bind fun b5=>if b5 then (Res.ok ((([114,101,102,117,115,101,100]:List Nat)))) else (Res.ok ((([111,100,100]:List Nat)))))
def f_law_asked(v_entries:List (Option (List Nat)))(v_many:Int)(v_notes:List (((Int)×List (((Option (List Nat))×List (Int)))))):Res (((List Nat)×Option (List (List (Option (List Nat)))))) :=
 let s1:PV:=kN (()); let s2:Option (List (List (Option (List Nat)))):=none; (tryC [(4,true)] (((f_collation_back v_entries v_many v_notes).bind fun x20=>Res.ok (some x20)).bind fun (s21:Option (List (List (Option (List Nat)))))=>Res.ok ((s1,s21))) (fun (ce:Nat)=>(let s22:PV:=(PV.exo (ce+2) []); Res.ok ((s22,s2))))).bind fun s12=>(((opIsN ((tv .fz kV) s12.1).2).bind fzv).bind fun x23=>tvB x23).bind fun b39=>if b39 then (Res.ok ((((([116,111,108,100]:List Nat),s12.2):((List Nat)×Option (List (List (Option (List Nat))))))))) else (((f_law_kind_of s12.1).bind fun x36=>Res.ok (((x36,none):((List Nat)×Option (List (List (Option (List Nat)))))))).bind fun x38=>Res.ok (x38))
noncomputable def f_law_v65(v_script:List (Int)):Res (Bool) :=
 (f_law_cell_at v_script ((0:Int))).bind fun (s3:Int)=>(f_law_pool s3).bind fun (s5:List (List Nat))=>((((f_law_draw s3 ((72:Int)) ((2:Int))).bind fun x17=>ixR (([(5:Int),(29:Int)]:List (Int))) x17).bind fun x21=>f_law_draw s3 ((71:Int)) x21).bind fun x22=>Res.ok (((2:Int))+x22)).bind fun (s23:Int)=>((((repTR ((fun z=>[z]) ((([97]:List Nat):List Nat))) (s23 - ((1:Int)))).bind fun x34=>Res.ok ((List.map some) x34)).bind fun x35=>catR (([none]:List (Option (List Nat)))) x35).bind fun x37=>Res.ok (([x37]:List (List (Option (List Nat)))))).bind fun (s38:List (List (Option (List Nat))))=>(forS (fun (s39:((List (List (Option (List Nat)))))) (x40:Int)=>((f_law_column_by x40 s5 s23).bind fun x47=>appR s39 x47).bind fun (s48:List (List (Option (List Nat))))=>Res.ok s48) (cutL v_script (some ((1:Int))) (some ((21:Int)))) s38).bind fun (s49:((List (List (Option (List Nat))))))=>(catR (cutL s49 (some ((1:Int))) none) (cutL s49 none (some ((1:Int))))).bind fun (s50:List (List (Option (List Nat))))=>((noExc (mapR (fun (z51:List (Option (List Nat)))=>ixR z51 ((0:Int))) s50)).bind szR).bind fun (s52:List (Option (List Nat)))=>(f_law_notes_of s50).bind fun (s54:List (((Int)×List (((Option (List Nat))×List (Int))))))=>((catR (([s3]:List (Int))) (cutL v_script (some ((21:Int))) (some ((61:Int))))).bind fun x82=>forT (ρ:=Bool) (fun (s55:Unit) (x58:Int)=>(f_law_spoilt s50 s54 x58).bind fun (s62:List (((Int)×List (((Option (List Nat))×List (Int))))))=>(f_law_asked s52 s23 s62).bind fun (s66:((List Nat)×Option (List (List (Option (List Nat))))))=>(if !decide (s62=s54) then Res.ok (!decide (s66=((([114,101,102,117,115,101,100]:List Nat),none):((List Nat)×Option (List (List (Option (List Nat)))))))) else Res.ok false).bind fun b81=>if b81 then (Res.ok ((Ctl.rt false))) else ((f_law_asked s52 s23 s54).bind fun (s75:((List Nat)×Option (List (List (Option (List Nat))))))=>(if !decide (s75.1=([116,111,108,100]:List Nat)) then Res.ok true else (f_law_same_v1 8 ((kO (kT (kT (kO kS)))) s75.2) ((kT (kT (kO kS))) s50)).bind fun x78=>Res.ok (!x78)).bind fun b80=>if b80 then (Res.ok ((Ctl.rt false))) else (Res.ok (Ctl.nx (()))))) x82 (())).bind fun c138=>c138.then (fun (r137:Bool)=>Res.ok r137) fun (s83:Unit)=>let s91:((Int)×((List Nat)×Int)):=((((0:Int),(((([97]:List Nat),((1:Int):Int)):((List Nat)×Int)):((List Nat)×Int))):((Int)×((List Nat)×Int))):((Int)×((List Nat)×Int))); ((f_law_asked (([]:List (Option (List Nat)))) s23 ((fun z=>[(fun z=>(z.1,(fun z=>[(fun z=>(some z.1,(fun z=>[z]) z.2)) z]) z.2)) z]) s91)).bind fun x102=>Res.ok (!decide (x102=((([114,101,102,117,115,101,100]:List Nat),none):((List Nat)×Option (List (List (Option (List Nat))))))))).bind fun b136=>if b136 then (Res.ok (false)) else (((f_law_asked (([none]:List (Option (List Nat)))) ((1:Int)) ((fun z=>[(fun z=>(z.1,(fun z=>[(fun z=>(some z.1,(fun z=>[z]) z.2)) z]) z.2)) z]) s91)).bind fun x133=>Res.ok (decide (x133=((([114,101,102,117,115,101,100]:List Nat),none):((List Nat)×Option (List (List (Option (List Nat))))))))).bind fun x135=>Res.ok (x135))
end Vm
end
section
set_option linter.all false
set_option maxHeartbeats 1000000
set_option maxRecDepth 10000
namespace Vm
def Rk{α:Type}(r:Res α)(P:α→Prop):Prop:=∃ x,r = .ok x∧P x
section
variable {α β σ ι ρ:Type} {r:Res α} {P Q:α→Prop} {f:α→Res β} {T:β→Prop}
theorem Rk.ok{x:α}(h:P x):Rk (.ok x) P:=⟨x,rfl,h⟩
theorem Rk.of{x:α}(e:r = .ok x)(h:P x):Rk r P:=⟨x,e,h⟩
theorem Rk.eq{x:α}(h:Rk r (· = x)):r = .ok x:=by obtain ⟨y,h1,h2⟩:=h; rw [h1,h2]
theorem Rk.mono(h:Rk r P)(k:∀ x,P x→Q x):Rk r Q:=by obtain ⟨x,h1,h2⟩:=h; exact ⟨x,h1,k x h2⟩
theorem Rk.bind(h:Rk r P)(k:∀ x,P x→Rk (f x) T):Rk (r.bind f) T:=by
 obtain ⟨x,h1,h2⟩:=h; rw [h1]; exact k x h2
theorem Rk.bok{x:α}(e:r = .ok x)(k:Rk (f x) T):Rk (r.bind f) T:=by rw [e]; exact k
theorem Rk.itd{c:Prop}[Decidable c]{a b:Res α}(h1:c→Rk a P)(h2:¬ c→Rk b P):Rk (if decide c then a else b) P:=by
 by_cases h:c
 ·rw [if_pos (by simpa using h)]; exact h1 h
 ·rw [if_neg (by simpa using h)]; exact h2 h
theorem Rk.noExc(h:Rk r P):Rk (noExc r) P:=by obtain ⟨x,h1,h2⟩:=h; rw [h1]; exact ⟨x,rfl,h2⟩
theorem Rk.or{c:Prop}[Decidable c]{b:Res Bool}{k:Bool→Res β}(h1:c→Rk (k true) T)(h2:¬ c→Rk (b.bind k) T):Rk ((if decide c then Res.ok true else b).bind k) T:=by
 by_cases h:c
 ·rw [if_pos (by simpa using h)]; exact h1 h
 ·rw [if_neg (by simpa using h)]; exact h2 h
theorem Rk.for{F:σ→ι→Res σ}{l:List ι}{s:σ}{Q:σ→Prop}(I:Nat→σ→Prop)(h0:I 0 s)(hs:∀ i x s,l[i]? = some x→I i s→Rk (F s x) (I (i+1)))(hq:∀ s,I l.length s→Q s):Rk (forS F l s) Q:=by
 obtain ⟨s',h1,h2⟩:=forS_inv I l s h0 hs
 exact ⟨s',h1,hq s' h2⟩
theorem Rk.forU{F:Unit→ι→Res (Ctl Unit ρ)}{l:List ι}(h:∀ x∈l,Rk (F () x) (· = Ctl.nx ())):Vm.forT F l () = .ok (.nx ()) :=
 forT_all fun x hx=>(h x hx).eq
theorem Rk.maps{f:ι→Res α}{l:List ι}(G:α→Prop)(h:∀ x∈l,Rk (f x) G)(hz:l.length≤16777216):Rk ((Vm.noExc (mapR f l)).bind szR) fun ys=>ys.length=l.length∧∀ y∈ys,G y:=by
 obtain ⟨ys,h1,h2,h3⟩:=mapR_all G h hz
 exact ⟨ys,h1,h2,h3⟩
end
end Vm
end
section
set_option linter.all false
set_option maxHeartbeats 1000000
set_option maxRecDepth 10000
namespace Vm
structure DgOk (n:Nat):Prop where
 l1:1≤(natS n).length
 l4:(natS n).length≤4
 f:(natS n).all isFig=true
 h:¬ (1 < (natS n).length∧(natS n).head? = some 48)
 v:figN (natS n)=n
theorem gt_lit{α:Type}[Inhabited α]{l:List α}{i:Int}(P:α→Prop)(h:∀ x∈l,P x)(h0:0≤i)(h1:i < l.length):∃ x,ixR l i = .ok x∧P x:=⟨gt l i,ixR_gt h0 h1,h _ (gt_mem (by omega))⟩
theorem dfindPut{α β:Type}[DecidableEq α](k k':α)(v:β):∀ d:List (α×β),dfind (dput d k v) k'=if k'=k then some v else dfind d k'
 | []=>by
  unfold dput dfind
  by_cases h:k=k'
  ·simp [h]
  ·have h':¬ k'=k:=fun e=>h e.symm
   simp [h,h']
 | z :: d=>by
  have ih:=dfindPut k k' v d
  unfold dput
  by_cases h:z.1=k
  ·rw [if_pos h]
   by_cases h2:k'=k
   ·rw [if_pos h2]; simp [dfind,h,h2]
   ·rw [if_neg h2]
    have h3:¬ z.1=k':=fun e=>h2 (by rw [← e,h])
    simp [dfind,h3]
  ·rw [if_neg h]
   by_cases h3:z.1=k'
   ·have h2:¬ k'=k:=fun e=>h (by rw [h3,e])
    rw [if_neg h2]; simp [dfind,h3]
   ·have e1:dfind (z :: dput d k v) k'=dfind (dput d k v) k':=by simp [dfind,h3]
    have e2:dfind (z :: d) k'=dfind d k':=by simp [dfind,h3]
    rw [e1,e2,ih]
theorem dputLen{α β:Type}[DecidableEq α](k:α)(v:β):∀ d:List (α×β),(dput d k v).length≤d.length+1
 | []=>by simp [dput]
 | z :: d=>by
  have:=dputLen k v d
  unfold dput
  split <;> simp <;> omega
theorem dputR_ok{α β:Type}[DecidableEq α]{d:List (α×β)}{k:α}{v:β}(h:d.length < 16777216):dputR d k v = .ok (dput d k v):=if_pos h
end Vm
end
section
set_option linter.all false
set_option maxHeartbeats 1000000
set_option maxRecDepth 10000
namespace Vm
theorem Rk.forL{σ ι:Type}{F:σ→ι→Res σ}{Q:σ→Prop}(I:List ι→σ→Prop)(hs:∀ x l s,I (x :: l) s→Rk (F s x) (I l))(hq:∀ s,I [] s→Q s):∀ {l:List ι} {s:σ},I l s→Rk (forS F l s) Q
 | [],s,h=>Rk.ok (hq s h)
 | x :: l,s,h=>by rw [forS]; exact Rk.bind (hs x l s h) fun s' h'=>Rk.forL I hs hq h'
abbrev Ent:=Option (List Nat)
abbrev Col:=List Ent
abbrev Rdg:=Ent×List Int
abbrev Nte:=Int×List Rdg
def addE(b:Ent)(acc:Col)(x:Ent):Col:=if x ≠ b∧x ∉ acc then acc++[x] else acc
def entsN(c:Col):Nat→Col
 | 0=>[]
 | n+1=>addE (gt c 0) (entsN c n) (gt c n)
def rowsOf(c:Col)(e:Ent):List Int:=(rngN c.length).filter fun k=>decide (gt c k=e)
def readsOf(c:Col):List Rdg:=(entsN c c.length).map fun e=>(e,rowsOf c e)
def notesOf(cs:List Col):List Nte:=((rngN cs.length).filter fun k=>decide (readsOf (gt cs k) ≠ [])).map fun k=>(k,readsOf (gt cs k))
theorem entsN_len(c:Col):∀ n,(entsN c n).length≤n
 | 0=>Nat.le_refl _
 | n+1=>by
  have:=entsN_len c n
  unfold entsN addE
  split <;> simp <;> omega
theorem mem_entsN(c:Col)(e:Ent):∀ n,e∈entsN c n ↔ e ≠ gt c 0∧∃ k:Nat,k < n∧gt c k=e
 | 0=>by simp [entsN]
 | n+1=>by
  have ih:=mem_entsN c e n
  unfold entsN addE
  by_cases h:gt c n ≠ gt c 0∧gt c n ∉ entsN c n
  ·rw [if_pos h,List.mem_append,ih,List.mem_singleton]
   constructor
   ·rintro (⟨a,k,hk,hg⟩ | rfl)
    ·exact ⟨a,k,by omega,hg⟩
    ·exact ⟨h.1,n,by omega,rfl⟩
   ·rintro ⟨a,k,hk,hg⟩
    by_cases hkn:k=n
    ·subst hkn; exact .inr hg.symm
    ·exact .inl ⟨a,k,by omega,hg⟩
  ·rw [if_neg h,ih]
   constructor
   ·rintro ⟨a,k,hk,hg⟩; exact ⟨a,k,by omega,hg⟩
   ·rintro ⟨a,k,hk,hg⟩
    by_cases hkn:k=n
    ·subst hkn
     refine ⟨a,?_⟩
     have h2:gt c (k:Int)∈entsN c k:=Classical.byContradiction fun q=>h ⟨by rw [hg]; exact a,q⟩
     rw [hg] at h2
     exact (ih.mp h2).2
    ·exact ⟨a,k,by omega,hg⟩
theorem mem_rowsOf{c:Col}{e:Ent}{k:Int}:k∈rowsOf c e ↔ (0≤k∧k < c.length)∧gt c k=e:=by
 unfold rowsOf
 rw [List.mem_filter,mem_rngN,decide_eq_true_eq]
theorem rngN_lt(n:Nat):(rngN n).Pairwise (· < ·):=by
 unfold rngN
 rw [List.pairwise_map]
 exact (List.pairwise_lt_range (n:=n)).imp fun h=>by omega
theorem rowsOf_lt(c:Col)(e:Ent):(rowsOf c e).Pairwise (· < ·):=(rngN_lt _).sublist List.filter_sublist
theorem head_min{l:List Int}{i:Int}(hl:l.Pairwise (· < ·))(hi:i∈l)(hm:∀ k∈l,i≤k):gt l 0=i:=by
 cases l with
 | nil=>cases hi
 | cons x l =>
  show x=i
  rcases List.mem_cons.mp hi with h | h
  ·exact h.symm
  ·have:=(List.pairwise_cons.mp hl).1 i h
   have:=hm x (by simp)
   omega
theorem gt0_mem{l:List Int}(h:l ≠ []):gt l 0∈l:=by
 cases l with
 | nil=>exact absurd rfl h
 | cons x l=>exact List.mem_cons_self
def Before(r s:Rdg):Prop:=r.1 ≠ s.1∧(∀ k∈r.2,k ∉ s.2)∧gt r.2 0 < gt s.2 0
structure RdOk (b:Ent) (many:Int) (r:Rdg):Prop where
 b:r.1 ≠ b
 ne:r.2 ≠ []
 lt:r.2.Pairwise (· < ·)
 i:∀ k∈r.2,1≤k∧k < many
structure RdsOk (b:Ent) (many:Int) (rs:List Rdg):Prop where
 ne:rs ≠ []
 all:∀ r∈rs,RdOk b many r
 pw:rs.Pairwise Before
theorem ents_pw(c:Col):∀ n,n≤c.length→(entsN c n).Pairwise (fun e f=>e ≠ f∧gt (rowsOf c e) 0 < gt (rowsOf c f) 0)∧∀ e∈entsN c n,gt (rowsOf c e) 0 < n
 | 0,_=>⟨.nil,fun _ h=>nomatch h⟩
 | n+1,h=>by
  obtain ⟨p,q⟩:=ents_pw c n (by omega)
  unfold entsN addE
  by_cases hx:gt c n ≠ gt c 0∧gt c n ∉ entsN c n
  ·rw [if_pos hx]
   have hd:gt (rowsOf c (gt c n)) 0=n:=by
    refine head_min (rowsOf_lt _ _) (mem_rowsOf.mpr ⟨⟨by omega,by omega⟩,rfl⟩) fun k hk=>?_
    obtain ⟨⟨k0,k1⟩,k2⟩:=mem_rowsOf.mp hk
    refine Classical.byContradiction fun hlt=>hx.2 ((mem_entsN c _ n).mpr ⟨hx.1,k.toNat,by omega,?_⟩)
    rw [show ((k.toNat:Nat):Int)=k by omega]; exact k2
   refine ⟨List.pairwise_append.mpr ⟨p,by simp,fun e he f hf=>?_⟩,fun e he=>?_⟩
   ·rw [List.mem_singleton] at hf
    subst hf
    exact ⟨fun z=>hx.2 (z ▸ he),by rw [hd]; exact q e he⟩
   ·rcases List.mem_append.mp he with he | he
    ·have:=q e he; omega
    ·rw [List.mem_singleton] at he; rw [he,hd]; omega
  ·rw [if_neg hx]
   exact ⟨p,fun e he=>by have:=q e he; omega⟩
theorem reads_wf{c:Col}{many:Int}(hc:(c.length:Int)≤many)(hne:readsOf c ≠ []):RdsOk (gt c 0) many (readsOf c):=by
 refine ⟨hne,fun r hr=>?_,?_⟩
 ·obtain ⟨e,he,rfl⟩:=List.mem_map.mp hr
  obtain ⟨h1,k,hk,hg⟩:=(mem_entsN c e _).mp he
  refine ⟨h1,fun z=>?_,rowsOf_lt _ _,fun k hk=>?_⟩
  ·have:(k:Int)∈rowsOf c e:=mem_rowsOf.mpr ⟨⟨by omega,by omega⟩,hg⟩
   simp only at z
   rw [z] at this; cases this
  ·obtain ⟨⟨k0,k1⟩,k2⟩:=mem_rowsOf.mp hk
   refine ⟨?_,by omega⟩
   by_cases h0:k=0
   ·subst h0; exact absurd k2.symm h1
   ·omega
 ·unfold readsOf
  rw [List.pairwise_map]
  refine (ents_pw c _ (Nat.le_refl _)).1.imp fun {e f} h=>⟨h.1,fun k hk hk'=>h.1 ?_,h.2⟩
  rw [← (mem_rowsOf.mp hk).2,← (mem_rowsOf.mp hk').2]
def backOf(b:Ent)(many:Nat)(d:List (Int×Ent)):Col:=(rngN many).map fun k=>(dfind d k).getD b
def Tells(b:Ent)(many:Nat)(rs:List Rdg)(c:Col):Prop:=∃ d:List (Int×Ent),c=backOf b many d∧(∀ r∈rs,∀ k∈r.2,dfind d k=some r.1)∧∀ k,(∀ r∈rs,k ∉ r.2)→dfind d k=none
structure NotesOk (es:List Ent) (many:Int) (ns:List Nte):Prop where
 pw:ns.Pairwise fun m n=>m.1 < n.1
 i:∀ n∈ns,0≤n.1∧n.1 < es.length
 r:∀ n∈ns,RdsOk (gt es n.1) many n.2∧n.2.length≤1000∧∀ r∈n.2,r.2.length≤1000
theorem gt_set{α:Type}[Inhabited α](l:List α){i j:Int}(h0:0≤i)(hi:i < l.length)(h1:0≤j)(x:α):gt (l.set i.toNat x) j=if j=i then x else gt l j:=by
 unfold gt
 rw [List.getD,List.getD,List.getElem?_set]
 by_cases h:j=i
 ·rw [if_pos h,if_pos (by rw [h]),if_pos (by omega)]; rfl
 ·rw [if_neg h,if_neg (by omega)]
theorem tells_col{c:Col}{d:Col}(h:Tells (gt c 0) c.length (readsOf c) d):d=c:=by
 obtain ⟨t,rfl,h1,h2⟩:=h
 unfold backOf
 refine Eq.trans (List.map_congr_left fun k hk=>?_) (map_gt c)
 obtain ⟨k0,k1⟩:=mem_rngN.mp hk
 by_cases q:gt c k=gt c 0
 ·rw [h2 k,q]; rfl
  intro r hr hkr
  obtain ⟨e,he,rfl⟩:=List.mem_map.mp hr
  have:=(mem_rowsOf.mp hkr).2
  exact ((mem_entsN c e _).mp he).1 (by rw [← this,q])
 ·rw [h1 (gt c k,rowsOf c (gt c k)) (List.mem_map.mpr ⟨gt c k,(mem_entsN c _ _).mpr ⟨q,k.toNat,by omega,by rw [show ((k.toNat:Nat):Int)=k by omega]⟩,rfl⟩) k (mem_rowsOf.mpr ⟨⟨k0,k1⟩,rfl⟩)]
  rfl
theorem reads_none{c:Col}(h:readsOf c=[]):c=backOf (gt c 0) c.length []:=by
 unfold backOf
 refine Eq.trans (map_gt c).symm (List.map_congr_left fun k hk=>?_)
 obtain ⟨k0,k1⟩:=mem_rngN.mp hk
 show gt c k=gt c 0
 refine Classical.byContradiction fun q=>?_
 have:gt c k∈entsN c c.length:=(mem_entsN c _ _).mpr ⟨q,k.toNat,by omega,by rw [show ((k.toNat:Nat):Int)=k by omega]⟩
 unfold readsOf at h
 rw [List.map_eq_nil_iff] at h
 rw [h] at this; cases this
theorem reads_len(c:Col):(readsOf c).length≤c.length:=by unfold readsOf; rw [List.length_map]; exact entsN_len _ _
theorem rows_len(c:Col):∀ r∈readsOf c,r.2.length≤c.length:=fun r hr=>by
 obtain ⟨e,he,rfl⟩:=List.mem_map.mp hr
 exact Nat.le_trans (List.length_filter_le _ _) (by simp)
theorem notes_wf{cs:List Col}{many:Int}(hc:∀ c∈cs,1≤c.length∧(c.length:Int)≤many∧c.length≤1000):NotesOk (cs.map fun c=>gt c 0) many (notesOf cs):=by
 have key:∀ n∈notesOf cs,(0≤n.1∧n.1 < cs.length)∧n.2=readsOf (gt cs n.1)∧readsOf (gt cs n.1) ≠ []:=fun n hn=>by
  obtain ⟨k,hk,rfl⟩:=List.mem_map.mp hn
  obtain ⟨h1,h2⟩:=List.mem_filter.mp hk
  exact ⟨mem_rngN.mp h1,rfl,of_decide_eq_true h2⟩
 refine ⟨?_,fun n hn=>by rw [List.length_map]; exact (key n hn).1,fun n hn=>?_⟩
 ·unfold notesOf
  rw [List.pairwise_map]
  exact (rngN_lt _).sublist List.filter_sublist
 ·obtain ⟨⟨n0,n1⟩,e,ne⟩:=key n hn
  have hm:=hc _ (gt_mem (l:=cs) (i:=n.1) (by omega))
  rw [gt_map _ (by omega),e]
  exact ⟨reads_wf hm.2.1 ne,Nat.le_trans (reads_len _) hm.2.2,fun r hr=>Nat.le_trans (rows_len _ r hr) hm.2.2⟩
end Vm
end
section
set_option linter.all false
set_option maxHeartbeats 1000000
set_option maxRecDepth 10000
namespace Vm
theorem lookrows_ok{rows:List Int}{many:Int}{d:List (Int×Ent)}(hne:rows ≠ [])(hlt:rows.Pairwise (· < ·))(hi:∀ k∈rows,1≤k∧k < many∧dfind d k=none):f_look_rows rows many d = .ok ():=by
 refine Rk.eq ?_
 unfold f_look_rows
 rw [decide_eq_false (by have:=List.length_pos_iff.mpr hne; omega),if_neg (by decide)]
 refine Rk.bind (P:=fun _=>True) (Rk.forL (fun l (s:Int)=>l.Pairwise (· < ·)∧∀ k∈l,s < k∧k < many∧dfind d k=none) (fun x l s h=>?_) (fun _ _=>trivial) ⟨hlt,fun k hk=>⟨by have:=(hi k hk).1; omega,(hi k hk).2⟩⟩) fun _ _=>Rk.ok rfl
 obtain ⟨h1,h2⟩:=h
 obtain ⟨a,b,e⟩:=h2 x (by simp)
 rw [decide_eq_false (by omega),decide_eq_false (by omega),e]
 simp only [Bool.false_eq_true,if_false,bind_ok,Option.isSome_none]
 obtain ⟨p1,p2⟩:=List.pairwise_cons.mp h1
 exact Rk.ok ⟨p2,fun k hk=>⟨p1 k hk,(h2 k (by simp [hk])).2⟩⟩
theorem lookreads_ok{b:Ent}{many:Int}{rs:List Rdg}(h:RdsOk b many rs)(hm:many≤1000)(hn:rs.length≤1000)(hr:∀ r∈rs,r.2.length≤1000):Rk (f_look_readings b rs many) fun d=>(∀ r∈rs,∀ k∈r.2,dfind d k=some r.1)∧∀ k,(∀ r∈rs,k ∉ r.2)→dfind d k=none:=by
 obtain ⟨hne,hall,hpw⟩:=h
 unfold f_look_readings
 rw [decide_eq_false (by have:=List.length_pos_iff.mpr hne; omega),if_neg (by decide)]
 refine Rk.bind (P:=fun (s:List (Int×Ent)×List Ent×Int)=>(∀ r∈rs,∀ k∈r.2,dfind s.1 k=some r.1)∧∀ k,(∀ r∈rs,k ∉ r.2)→dfind s.1 k=none)
  (Rk.forL (fun l (s:List (Int×Ent)×List Ent×Int)=>∃ pre,pre++l=rs∧s.1.length≤1000 * pre.length∧s.2.1.length≤pre.length∧(∀ r∈l,r.1 ∉ s.2.1∧s.2.2 < gt r.2 0∧∀ k∈r.2,dfind s.1 k=none)∧(∀ r∈pre,∀ k∈r.2,dfind s.1 k=some r.1)∧∀ k,(∀ r∈pre,k ∉ r.2)→dfind s.1 k=none) (fun x l s hI=>?_) (fun s hI=>?_) ⟨[],rfl,by simp,by simp,fun r hr=>⟨by simp,by have:=((hall r hr).i _ (gt0_mem (hall r hr).ne)).1; show (0:Int) < _; omega,fun k _=>rfl⟩,fun _ h=>(nomatch h),fun _ _=>rfl⟩) fun s hs=>Rk.ok hs
 ·obtain ⟨pre,e,l1,l2,i1,i2,i3⟩:=hI
  obtain ⟨d,seen,first⟩:=s
  have hx:x∈rs:=by rw [← e]; simp
  have ox:=hall x hx
  obtain ⟨j1,j2,j3⟩:=i1 x (by simp)
  have hlen:pre.length+1≤1000:=by have:=congrArg List.length e; simp at this; omega
  simp only at j1 j2 j3 l1 l2 i2 i3
  have hmem:memB x.1 seen=false:=by rw [Bool.eq_false_iff]; exact fun z=>j1 (memB_iff.mp z)
  have hx2:=hr x hx
  simp only [decide_eq_false ox.b,hmem,Bool.false_eq_true,if_false,bind_ok]
  rw [lookrows_ok ox.ne ox.lt fun k hk=>⟨(ox.i k hk).1,(ox.i k hk).2,j3 k hk⟩]
  have h0:ixR x.2 0 = .ok (gt x.2 0):=ixR_gt (by omega) (by have:=List.length_pos_iff.mpr ox.ne; omega)
  simp only [bind_ok,h0,decide_eq_false (show ¬ gt x.2 0≤first by omega),Bool.false_eq_true,if_false]
  rw [appR_ok (by omega),bind_ok]
  refine Rk.bind (P:=fun (d':List (Int×Ent))=>d'.length≤d.length+x.2.length∧(∀ k∈x.2,dfind d' k=some x.1)∧∀ k,k ∉ x.2→dfind d' k=dfind d k)
   (Rk.forL (fun l' (s:List (Int×Ent))=>∃ pre',pre'++l'=x.2∧s.length≤d.length+pre'.length∧(∀ k∈pre',dfind s k=some x.1)∧∀ k,k ∉ pre'→dfind s k=dfind d k) (fun y l' s hI=>?_) (fun s hI=>?_) ⟨[],rfl,by simp,fun _ h=>(nomatch h),fun _ _=>rfl⟩) fun d' hd=>Rk.ok ?_
  ·obtain ⟨pre',e',a1,a2,a3⟩:=hI
   have hpl:pre'.length≤1000:=by have:=congrArg List.length e'; simp at this; omega
   rw [dputR_ok (by omega),bind_ok]
   refine Rk.ok ⟨pre'++[y],by simp [e'],?_,fun k hk=>?_,fun k hk=>?_⟩
   ·have:=dputLen y x.1 s; simp; omega
   ·rw [dfindPut]
    by_cases hky:k=y
    ·rw [if_pos hky]
    ·rw [if_neg hky]
     refine a2 k ?_
     rcases List.mem_append.mp hk with hk | hk
     ·exact hk
     ·rw [List.mem_singleton] at hk; exact absurd hk hky
   ·rw [dfindPut,if_neg (fun z=>hk (by simp [z]))]
    exact a3 k fun z=>hk (by simp [z])
  ·obtain ⟨pre',e',a1,a2,a3⟩:=hI
   rw [List.append_nil] at e'
   subst e'
   exact ⟨a1,a2,a3⟩
  ·obtain ⟨d1,d2,d3⟩:=hd
   have hpx:∀ r∈l,Before x r:=by
    have:=hpw
    rw [← e] at this
    exact (List.pairwise_cons.mp (List.pairwise_append.mp this).2.1).1
   refine ⟨pre++[x],by simp [e],by simp; omega,by simp; omega,fun r hrl=>?_,fun r hrp k hk=>?_,fun k hk=>?_⟩
   ·obtain ⟨b1,b2,b3⟩:=hpx r hrl
    obtain ⟨c1,c2,c3⟩:=i1 r (by simp [hrl])
    refine ⟨fun z=>?_,b3,fun k hk=>?_⟩
    ·rcases List.mem_append.mp z with z | z
     ·exact c1 z
     ·rw [List.mem_singleton] at z; exact b1 z.symm
    ·show dfind d' k=none
     rw [d3 k fun z=>b2 k z hk]; exact c3 k hk
   ·show dfind d' k=some r.1
    rcases List.mem_append.mp hrp with hp | hp
    ·rw [d3 k,i2 r hp k hk]
     intro z
     have:=j3 k z
     rw [i2 r hp k hk] at this; cases this
    ·rw [List.mem_singleton] at hp; subst hp; exact d2 k hk
   ·show dfind d' k=none
    rw [d3 k (hk x (by simp))]
    exact i3 k fun r hr=>hk r (by simp [hr])
 ·obtain ⟨pre,e,_,_,_,i2,i3⟩:=hI
  rw [List.append_nil] at e
  subst e
  exact ⟨i2,i3⟩
theorem colback_ok{b:Ent}{many:Nat}{d:List (Int×Ent)}(h:many≤1000):f_column_back b (many:Int) d = .ok (backOf b many d):=by
 unfold f_column_back
 rw [rngR_nat (by omega),bind_ok,mapR_sz (fun k=>(dfind d k).getD b) (fun _ _=>rfl) (by simp; omega)]
 rfl
theorem collback_ok{es:List Ent}{many:Nat}{ns:List Nte}(h:NotesOk es many ns)(hm:many≤1000)(he:es.length≤1200):Rk (f_collation_back es (many:Int) ns) fun cs=>cs.length=es.length∧(∀ n∈ns,Tells (gt es n.1) many n.2 (gt cs n.1))∧∀ i:Int,0≤i→i < es.length→(∀ n∈ns,n.1 ≠ i)→gt cs i=backOf (gt es i) many []:=by
 obtain ⟨hpw,hi,hr⟩:=h
 unfold f_collation_back
 rw [mapR_sz (fun e=>backOf e many []) (fun e _=>colback_ok hm) (by omega),bind_ok]
 refine Rk.bind (P:=fun (s:List Col×Int)=>s.1.length=es.length∧(∀ n∈ns,Tells (gt es n.1) many n.2 (gt s.1 n.1))∧∀ i:Int,0≤i→i < es.length→(∀ n∈ns,n.1 ≠ i)→gt s.1 i=backOf (gt es i) many [])
  (Rk.forL (fun l (s:List Col×Int)=>∃ pre,pre++l=ns∧s.1.length=es.length∧(∀ n∈l,s.2 < n.1)∧(∀ n∈pre,Tells (gt es n.1) many n.2 (gt s.1 n.1))∧∀ i:Int,0≤i→i < es.length→(∀ n∈pre,n.1 ≠ i)→gt s.1 i=backOf (gt es i) many []) (fun x l s hI=>?_) (fun s hI=>?_) ⟨[],rfl,by simp,fun n hn=>?_,fun _ h=>(nomatch h),fun i i0 i1 _=>gt_map _ (by omega)⟩) fun s hs=>Rk.ok hs
 ·obtain ⟨pre,e,l1,i1,i2,i3⟩:=hI
  obtain ⟨cs,last⟩:=s
  have hx:x∈ns:=by rw [← e]; simp
  obtain ⟨x0,x1⟩:=hi x hx
  obtain ⟨r1,r2,r3⟩:=hr x hx
  have xl:=i1 x (by simp)
  simp only at xl l1 i2 i3
  simp only [decide_eq_false (show ¬ x.1≤last by omega),decide_eq_false (show ¬ (es.length:Int)≤x.1 by omega),Bool.false_eq_true,if_false,bind_ok,ixR_gt (l:=es) x0 x1]
  rw [bind_assoc,bind_assoc]
  refine Rk.bind (lookreads_ok r1 (by omega) r2 r3) fun d hd=>?_
  rw [colback_ok hm,bind_ok,setR_ok x0 (by omega),bind_ok]
  have hpx:(∀ n∈l,x.1 < n.1)∧∀ n∈pre,n.1 < x.1:=by
   have:=hpw
   rw [← e] at this
   obtain ⟨_,q,q2⟩:=List.pairwise_append.mp this
   exact ⟨(List.pairwise_cons.mp q).1,fun n hn=>q2 n hn x (by simp)⟩
  refine Rk.ok ⟨pre++[x],by simp [e],by simp [l1],fun n hn=>hpx.1 n hn,fun n hn=>?_,fun i h0 h1 hne=>?_⟩
  ·show Tells _ _ _ (gt (cs.set x.1.toNat _) n.1)
   rcases List.mem_append.mp hn with hn | hn
   ·have:=hpx.2 n hn
    have hn':n∈ns:=by rw [← e]; simp [hn]
    rw [gt_set cs x0 (by omega) (hi n hn').1,if_neg (by omega)]
    exact i2 n hn
   ·rw [List.mem_singleton] at hn
    subst hn
    rw [gt_set cs x0 (by omega) x0,if_pos rfl]
    exact ⟨d,rfl,hd⟩
  ·show gt (cs.set x.1.toNat _) i=_
   have hxi:=hne x (by simp)
   rw [gt_set cs x0 (by omega) h0,if_neg fun z=>hxi z.symm]
   exact i3 i h0 h1 fun n hn=>hne n (by simp [hn])
 ·obtain ⟨pre,e,l1,_,i2,i3⟩:=hI
  rw [List.append_nil] at e
  subst e
  exact ⟨l1,i2,i3⟩
 ·have:=(hi n hn).1
  show (-1:Int) < n.1
  omega
end Vm
end
section
set_option linter.all false
set_option maxHeartbeats 1000000
set_option maxRecDepth 10000
namespace Vm
def Xk{α:Type}(r:Res α)(P:α→Prop):Prop:=r = .exc 4 ∨ ∃ x,r = .ok x∧P x
theorem Xk.ok{α:Type}{x:α}{P:α→Prop}(h:P x):Xk (.ok x) P:=.inr ⟨x,rfl,h⟩
theorem Xk.exc{α:Type}{P:α→Prop}:Xk (.exc 4:Res α) P:=.inl rfl
theorem Xk.bind{α β:Type}{r:Res α}{P:α→Prop}{f:α→Res β}{Q:β→Prop}(h:Xk r P)(k:∀ x,P x→Xk (f x) Q):Xk (r.bind f) Q:=by
 rcases h with h | ⟨x,h,p⟩
 ·rw [h]; exact .inl rfl
 ·rw [h]; exact k x p
theorem Xk.mono{α:Type}{r:Res α}{P Q:α→Prop}(h:Xk r P)(k:∀ x,P x→Q x):Xk r Q:=by
 rcases h with h | ⟨x,h,p⟩
 ·exact .inl h
 ·exact .inr ⟨x,h,k x p⟩
theorem Xk.forS{σ ι:Type}{F:σ→ι→Res σ}(I:List ι→σ→Prop)(hs:∀ pre x s,I pre s→Xk (F s x) (I (pre++[x]))):∀ (l pre:List ι) (s:σ),I pre s→Xk (Vm.forS F l s) (I (pre++l))
 | [],pre,s,h=>by rw [List.append_nil]; exact Xk.ok h
 | x :: l,pre,s,h=>by
  rw [Vm.forS]
  refine Xk.bind (hs pre x s h) fun s' h'=>?_
  have:=Xk.forS I hs l (pre++[x]) s' h'
  rw [List.append_assoc] at this
  exact this
def RwsOk(rows:List Int)(many:Int)(d:List (Int×Ent)):Prop:=rows ≠ []∧rows.Pairwise (· < ·)∧∀ k∈rows,1≤k∧k < many∧dfind d k=none
theorem rows_conv(rows:List Int)(many:Int)(d:List (Int×Ent)):Xk (f_look_rows rows many d) fun _=>RwsOk rows many d:=by
 unfold f_look_rows
 by_cases h0:(rows.length:Int)=0
 ·rw [if_pos (decide_eq_true h0)]; exact Xk.exc
 ·rw [if_neg (by simpa using h0)]
  have hne:rows ≠ []:=fun e=>h0 (by rw [e]; rfl)
  refine Xk.bind (Xk.forS (fun pre (s:Int)=>0≤s∧pre.Pairwise (· < ·)∧∀ k∈pre,k≤s∧1≤k∧k < many∧dfind d k=none) (fun pre x s hI=>?_) rows [] 0 ⟨by decide,.nil,fun _ h=>(nomatch h)⟩) fun s hs=>Xk.ok ⟨hne,hs.2.1,fun k hk=>(hs.2.2 k hk).2⟩
  obtain ⟨i0,i1,i2⟩:=hI
  by_cases c1:x≤s
  ·rw [if_pos (decide_eq_true c1),bind_ok]; exact Xk.exc
  by_cases c2:many≤x
  ·rw [if_neg (by simpa using c1),if_pos (decide_eq_true c2),bind_ok]; exact Xk.exc
  rw [if_neg (by simpa using c1),if_neg (by simpa using c2),bind_ok]
  cases c3:dfind d x with
  | some _=>exact Xk.exc
  | none =>
   refine Xk.ok ⟨by omega,List.pairwise_append.mpr ⟨i1,List.pairwise_singleton _ _,fun a ha b hb=>?_⟩,fun k hk=>?_⟩
   ·rw [List.mem_singleton] at hb
    have:=(i2 a ha).1
    omega
   ·rcases List.mem_append.mp hk with q | q
    ·obtain ⟨a,b⟩:=i2 k q
     exact ⟨by omega,b⟩
    ·rw [List.mem_singleton] at q
     rw [q]
     exact ⟨by omega,by omega,by omega,c3⟩
theorem put_all(v:Ent):∀ (rows:List Int) (d:List (Int×Ent)),d.length+rows.length≤16777216→Rk (forS (fun (s13:List (Int×Ent)) (x14:Int)=>(dputR s13 x14 v).bind fun (s15:List (Int×Ent))=>Res.ok s15) rows d) fun d'=>d'.length≤d.length+rows.length∧(∀ k∈rows,(dfind d' k).isSome=true)∧∀ k,(dfind d k).isSome=true→(dfind d' k).isSome=true
 | [],d,_=>Rk.ok ⟨by simp,fun _ h=>(nomatch h),fun _ h=>h⟩
 | x :: rows,d,h=>by
  rw [forS]
  rw [List.length_cons] at h
  rw [dputR_ok (by omega),bind_ok,bind_ok]
  have hl:=dputLen x v d
  refine Rk.mono (put_all v rows (dput d x v) (by omega)) fun d' ⟨a,b,e⟩=>⟨by rw [List.length_cons]; omega,fun k hk=>?_,fun k hk=>e k ?_⟩
  ·rcases List.mem_cons.mp hk with q | q
   ·rw [q]
    exact e x (by rw [dfindPut,if_pos rfl]; rfl)
   ·exact b k q
  ·rw [dfindPut]
   by_cases q:k=x
   ·rw [if_pos q]; rfl
   ·rw [if_neg q]; exact hk
theorem reads_conv{b:Ent}{many:Int}{rs:List Rdg}(hn:rs.length≤1000)(hr:∀ r∈rs,r.2.length≤1000):Xk (f_look_readings b rs many) fun _=>RdsOk b many rs:=by
 unfold f_look_readings
 by_cases h0:(rs.length:Int)=0
 ·rw [if_pos (decide_eq_true h0)]; exact Xk.exc
 rw [if_neg (by simpa using h0)]
 have hne:rs ≠ []:=fun e=>h0 (by rw [e]; rfl)
 have key:∀ (l pre:List Rdg) (s:List (Int×Ent)×List Ent×Int),pre++l=rs→((∀ r∈pre,RdOk b many r)∧pre.Pairwise Before∧(∀ r∈pre,r.1∈s.2.1)∧(∀ r∈pre,∀ k∈r.2,(dfind s.1 k).isSome=true)∧(∀ r∈pre,gt r.2 0≤s.2.2)∧s.2.1.length≤pre.length∧s.1.length≤1000 * pre.length) →
   Xk (forS (fun (s4:((List ((Int)×(Option (List Nat))))×(List (Option (List Nat)))×(Int))) (x5:((Option (List Nat))×List (Int)))=>(if decide (x5.1=b) then Res.ok true else Res.ok (memB x5.1 s4.2.1)).bind fun b18=>if b18 then (Res.exc 4) else (((f_look_rows x5.2 many s4.1).bind fun _=>Res.ok ()).bind fun (s9:Unit)=>((ixR x5.2 ((0:Int))).bind fun x10=>Res.ok (decide (x10≤s4.2.2))).bind fun b17=>if b17 then (Res.exc 4) else ((ixR x5.2 ((0:Int))).bind fun (s11:Int)=>(appR s4.2.1 x5.1).bind fun (s12:List (Option (List Nat)))=>(forS (fun (s13:((List ((Int)×(Option (List Nat)))))) (x14:Int)=>(dputR s13 x14 x5.1).bind fun (s15:List ((Int)×(Option (List Nat))))=>Res.ok s15) x5.2 s4.1).bind fun (s16:((List ((Int)×(Option (List Nat))))))=>Res.ok ((s16,s12,s11))))) l s) fun _=>(∀ r∈rs,RdOk b many r)∧rs.Pairwise Before:=by
  intro l
  induction l with
  | nil =>
   intro pre s e h
   rw [List.append_nil] at e
   subst e
   exact Xk.ok ⟨h.1,h.2.1⟩
  | cons x l ih =>
   intro pre s e h
   obtain ⟨d,seen,last⟩:=s
   obtain ⟨i1,i2,i3,i4,i5,i6,i7⟩:=h
   have hx:x∈rs:=by rw [← e]; simp
   have hx2:=hr x hx
   have hpl:pre.length+1≤1000:=by have:=congrArg List.length e; simp at this; omega
   simp only at i3 i4 i5 i6 i7
   rw [forS]
   simp only
   by_cases c1:x.1=b
   ·rw [if_pos (decide_eq_true c1),bind_ok]; exact Xk.bind (P:=fun _=>False) Xk.exc fun _ h=>h.elim
   rw [if_neg (by simpa using c1),bind_ok]
   by_cases c2:memB x.1 seen=true
   ·rw [if_pos c2]; exact Xk.bind (P:=fun _=>False) Xk.exc fun _ h=>h.elim
   rw [if_neg c2]
   have c2':x.1 ∉ seen:=fun q=>c2 (memB_iff.mpr q)
   rcases rows_conv x.2 many d with q | ⟨_,q,r1,r2,r3⟩
   ·rw [q]; exact .inl rfl
   rw [q,bind_ok,bind_ok]
   have hpos:=List.length_pos_iff.mpr r1
   have h0':ixR x.2 0 = .ok (gt x.2 0):=ixR_gt (by omega) (by omega)
   rw [h0',bind_ok,bind_ok]
   by_cases c3:gt x.2 0≤last
   ·rw [if_pos (decide_eq_true c3)]; exact Xk.bind (P:=fun _=>False) Xk.exc fun _ h=>h.elim
   rw [if_neg (by simpa using c3),bind_ok,appR_ok (by omega),bind_ok]
   obtain ⟨d',q1,q2,q3,q4⟩:=put_all x.1 x.2 d (by omega)
   rw [q1,bind_ok,bind_ok]
   refine ih (pre++[x]) _ (by rw [List.append_assoc]; exact e) ⟨?_,?_,?_,?_,?_,?_,?_⟩
   ·intro r hrr
    rcases List.mem_append.mp hrr with w | w
    ·exact i1 r w
    ·rw [List.mem_singleton] at w
     rw [w]
     exact ⟨c1,r1,r2,fun k hk=>⟨(r3 k hk).1,(r3 k hk).2.1⟩⟩
   ·refine List.pairwise_append.mpr ⟨i2,List.pairwise_singleton _ _,fun r hrr y hy=>?_⟩
    rw [List.mem_singleton] at hy
    rw [hy]
    refine ⟨fun w=>c2' (by rw [← w]; exact i3 r hrr),fun k hk hk2=>?_,by have:=i5 r hrr; omega⟩
    have a:=i4 r hrr k hk
    rw [(r3 k hk2).2.2] at a
    cases a
   ·intro r hrr
    rcases List.mem_append.mp hrr with w | w
    ·exact List.mem_append_left _ (i3 r w)
    ·rw [List.mem_singleton] at w; rw [w]; simp
   ·intro r hrr k hk
    rcases List.mem_append.mp hrr with w | w
    ·exact q4 k (i4 r w k hk)
    ·rw [List.mem_singleton] at w; rw [w] at hk; exact q3 k hk
   ·intro r hrr
    rcases List.mem_append.mp hrr with w | w
    ·have:=i5 r w
     show _≤gt x.2 0
     omega
    ·rw [List.mem_singleton] at w; rw [w]; exact Int.le_refl _
   ·show (seen++[x.1]).length≤(pre++[x]).length
    rw [List.length_append,List.length_append,List.length_singleton,List.length_singleton]; omega
   ·show d'.length≤1000 * (pre++[x]).length
    rw [List.length_append,List.length_singleton]; omega
 refine Xk.bind (key rs [] _ rfl ⟨fun _ h=>(nomatch h),.nil,fun _ h=>(nomatch h),fun _ h=>(nomatch h),fun _ h=>(nomatch h),by simp,by simp⟩) fun s hs=>Xk.ok ⟨hne,hs.1,hs.2⟩
end Vm
end
section
set_option linter.all false
set_option maxHeartbeats 1000000
set_option maxRecDepth 10000
namespace Vm
theorem coll_conv{es:List Ent}{many:Nat}{ns:List Nte}(hm:many≤1000)(he:es.length≤1200)(hr:∀ n∈ns,n.2.length≤1000∧∀ r∈n.2,r.2.length≤1000):Xk (f_collation_back es (many:Int) ns) fun _=>NotesOk es many ns:=by
 unfold f_collation_back
 rw [mapR_sz (fun e=>backOf e many []) (fun e _=>colback_ok hm) (by omega),bind_ok]
 have key:∀ (l pre:List Nte) (s:List Col×Int),pre++l=ns→(s.1.length=es.length∧-1≤s.2∧pre.Pairwise (fun m n=>m.1 < n.1)∧∀ n∈pre,n.1≤s.2∧0≤n.1∧n.1 < es.length∧RdsOk (gt es n.1) many n.2) →
   Xk (forS (fun (s7:((List (List (Option (List Nat))))×(Int))) (x8:((Int)×List (((Option (List Nat))×List (Int)))))=>(if decide (x8.1≤s7.2) then Res.ok true else Res.ok (decide ((es.length:Int)≤x8.1))).bind fun b38=>if b38 then (Res.exc 4) else (let s9:Int:=x8.1; (((ixR es x8.1).bind fun x34=>((ixR es x8.1).bind fun x30=>f_look_readings x30 x8.2 (many:Int)).bind fun x35=>f_column_back x34 (many:Int) x35).bind fun x36=>setR s7.1 x8.1 x36).bind fun (s37:List (List (Option (List Nat))))=>Res.ok ((s37,s9)))) l s) fun _=>NotesOk es many ns:=by
  intro l
  induction l with
  | nil =>
   intro pre s e h
   rw [List.append_nil] at e
   subst e
   exact Xk.ok ⟨h.2.2.1,fun n hn=>⟨(h.2.2.2 n hn).2.1,(h.2.2.2 n hn).2.2.1⟩,fun n hn=>⟨(h.2.2.2 n hn).2.2.2,(hr n hn).1,(hr n hn).2⟩⟩
  | cons x l ih =>
   intro pre s e h
   obtain ⟨cols,last⟩:=s
   obtain ⟨i1,i2,i3,i4⟩:=h
   have hx:x∈ns:=by rw [← e]; simp
   simp only at i1 i2 i4
   rw [forS]
   simp only
   by_cases c1:x.1≤last
   ·rw [if_pos (decide_eq_true c1),bind_ok]; exact Xk.bind (P:=fun _=>False) Xk.exc fun _ h=>h.elim
   rw [if_neg (by simpa using c1),bind_ok]
   by_cases c2:(es.length:Int)≤x.1
   ·rw [if_pos (decide_eq_true c2)]; exact Xk.bind (P:=fun _=>False) Xk.exc fun _ h=>h.elim
   rw [if_neg (by simpa using c2)]
   have x0:0≤x.1:=by omega
   rw [ixR_gt x0 (by omega),bind_ok,bind_ok]
   rcases reads_conv (b:=gt es x.1) (many:=(many:Int)) (rs:=x.2) (hr x hx).1 (hr x hx).2 with q | ⟨d,q,hd⟩
   ·rw [q]; exact .inl rfl
   rw [q,bind_ok,colback_ok hm,bind_ok,setR_ok x0 (by omega),bind_ok,bind_ok]
   refine ih (pre++[x]) _ (by rw [List.append_assoc]; exact e) ⟨by simp [i1],by show -1≤x.1; omega,?_,?_⟩
   ·refine List.pairwise_append.mpr ⟨i3,List.pairwise_singleton _ _,fun r hrr y hy=>?_⟩
    rw [List.mem_singleton] at hy
    rw [hy]
    have:=(i4 r hrr).1
    omega
   ·intro n hn
    rcases List.mem_append.mp hn with w | w
    ·obtain ⟨a,b⟩:=i4 n w
     exact ⟨by show n.1≤x.1; omega,b⟩
    ·rw [List.mem_singleton] at w
     rw [w]
     exact ⟨Int.le_refl _,x0,by omega,hd⟩
 exact Xk.bind (key ns [] _ rfl ⟨by simp,Int.le_refl _,.nil,fun _ h=>(nomatch h)⟩) fun s hs=>Xk.ok hs
theorem asked_ok{es:List Ent}{many:Int}{ns:List Nte}{P:List Col→Prop}(h:Xk (f_collation_back es many ns) P):(f_law_asked es many ns = .ok ([114,101,102,117,115,101,100],none)) ∨ ∃ X,P X∧f_collation_back es many ns = .ok X∧f_law_asked es many ns = .ok ([116,111,108,100],some X):=by
 unfold f_law_asked
 rcases h with h | ⟨X,h,p⟩
 ·left
  rw [h]; rfl
 ·right
  refine ⟨X,p,h,?_⟩
  rw [h]; rfl
theorem pw_rev{l:List Int}(h:l.Pairwise (· < ·))(g:l.reverse.Pairwise (· < ·)):l.length≤1:=by
 match l,h,g with
 | [],_,_=>simp
 | [_],_,_=>simp
 | a :: b :: l,h,g =>
  have g:=List.pairwise_reverse.mp g
  have h1:=(List.pairwise_cons.mp h).1 b (by simp)
  have h2:=(List.pairwise_cons.mp g).1 b (by simp)
  omega
theorem rev1{α:Type}{l:List α}(h:l.length≤1):l.reverse=l:=by
 match l,h with
 | [],_=>rfl
 | [_],_=>rfl
 | _ :: _ :: _,h=>simp at h
theorem orows_ok{b:Ent}{many:Int}{r:Rdg}(h:RdOk b many r)(hl:r.2.length≤500)(way:Int):Rk (f_law_other_rows r.2 way many) fun R=>R.length≤1000∧(R=r.2 ∨ ¬ RdOk b many (r.1,R)):=by
 unfold f_law_other_rows
 refine Rk.itd (fun _=>Rk.ok ⟨by simp; omega,?_⟩) fun _=>Rk.itd (fun _=>?_) fun _=>Rk.itd (fun _=>?_) fun _=>Rk.itd (fun _=>?_) fun _=>Rk.itd (fun _=>Rk.ok ⟨by simp,.inr fun g=>g.ne rfl⟩) fun _=>?_
 ·by_cases q:r.2.length≤1
  ·exact .inl (rev1 q)
  ·exact .inr fun g=>q (pw_rev h.lt g.lt)
 ·rw [catR_ok (by simp; omega),bind_ok]
  exact Rk.ok ⟨by simp; omega,.inr fun g=>by have:=(g.i 0 (by simp)).1; omega⟩
 ·rw [catR_ok (by simp; omega),bind_ok]
  refine Rk.ok ⟨by simp; omega,.inr fun g=>?_⟩
  have h1:=(g.i (many+(r.2.length:Int) % 3) (by simp)).2
  have h2:=Int.emod_nonneg (r.2.length:Int) (show (3:Int) ≠ 0 by decide)
  omega
 ·rw [cut_take (by decide),catR_ok (by simp; omega),bind_ok]
  refine Rk.ok ⟨by simp; omega,.inr fun g=>?_⟩
  cases hr:r.2 with
  | nil=>exact h.ne hr
  | cons a l =>
   have gl:=g.lt
   rw [hr] at gl
   have:=(List.pairwise_cons.mp (show (a :: a :: l).Pairwise (· < ·) from gl)).1 a (by simp)
   omega
 ·rw [catR_ok (by simp; omega),bind_ok]
  refine Rk.ok ⟨by simp; omega,.inr fun g=>?_⟩
  have:=(g.i (-1 - (r.2.length:Int)) (by simp)).1
  omega
end Vm
end
section
set_option linter.all false
set_option maxHeartbeats 1000000
set_option maxRecDepth 10000
namespace Vm
structure Lin {α:Type} (lt:α→α→Bool):Prop where
 irr:∀ a,lt a a=false
 tr:∀ a b c,lt a b=true→lt b c=true→lt a c=true
 tri:∀ a b,a=b ∨ lt a b=true ∨ lt b a=true
end Vm
end
section
set_option linter.all false
set_option maxHeartbeats 1000000
set_option maxRecDepth 10000
namespace Vm
def okC(n:Nat)(c:Int):Prop:=c.natAbs < 2 ^ n
theorem draw_ex{n:Nat}{cell k many:Int}(hc:okC n cell)(hn:n≤2000000)(k0:0≤k)(k1:k < 2 ^ 20)(hm:0 < many):∃ d,f_law_draw cell k many = .ok d∧0≤d∧d < many:=by
 unfold f_law_draw
 have p0:(0:Int) < 170141183460469231731687303715884105727:=by decide
 have kk:(k * k).natAbs < 2 ^ 40:=by
  rw [Int.natAbs_mul]
  exact Nat.lt_of_lt_of_le (Nat.mul_lt_mul'' (show k.natAbs < 2 ^ 20 by omega) (show k.natAbs < 2 ^ 20 by omega)) (by decide)
 have kk2:0≤k * k:=Int.mul_nonneg k0 k0
 have cell2:(cell * 2+1).natAbs < 2 ^ (n+2):=by
  unfold okC at hc
  rw [Nat.pow_succ,Nat.pow_succ]
  generalize 2 ^ n=B at *
  omega
 have h0:=fun z:Int=>Int.emod_nonneg z (show (170141183460469231731687303715884105727:Int) ≠ 0 by decide)
 have h1:=fun z:Int=>Int.emod_lt_of_pos z p0
 simp only [mulR_ok (i:=cell) (j:=2) hc (show (2:Int).natAbs < 2 ^ 2 by decide) (show n+2 < 50000000 by omega),bind_ok,mulR_ok (i:=k) (j:=k) (m:=20) (n:=20) (by omega) (by omega) (by omega),mulR_ok (i:=k * k) (j:=9176023) (m:=40) (n:=24) kk (by decide) (by omega)]
 rw [mulR_ok (i:=cell * 2+1) (m:=n+2) (n:=80) cell2 (by omega) (by omega)]
 simp only [bind_ok,modR_ok p0]
 have w0:=h0 ((cell * 2+1) * (k * k * 9176023+84127918273645463728191))
 have w1:=h1 ((cell * 2+1) * (k * k * 9176023+84127918273645463728191))
 generalize (cell * 2+1) * (k * k * 9176023+84127918273645463728191) % 170141183460469231731687303715884105727=w at *
 rw [mulR_ok (i:=w) (j:=w+5) (m:=128) (n:=129) (by omega) (by omega) (by omega)]
 simp only [bind_ok,modR_ok p0,modR_ok hm]
 exact ⟨_,rfl,Int.emod_nonneg _ (by omega),Int.emod_lt_of_pos _ hm⟩
def drawF(cell k many:Int):Int:=match f_law_draw cell k many with
 | .ok d=>d
 | _=>0
theorem draw_ok{n:Nat}{cell k many:Int}(hc:okC n cell)(hn:n≤2000000)(k0:0≤k)(k1:k < 2 ^ 20)(hm:0 < many):f_law_draw cell k many = .ok (drawF cell k many)∧0≤drawF cell k many∧drawF cell k many < many:=by
 obtain ⟨d,h1,h2,h3⟩:=draw_ex hc hn k0 k1 hm
 unfold drawF
 rw [h1]
 exact ⟨rfl,h2,h3⟩
end Vm
end
section
set_option linter.all false
set_option maxHeartbeats 1000000
set_option maxRecDepth 10000
namespace Vm
def fine(w:List Nat):Prop:=1≤w.length∧w.length≤12∧∀ c∈w,97≤c∧c≤122
def okW(o:Option (List Nat)):Prop:=∀ w,o=some w→fine w
theorem letter_ok{i:Int}(h0:0≤i)(h1:i < 26):∃ c,((ixR (([97,98,99,100,101,102,103,104,105,106,107,108,109,110,111,112,113,114,115,116,117,118,119,120,121,122]:List Nat)) i).bind fun z=>Res.ok [z]) = .ok [c]∧97≤c∧c≤122:=by
 obtain ⟨c,h,h2⟩:=gt_lit (l:=([97,98,99,100,101,102,103,104,105,106,107,108,109,110,111,112,113,114,115,116,117,118,119,120,121,122]:List Nat)) (fun c=>97≤c∧c≤122) (by decide) h0 h1
 exact ⟨c,by rw [h]; rfl,h2⟩
section
variable {n:Nat} {cell:Int}
theorem word_ok(hc:okC n cell)(hn:n≤2000000){k:Int}(k0:0≤k)(k1:k≤10):Rk (f_law_word_by cell k) fine:=by
 unfold f_law_word_by
 rw [mulR_ok (i:=10) (j:=k) (m:=8) (n:=8) (by decide) (by omega) (by omega),bind_ok,bind_ok]
 obtain ⟨a1,a2,a3⟩:=draw_ok (k:=10 * k+1) (many:=4) hc hn (by omega) (by omega) (by decide)
 rw [a1,bind_ok]
 obtain ⟨z,z1,z2⟩:=gt_lit (l:=([(1:Int),2,3,12])) (fun x=>1≤x∧x≤12) (by decide) a2 (show drawF cell (10 * k+1) 4 < (([(1:Int),2,3,12]).length:Int) from a3)
 simp only [z1,rngR_int (show 0≤z by omega) (show z≤1000000000 by omega),bind_ok]
 refine Rk.bind (P:=fine) (Rk.for (fun i (s:List Nat)=>s.length=i∧∀ c∈s,97≤c∧c≤122) ⟨rfl,fun _ h=>(nomatch h)⟩ (fun i x s hx hs=>?_) fun s hs=>?_) fun s hs=>Rk.ok hs
 ·obtain ⟨rfl,hi⟩:=rngN_get hx
  obtain ⟨hs1,hs2⟩:=hs
  rw [mulR_ok (i:=20) (j:=k) (m:=8) (n:=8) (by decide) (by omega) (by omega),bind_ok,bind_ok,bind_ok]
  obtain ⟨b1,b2,b3⟩:=draw_ok (k:=300+20 * k+(i:Int)) (many:=26) hc hn (by omega) (by omega) (by decide)
  rw [b1,bind_ok]
  obtain ⟨c,hc1,hc2⟩:=letter_ok b2 b3
  rw [hc1,bind_ok,catR_ok (by simp; omega),bind_ok]
  refine Rk.ok ⟨by simp [hs1],fun d hd=>?_⟩
  rcases List.mem_append.mp hd with hd | hd
  ·exact hs2 d hd
  ·rw [List.mem_singleton] at hd; rw [hd]; exact hc2
 ·rw [rngN_length] at hs
  exact ⟨by omega,by omega,hs.2⟩
theorem pool_ok(hc:okC n cell)(hn:n≤2000000):Rk (f_law_pool cell) fun p=>p.length=5∧∀ w∈p,fine w:=by
 unfold f_law_pool
 rw [show rngR 4 = .ok (rngN 4) from rngR_nat (n:=4) (by decide),bind_ok]
 refine Rk.bind (Rk.maps fine (fun k hk=>word_ok hc hn (mem_rngN.mp hk).1 (by have:=(mem_rngN.mp hk).2; omega)) (by simp)) fun ws hw=>?_
 obtain ⟨g2,g3⟩:=hw
 rw [rngN_length] at g2
 obtain ⟨w0,e1,e2⟩:=gt_lit (l:=ws) (i:=0) fine g3 (by decide) (by omega)
 obtain ⟨w1,w2,w3⟩:=e2
 obtain ⟨a1,a2,a3⟩:=draw_ok (k:=61) (many:=(w0.length:Int)) hc hn (by decide) (by decide) (by omega)
 obtain ⟨b1,b2,b3⟩:=draw_ok (k:=62) (many:=26) hc hn (by decide) (by decide) (by decide)
 obtain ⟨c,hc1,hc2⟩:=letter_ok b2 b3
 simp only [e1,bind_ok,a1,b1,hc1]
 generalize drawF cell 61 (w0.length:Int)=d at *
 rw [cut_take a2,cut_drop (show 0≤d+1 by omega),catR_ok (by simp; omega),bind_ok,catR_ok (by simp; omega),bind_ok,bind_ok,catR_ok (by simp; omega)]
 refine Rk.ok ⟨by simp [g2],fun w hw=>?_⟩
 rcases List.mem_append.mp hw with hw | hw
 ·exact g3 w hw
 ·rw [List.mem_singleton] at hw
  rw [hw]
  have hl:(w0.take d.toNat++[c]++w0.drop (d+1).toNat).length=w0.length:=by simp; omega
  refine ⟨by omega,by omega,fun z hz=>?_⟩
  rcases List.mem_append.mp hz with hz | hz
  ·rcases List.mem_append.mp hz with hz | hz
   ·exact w3 z (List.mem_of_mem_take hz)
   ·rw [List.mem_singleton] at hz; rw [hz]; exact hc2
  ·exact w3 z (List.mem_of_mem_drop hz)
theorem column_ok(hc:okC n cell)(hn:n≤2000000){p:List (List Nat)}(hp:p.length≤10)(hw:∀ w∈p,fine w){many:Int}(m0:1≤many)(m1:many≤1000):Rk (f_law_column_by cell p many) fun c=>c.length=many.toNat∧∀ o∈c,okW o:=by
 unfold f_law_column_by
 rw [catR_ok (by simp; omega),bind_ok]
 have hs:∀ o∈p.map some++[none],okW o:=fun o ho=>by
  rcases List.mem_append.mp ho with ho | ho
  ·obtain ⟨w,h,rfl⟩:=List.mem_map.mp ho
   intro w' e
   cases e
   exact hw w h
  ·rw [List.mem_singleton] at ho
   rw [ho]; intro w e; cases e
 have hl:(p.map some++[none]).length≤11:=by simp; omega
 have hl1:1≤(p.map some++[none]).length:=by simp
 generalize p.map some++[none]=some' at *
 obtain ⟨a1,a2,a3⟩:=draw_ok (k:=1) (many:=(some'.length:Int)) hc hn (by decide) (by decide) (by omega)
 obtain ⟨e,e1,e2⟩:=gt_lit (l:=some') okW hs a2 a3
 rw [a1,bind_ok,e1,bind_ok,bind_ok,rng2R_ok (by omega) (by omega) (by omega) (by omega),bind_ok]
 refine Rk.bind (P:=fun c=>c.length=many.toNat∧∀ o∈c,okW o) (Rk.for (fun i (s:List (Option (List Nat)))=>s.length=i+1∧∀ o∈s,okW o) ⟨rfl,fun o ho=>by rw [List.mem_singleton] at ho; rw [ho]; exact e2⟩ (fun i x s hx hs=>?_) fun s hs=>?_) fun c hc=>Rk.ok hc
 ·obtain ⟨hs1,hs2⟩:=hs
  obtain ⟨x0,x1⟩:=mem_rngI.mp (List.mem_of_getElem? hx)
  have hi:i < (rngI 1 many).length:=(List.getElem?_eq_some_iff.mp hx).1
  rw [rngI_length] at hi
  obtain ⟨f,f1,f2⟩:=gt_lit (l:=s) (i:=0) okW hs2 (by decide) (by omega)
  obtain ⟨b1,b2,b3⟩:=draw_ok (k:=20+x) (many:=3) hc hn (by omega) (by omega) (by decide)
  obtain ⟨d1,d2,d3⟩:=draw_ok (k:=60+x) (many:=(some'.length:Int)) hc hn (by omega) (by omega) (by omega)
  obtain ⟨e',e3,e4⟩:=gt_lit (l:=some') okW hs d2 d3
  simp only [f1,b1,d1,e3,bind_ok]
  refine Rk.bind (P:=okW) (Rk.itd (fun _=>Rk.ok e4) fun _=>Rk.ok f2) fun o ho=>?_
  rw [appR_ok (by omega),bind_ok]
  refine Rk.ok ⟨by simp [hs1],fun q hq=>?_⟩
  rcases List.mem_append.mp hq with hq | hq
  ·exact hs2 q hq
  ·rw [List.mem_singleton] at hq; rw [hq]; exact ho
 ·rw [rngI_length] at hs
  exact ⟨by omega,hs.2⟩
end
abbrev okN(c:Int):Prop:=okC 1048577 c
theorem okN_of{z:Int}(h:z.natAbs.log2≤1048576):okN z:=Nat.lt_of_lt_of_le Nat.lt_log2_self (Nat.pow_le_pow_right (by decide) (by omega))
theorem okN_zero:okN 0:=by
 show Int.natAbs 0 < 2 ^ 1048577
 exact Nat.pow_pos (by decide)
theorem cell_at_ok(ns:List Int){k:Int}(h:0≤k)(hb:∀ z∈ns,z.natAbs.log2≤1048576):Rk (f_law_cell_at ns k) okN:=by
 unfold f_law_cell_at
 refine Rk.itd (fun h1=>?_) fun _=>Rk.ok okN_zero
 rw [ixR_gt h h1]
 exact Rk.ok (okN_of (hb _ (gt_mem (by omega))))
theorem drw{n:Nat}{cell k many:Int}(hc:okC n cell)(hn:n≤2000000)(k0:0≤k)(k1:k < 2 ^ 20)(hm:0 < many):Rk (f_law_draw cell k many) fun d=>0≤d∧d < many:=by
 obtain ⟨a,b,c⟩:=draw_ok hc hn k0 k1 hm
 exact ⟨_,a,b,c⟩
theorem ixlit{α:Type}[Inhabited α]{l:List α}{i:Int}{P:α→Prop}(h:∀ x∈l,P x)(h0:0≤i)(h1:i < l.length):Rk (ixR l i) P:=gt_lit P h h0 h1
theorem many_ok{n:Nat}{cell k j:Int}{l:List Int}{M:Int}(hc:okC n cell)(hn:n≤2000000)(k0:0≤k)(k1:k < 2 ^ 20)(j0:0≤j)(j1:j < 2 ^ 20)(hl:l.length=2)(h:∀ x∈l,1≤x∧x≤M):Rk (((f_law_draw cell j ((2:Int))).bind fun x23=>ixR l x23).bind fun x27=>f_law_draw cell k x27) fun d=>0≤d∧d < M:=by
 refine Rk.bind (Rk.bind (drw hc hn j0 j1 (by decide)) fun x hx=>ixlit h hx.1 (by omega)) fun y hy=>Rk.mono (drw hc hn k0 k1 (by omega)) fun d hd=>⟨hd.1,by omega⟩
end Vm
end
section
set_option linter.all false
set_option maxHeartbeats 1000000
set_option maxRecDepth 10000
namespace Vm
theorem drop_gt2{α:Type}[Inhabited α]{l:List α}{i:Int}(h0:0≤i)(h:i < l.length):l.drop i.toNat=gt l i :: l.drop (i+1).toNat:=by
 have:i.toNat < l.length:=by omega
 rw [List.drop_eq_getElem_cons this,show (i+1).toNat=i.toNat+1 by omega]
 congr 1
 simp [gt,List.getD,this]
theorem split_at{α:Type}[Inhabited α]{l:List α}{i:Int}(h0:0≤i)(h1:i < l.length):cutL l none (some i)++gt l i :: cutL l (some (i+1)) none=l:=by
 rw [cut_take h0,cut_drop (by omega),← drop_gt2 h0 h1,List.take_append_drop]
theorem cut_last{α:Type}(l:List α):cutL l none (some (-1))=l.dropLast:=by
 show (l.drop 0).take (((-1:Int)+(l.length:Int)).toNat - 0)=_
 rw [List.drop_zero,List.dropLast_eq_take,show ((-1:Int)+(l.length:Int)).toNat - 0=l.length - 1 by omega]
theorem rds_at{b:Ent}{many:Int}{A B:List Rdg}{r r':Rdg}(h:¬ RdOk b many r'):¬ RdsOk b many (A++[r']++B):=fun g=>h (g.all r' (by simp))
theorem pw_rev2{rs:List Rdg}(h:rs.Pairwise Before)(g:rs.reverse.Pairwise Before):rs.length≤1:=by
 match rs,h,g with
 | [],_,_=>simp
 | [_],_,_=>simp
 | a :: b :: l,h,g =>
  have g:=List.pairwise_reverse.mp g
  have h1:=((List.pairwise_cons.mp h).1 b (by simp)).2.2
  have h2:=((List.pairwise_cons.mp g).1 b (by simp)).2.2
  omega
theorem oreads_ok{b:Ent}{many:Int}{rs:List Rdg}(h:RdsOk b many rs)(hn:rs.length≤100)(hr:∀ r∈rs,r.2.length≤100)(way:Int){i:Int}(i0:0≤i)(i1:i < rs.length):Rk (f_law_other_readings b rs way i many) fun O=>(O.length≤1000∧∀ r∈O,r.2.length≤1000)∧(O=rs ∨ ¬ RdsOk b many O):=by
 have hin:=gt_mem (l:=rs) (i:=i) (by omega)
 have hpos:=List.length_pos_iff.mpr h.ne
 have hmt:∀ r∈cutL rs none (some i),r.2.length≤1000:=fun r hr'=>by
  rw [cut_take i0] at hr'
  have:=hr r (List.mem_of_mem_take hr'); omega
 have hmd:∀ r∈cutL rs (some (i+1)) none,r.2.length≤1000:=fun r hr'=>by
  rw [cut_drop (by omega)] at hr'
  have:=hr r (List.mem_of_mem_drop hr'); omega
 have hlt:(cutL rs none (some i)).length≤100:=by rw [cut_take i0,List.length_take]; omega
 have hld:(cutL rs (some (i+1)) none).length≤100:=by rw [cut_drop (by omega),List.length_drop]; omega
 have sz:∀ r':Rdg,r'.2.length≤1000→(cutL rs none (some i)++[r']++cutL rs (some (i+1)) none).length≤1000∧∀ r∈cutL rs none (some i)++[r']++cutL rs (some (i+1)) none,r.2.length≤1000:=fun r' h'=>by
  refine ⟨by simp only [List.length_append,List.length_singleton]; omega,fun r hrr=>?_⟩
  rcases List.mem_append.mp hrr with w | w
  ·rcases List.mem_append.mp w with w | w
   ·exact hmt r w
   ·rw [List.mem_singleton] at w; rw [w]; exact h'
  ·exact hmd r w
 have hg:=hr _ hin
 unfold f_law_other_readings
 rw [ixR_gt i0 i1,bind_ok]
 refine Rk.itd (fun _=>Rk.ok ⟨⟨by simp,fun _ h=>(nomatch h)⟩,.inr fun g=>g.ne rfl⟩) fun _=>Rk.itd (fun _=>?_) fun _=>Rk.itd (fun _=>?_) fun _=>Rk.itd (fun _=>?_) fun _=>Rk.itd (fun _=>?_) fun _=>?_
 ·rw [catR_ok (by simp; omega),bind_ok,catR_ok (by simp; omega),bind_ok]
  exact Rk.ok ⟨sz _ (by show (gt rs i).2.length≤1000; omega),.inr (rds_at (r:=gt rs i) fun g=>g.b rfl)⟩
 ·rw [catR_ok (by simp; omega),bind_ok]
  refine Rk.ok ⟨⟨by simp; omega,fun r hrr=>?_⟩,.inr fun g=>?_⟩
  ·rcases List.mem_append.mp hrr with w | w
   ·have:=hr r w; omega
   ·rw [List.mem_singleton] at w; rw [w]; simp
  ·exact ((List.pairwise_append.mp g.pw).2.2 _ hin _ (List.mem_singleton.mpr rfl)).1 rfl
 ·
  have h00:ixR rs (0:Int) = .ok (gt rs 0):=ixR_gt (by decide) (by omega)
  have hl:ixR rs (-1:Int) = .ok (rs.getLast h.ne):=ixR_last h.ne
  have hf:=gt_mem (l:=rs) (i:=0) (by omega)
  have hlm:=List.getLast_mem h.ne
  have l1:=hr _ hf
  have l2:=hr _ hlm
  rw [h00,bind_ok,bind_ok,show (-((1:Int)))=(-1:Int) from rfl,hl,bind_ok,bind_ok,catR_ok (by omega),bind_ok]
  have hso:sortR (Ordk.lt kI) ((gt rs 0).2++(rs.getLast h.ne).2) = .ok (sortB (Ordk.lt kI) ((gt rs 0).2++(rs.getLast h.ne).2)):=by unfold sortR; rw [if_pos (by simp; omega)]
  rw [hso,bind_ok,bind_ok,bind_ok,bind_ok,bind_ok,cut_last,catR_ok (by simp; omega),bind_ok]
  have hp:(sortB (Ordk.lt kI) ((gt rs 0).2++(rs.getLast h.ne).2)).Perm ((gt rs 0).2++(rs.getLast h.ne).2):=List.mergeSort_perm _ _
  have hpl:=hp.length_eq
  refine Rk.ok ⟨⟨by simp; omega,fun r hrr=>?_⟩,.inr fun g=>?_⟩
  ·rcases List.mem_append.mp hrr with w | w
   ·have:=hr r (List.dropLast_subset _ w); omega
   ·rw [List.mem_singleton] at w
    rw [w]
    show (sortB (Ordk.lt kI) ((gt rs 0).2++(rs.getLast h.ne).2)).length≤1000
    rw [hpl,List.length_append]; omega
  ·have hfo:=h.all _ hf
   have ha:gt (gt rs 0).2 0∈(gt rs 0).2:=gt0_mem hfo.ne
   have gl:=g.all ((rs.getLast h.ne).1,sortB (Ordk.lt kI) ((gt rs 0).2++(rs.getLast h.ne).2)) (by simp)
   by_cases q:rs.length=1
   ·
    have e:rs.getLast h.ne=gt rs 0:=by
     match rs,q with
     | [r],_=>rfl
    have nd:(sortB (Ordk.lt kI) ((gt rs 0).2++(rs.getLast h.ne).2)).Nodup:=by unfold List.Nodup; exact gl.lt.imp fun h q=>by omega
    have nd2:=hp.nodup_iff.mp nd
    rw [e] at nd2
    exact (List.nodup_append.mp nd2).2.2 _ ha _ ha rfl
   ·
    have hd:gt rs 0∈rs.dropLast:=by
     match rs,h,q with
     | [],h,_=>exact absurd rfl h.ne
     | [r],_,q=>exact absurd rfl q
     | a :: b :: l,_,_=>exact List.mem_cons_self
    have:=((List.pairwise_append.mp g.pw).2.2 _ hd _ (List.mem_singleton.mpr rfl)).2.1 _ ha
    exact this (hp.mem_iff.mpr (List.mem_append_left _ ha))
 ·refine Rk.ok ⟨⟨by simp; omega,fun r hrr=>?_⟩,?_⟩
  ·have:=hr r (List.mem_reverse.mp hrr); omega
  ·by_cases q:rs.length≤1
   ·exact .inl (rev1 q)
   ·exact .inr fun g=>q (pw_rev2 h.pw g.pw)
 ·obtain ⟨R,eR,hR1,hR2⟩:=orows_ok (h.all _ hin) (by omega) way
  rw [eR]
  simp only [bind_ok]
  rw [catR_ok (by simp; omega),bind_ok,catR_ok (by simp; omega),bind_ok]
  refine Rk.ok ⟨sz _ hR1,?_⟩
  rcases hR2 with q | q
  ·left
   rw [q,List.append_assoc]
   exact split_at i0 i1
  ·exact .inr (rds_at (r:=gt rs i) q)
def SzN(ns:List Nte):Prop:=∀ n∈ns,n.2.length≤1000∧∀ r∈n.2,r.2.length≤1000
theorem pw_rev3{ns:List Nte}(h:ns.Pairwise fun m n=>m.1 < n.1)(g:ns.reverse.Pairwise fun m n=>m.1 < n.1):ns.length≤1:=by
 match ns,h,g with
 | [],_,_=>simp
 | [_],_,_=>simp
 | a :: b :: l,h,g =>
  have g:=List.pairwise_reverse.mp g
  have h1:=(List.pairwise_cons.mp h).1 b (by simp)
  have h2:=(List.pairwise_cons.mp g).1 b (by simp)
  omega
theorem spoilt_ok{cs:List Col}{many:Nat}{es:List Ent}(hes:es=cs.map fun c=>gt c 0){N:List Nte}(hN:NotesOk es many N)(hne:N ≠ [])(hn:N.length≤100)(hz:∀ n∈N,n.2.length≤100∧∀ r∈n.2,r.2.length≤100)(hcl:1≤cs.length)(hcs:∀ c∈cs,c.length=many∧1≤c.length){cell:Int}(hc:okN cell):Rk (f_law_spoilt cs N cell) fun bad=>SzN bad∧(bad=N ∨ ¬ NotesOk es many bad):=by
 have hesl:es.length=cs.length:=by rw [hes,List.length_map]
 have hpos:=List.length_pos_iff.mpr hne
 have szN:SzN N:=fun n hn'=>⟨by have:=(hz n hn').1; omega,fun r hr=>by have:=(hz n hn').2 r hr; omega⟩
 unfold f_law_spoilt
 refine Rk.bind (drw hc (by decide) (by decide) (by decide) (by decide)) fun way hw=>?_
 have h00:ixR cs (0:Int) = .ok (gt cs 0):=ixR_gt (by decide) (by omega)
 have hm0:=(hcs _ (gt_mem (l:=cs) (i:=0) (by omega))).1
 rw [h00,bind_ok,bind_ok,hm0]
 refine Rk.bind (drw hc (by decide) (by decide) (by decide) (by omega)) fun i hi=>?_
 obtain ⟨i0,i1⟩:=hi
 have hin:=gt_mem (l:=N) (i:=i) (by omega)
 rw [ixR_gt i0 i1]
 simp only [bind_ok]
 obtain ⟨n0,n1⟩:=hN.i _ hin
 obtain ⟨nr,nl,nrl⟩:=hN.r _ hin
 have hzi:=hz _ hin
 have mt:∀ n∈cutL N none (some i),n∈N:=fun n h=>by rw [cut_take i0] at h; exact List.mem_of_mem_take h
 have md:∀ n∈cutL N (some (i+1)) none,n∈N:=fun n h=>by rw [cut_drop (by omega)] at h; exact List.mem_of_mem_drop h
 have hlt:(cutL N none (some i)).length≤100:=by rw [cut_take i0,List.length_take]; omega
 have hld:(cutL N (some (i+1)) none).length≤100:=by rw [cut_drop (by omega),List.length_drop]; omega
 refine Rk.itd (fun hw2=>?_) fun _=>Rk.itd (fun _=>?_) fun _=>Rk.itd (fun _=>?_) fun _=>Rk.itd (fun _=>Rk.ok ⟨szN,.inl rfl⟩) fun _=>?_
 ·have hx:∃ x:Int,ixR ([(cs.length:Int),(-((1:Int))) - (gt N i).1]:List Int) way = .ok x∧(x=cs.length ∨ x < 0):=by
   by_cases q:way=0
   ·exact ⟨_,by rw [q]; exact ixR_gt (by decide) (by show (0:Int) < 2; decide),.inl rfl⟩
   ·have q1:way=1:=by omega
    exact ⟨_,by rw [q1]; exact ixR_gt (by decide) (by show (1:Int) < 2; decide),.inr (by show -1 - (gt N i).1 < 0; omega)⟩
  obtain ⟨x,ex,hx⟩:=hx
  rw [ex,bind_ok,bind_ok,bind_ok,catR_ok (by simp; omega),bind_ok]
  refine Rk.ok ⟨fun n hn'=>?_,.inr fun g=>?_⟩
  ·rcases List.mem_append.mp hn' with w | w
   ·exact szN n w
   ·rw [List.mem_singleton] at w; rw [w]; exact (szN (gt N i) hin :)
  ·have:=g.i (x,(gt N i).2) (by simp)
   simp only at this
   omega
 ·have c1:cutL N (some i) (some (i+1))=[gt N i]:=by
   unfold cutL
   rw [vSix_nat i0,vSix_nat (by omega),Nat.min_eq_left (by omega),Nat.min_eq_left (by omega),drop_gt2 i0 i1,show (i+1).toNat - i.toNat=1 by omega]
   rfl
  rw [c1,catR_ok (by simp; omega),bind_ok,cut_drop i0,catR_ok (by simp; omega),bind_ok]
  refine Rk.ok ⟨fun n hn'=>?_,.inr fun g=>?_⟩
  ·rcases List.mem_append.mp hn' with w | w
   ·rcases List.mem_append.mp w with w | w
    ·exact szN n (mt n w)
    ·rw [List.mem_singleton] at w; rw [w]; exact szN _ hin
   ·exact szN n (List.mem_of_mem_drop w)
  ·rw [drop_gt2 i0 i1] at g
   have:=(List.pairwise_append.mp g.pw).2.2 (gt N i) (by simp) (gt N i) (by simp)
   omega
 ·refine Rk.ok ⟨fun n hn'=>szN n (List.mem_reverse.mp hn'),?_⟩
  by_cases q:N.length≤1
  ·exact .inl (rev1 q)
  ·exact .inr fun g=>q (pw_rev3 hN.pw g.pw)
 ·have hrp:=List.length_pos_iff.mpr nr.ne
  refine Rk.bind (drw hc (by decide) (by decide) (by decide) (by omega)) fun j hj=>?_
  have hcn:ixR cs (gt N i).1 = .ok (gt cs (gt N i).1):=ixR_gt n0 (by omega)
  have hcm:=hcs _ (gt_mem (l:=cs) (i:=(gt N i).1) (by omega))
  have hce:ixR (gt cs (gt N i).1) (0:Int) = .ok (gt (gt cs (gt N i).1) 0):=ixR_gt (by decide) (by have:=hcm.2; omega)
  have hge:gt es (gt N i).1=gt (gt cs (gt N i).1) 0:=by rw [hes]; exact gt_map _ (by omega)
  rw [hcn,bind_ok,hce,bind_ok,← hge]
  obtain ⟨O,eO,⟨o1,o2⟩,o3⟩:=oreads_ok nr hzi.1 hzi.2 way hj.1 hj.2
  rw [eO]
  simp only [bind_ok]
  rw [catR_ok (by simp; omega),bind_ok,catR_ok (by simp; omega),bind_ok]
  refine Rk.ok ⟨fun n hn'=>?_,?_⟩
  ·rcases List.mem_append.mp hn' with w | w
   ·rcases List.mem_append.mp w with w | w
    ·exact szN n (mt n w)
    ·rw [List.mem_singleton] at w; rw [w]; exact ⟨o1,o2⟩
   ·exact szN n (md n w)
  ·rcases o3 with q | q
   ·left
    rw [q,List.append_assoc]
    exact split_at i0 i1
   ·right
    intro g
    exact q (g.r ((gt N i).1,O) (by simp)).1
end Vm
end
section
set_option linter.all false
set_option maxHeartbeats 1000000
set_option maxRecDepth 10000
namespace Vm
theorem lreads_ok{c:Col}(h1:1≤c.length)(hz:c.length≤1000):Rk (f_law_readings_of c) (· = readsOf c):=by
 unfold f_law_readings_of
 simp only [rngR_nat (show c.length≤1000000000 by omega),bind_ok,ixR_gt (l:=c) (i:=0) (by omega) (by omega)]
 refine Rk.bind (P:=fun es=>es=entsN c c.length) (Rk.for (fun i s=>s=entsN c i) rfl (fun i x s hx hs=>?_) fun s hs=>hs) fun es he=>?_
 ·subst hs
  have hi:=(List.getElem?_eq_some_iff.mp hx).1
  have hxe:gt c i=x:=by rw [gt_nat,List.getD,hx]; rfl
  have hn:=entsN_len c i
  rw [show entsN c (i+1)=addE (gt c 0) (entsN c i) x by rw [entsN,hxe]]
  unfold addE
  by_cases q:x=gt c 0
  ·rw [decide_eq_true q]
   simp only [Bool.not_true,Bool.false_eq_true,if_false,bind_ok]
   exact Rk.ok (by rw [if_neg fun z=>z.1 q])
  ·rw [decide_eq_false q]
   simp only [Bool.not_false,if_true,bind_ok]
   by_cases m:x∈entsN c i
   ·rw [memB_iff.mpr m,Bool.not_true,if_neg (by decide)]
    exact Rk.ok (by rw [if_neg fun z=>z.2 m])
   ·have:memB x (entsN c i)=false:=by rw [Bool.eq_false_iff]; exact fun z=>m (memB_iff.mp z)
    rw [this,Bool.not_false,if_pos rfl,appR_ok (by omega)]
    exact Rk.ok (by rw [if_pos ⟨q,m⟩])
 ·subst he
  have hn:=entsN_len c c.length
  refine Rk.bind (P:=fun rs=>rs=readsOf c) (Rk.for (fun i s=>s=((entsN c c.length).take i).map fun e=>(e,rowsOf c e)) (by simp) (fun i x s hx hs=>?_) fun s hs=>by rw [hs,List.take_length]; rfl) fun rs hr=>Rk.ok hr
  have hi:=(List.getElem?_eq_some_iff.mp hx).1
  subst hs
  rw [lcR_sz (fun z=>decide (gt c z=x)) (fun z=>z) (fun z hz=>by
   obtain ⟨z0,z1⟩:=mem_rngN.mp hz
   rw [ixR_gt z0 z1]
   exact ⟨rfl,fun _=>rfl⟩) (by simp; omega),List.map_id',bind_ok,bind_ok,appR_ok (by simp; omega)]
  refine Rk.ok ?_
  rw [List.take_add_one,hx]
  simp [rowsOf]
theorem lnotes_ok{cs:List Col}(hl:cs.length≤1200)(hc:∀ c∈cs,1≤c.length∧c.length≤1000):Rk (f_law_notes_of cs) (· = notesOf cs):=by
 unfold f_law_notes_of
 simp only [rngR_nat (show cs.length≤1000000000 by omega),bind_ok]
 refine Rk.bind (P:=fun ns=>ns=notesOf cs) (Rk.for (fun i s=>s.length≤i∧s=(((rngN cs.length).take i).filter fun k=>decide (readsOf (gt cs k) ≠ [])).map fun k=>(k,readsOf (gt cs k))) ⟨Nat.le_refl _,by simp⟩ (fun i x s hx hs=>?_) fun s hs=>by rw [hs.2,List.take_length]; rfl) fun rs hr=>Rk.ok hr
 obtain ⟨hs0,rfl⟩:=hs
 obtain ⟨rfl,hi⟩:=rngN_get hx
 have hm:=gt_mem (l:=cs) (i:=(i:Int)) (by omega)
 rw [ixR_gt (l:=cs) (by omega) (by omega),bind_ok]
 refine Rk.bind (lreads_ok (hc _ hm).1 (hc _ hm).2) fun r hr=>?_
 subst hr
 rw [List.take_add_one,hx,List.filter_append]
 by_cases q:readsOf (gt cs (i:Int))=[]
 ·rw [decide_eq_true q,Bool.not_true,if_neg (by decide)]
  refine Rk.ok ⟨by simp [q]; simp at hs0; omega,by simp [q]⟩
 ·rw [decide_eq_false q,Bool.not_false,if_pos rfl,appR_ok (by omega)]
  refine Rk.ok ⟨by simp [q]; simp at hs0; omega,by simp [q]⟩
end Vm
end
section
set_option linter.all false
set_option maxHeartbeats 1000000
set_option maxRecDepth 10000
namespace Vm
def gd:Nat→PV→Prop
 | 0,_=>False
 | n+1,.tup l=>l.length≤100000∧∀ p∈l,gd n p
 | n+1,.int _=>True
 | n+1,.str _=>True
 | n+1,.non=>True
 | n+1,_=>False
theorem same_refl:∀ (n:Nat) (p:PV),gd n p→d_law_same_v1 n [p,p] = .ok (.fz,.bl true)
 | 0,p,h=>h.elim
 | n+1,.int i,_=>by simp [d_law_same_v1,runFn,kindIs]
 | n+1,.str w,_=>by simp [d_law_same_v1,runFn,kindIs]
 | n+1,.non,_=>by simp [d_law_same_v1,runFn,kindIs]
 | n+1,.bl _,h=>h.elim
 | n+1,.lst _,h=>h.elim
 | n+1,.dic _ _,h=>h.elim
 | n+1,.tup l,⟨h0,h⟩=>by
  have key:lcGo [some (Tg.fz,PV.tup l),some (Tg.fz,PV.tup l),none] (Pat.v 2) xYes (eCall (d_law_same_v1 n) (eCons (eIdx (eVar 0) (eVar 2)) (eCons (eIdx (eVar 1) (eVar 2)) eNil))) ((rngL 0 (l.length:Int)).map fun p=>(Tg.fz,p)) = .ok (((List.range l.length).map fun _=>true).map .bl):=by
   rw [rng0_eq',List.map_map]
   exact lcGo_map _ (fun _=>PV.bl true) _ (fun k hk=>by
    have hk:k < l.length:=by simpa using hk
    have hv:=vAt_int (xs:=l) (i:=(k:Int)) (by omega) (by omega)
    simp only [Int.toNat_natCast] at hv
    have ih:=same_refl n l[k] (h _ (List.getElem_mem _))
    simp [lcOne,hv,ih])
  have hr:rngOk (l.length:Int)=true:=rngOk_of (by omega) (by omega)
  have hall:allBl (((List.range l.length).map fun _=>true).map .bl) = .ok true:=by rw [allBl_map]; simp
  have hlen:(((List.range l.length).map fun _=>true).map PV.bl).length≤16777216:=by simp; omega
  simp [d_law_same_v1,runFn,kindIs,hr,-List.map_map]
  rw [key]
  simp only [Res.bind,if_pos hlen,hall]
theorem same_ok{p:PV}(h:gd 8 p):f_law_same_v1 8 p p = .ok true:=by
 unfold f_law_same_v1
 simp only [kV]
 rw [same_refl 8 p h]; rfl
theorem gdS(n:Nat)(w:List Nat):gd (n+1) (kS w):=trivial
theorem gdO{α:Type}{k:α→PV}{n:Nat}(h:∀ a,gd (n+1) (k a))(o:Option α):gd (n+1) (kO k o):=by
 cases o with
 | none=>exact trivial
 | some a=>exact h a
theorem gdT{α:Type}{k:α→PV}{n:Nat}{l:List α}(hl:l.length≤100000)(h:∀ x∈l,gd n (k x)):gd (n+1) (kT k l):=⟨by simpa using hl,fun q hq=>by
 obtain ⟨x,hx,rfl⟩:=List.mem_map.mp hq
 exact h x hx⟩
end Vm
end
section
set_option linter.all false
set_option maxHeartbeats 1000000
set_option maxRecDepth 10000
namespace Vm
end Vm
end
section
set_option linter.all false
set_option maxHeartbeats 1000000
set_option maxRecDepth 10000
set_option synthInstance.maxSize 2000
set_option synthInstance.maxHeartbeats 400000
namespace Vm
theorem back_eq{cs ds:List Col}{many:Nat}(hc:∀ c∈cs,c.length=many)(h1:ds.length=(cs.map fun c=>gt c 0).length)(h2:∀ n∈notesOf cs,Tells (gt (cs.map fun c=>gt c 0) n.1) many n.2 (gt ds n.1))(h3:∀ i:Int,0≤i→i < (cs.map fun c=>gt c 0).length→(∀ n∈notesOf cs,n.1 ≠ i)→gt ds i=backOf (gt (cs.map fun c=>gt c 0) i) many []):ds=cs:=by
 rw [List.length_map] at h1
 rw [← map_gt ds,← map_gt cs,h1]
 refine List.map_congr_left fun i hi=>?_
 obtain ⟨i0,i1⟩:=mem_rngN.mp hi
 have hm:=hc _ (gt_mem (l:=cs) (i:=i) (by omega))
 have hg:gt (cs.map fun c=>gt c 0) i=gt (gt cs i) 0:=gt_map _ (by omega)
 by_cases q:readsOf (gt cs i)=[]
 ·have:=h3 i i0 (by rw [List.length_map]; exact i1) fun n hn=>by
   obtain ⟨k,hk,rfl⟩:=List.mem_map.mp hn
   intro z
   have:=of_decide_eq_true (List.mem_filter.mp hk).2
   simp only at z
   rw [z] at this; exact this q
  rw [this,hg,← hm]
  exact (reads_none q).symm
 ·have:=h2 (i,readsOf (gt cs i)) (List.mem_map.mpr ⟨i,List.mem_filter.mpr ⟨mem_rngN.mpr ⟨i0,by omega⟩,decide_eq_true q⟩,rfl⟩)
  simp only [hg] at this
  rw [← hm] at this
  exact tells_col this
theorem reads_ne{c:Col}{k:Int}(h0:0≤k)(h1:k < c.length)(h:gt c k ≠ gt c 0):readsOf c ≠ []:=fun e=>by
 have hm:gt c k∈entsN c c.length:=(mem_entsN c _ _).mpr ⟨h,k.toNat,by omega,by rw [show ((k.toNat:Nat):Int)=k by omega]⟩
 unfold readsOf at e
 rw [List.map_eq_nil_iff] at e
 rw [e] at hm
 cases hm
theorem asked_told{es:List Ent}{many:Int}{ns:List Nte}{X:List Col}(h:f_collation_back es many ns = .ok X):f_law_asked es many ns = .ok ([116,111,108,100],some X):=by
 unfold f_law_asked
 rw [h]; rfl
theorem asked_ref{es:List Ent}{many:Nat}{ns:List Nte}(hm:many≤1000)(he:es.length≤1200)(hr:SzN ns)(h:¬ NotesOk es many ns):f_law_asked es (many:Int) ns = .ok ([114,101,102,117,115,101,100],none):=by
 rcases asked_ok (coll_conv hm he hr) with e | ⟨X,hX,_⟩
 ·exact e
 ·exact absurd hX h
theorem m_law(ns:List Int)(hl:ns.length≤63)(hb:∀ z∈ns,z.natAbs.log2≤1048576):f_law_v65 ns = .ok true:=by
 refine Rk.eq ?_
 unfold f_law_v65
 refine Rk.bind (cell_at_ok ns (by decide) hb) fun base hbase=>?_
 refine Rk.bind (pool_ok hbase (by decide)) fun pool hp=>?_
 refine Rk.bind (P:=fun m=>2≤m∧m≤30) (Rk.bind (many_ok (M:=29) hbase (by decide) (by decide) (by decide) (by decide) (by decide) rfl (by decide)) fun d hd=>Rk.ok ⟨by omega,by omega⟩) fun m hm=>?_
 obtain ⟨M,rfl⟩:=Int.eq_ofNat_of_zero_le (show 0≤m by omega)
 obtain ⟨m0,m1⟩:=hm
 have hrep:repTR ((fun z=>[z]) ((([97]:List Nat):List Nat))) ((M:Int) - 1) = .ok (List.replicate (M - 1) [97]):=by
  unfold repTR repT
  rw [if_pos (by simp; omega),show ((M:Int) - 1).toNat=M - 1 by omega]
  congr 1
  have:∀ n:Nat,(List.replicate n ([[97]]:List (List Nat))).flatten=List.replicate n [97]:=fun n=>by
   induction n with
   | zero=>rfl
   | succ n ih=>rw [List.replicate_succ,List.flatten_cons,ih]; rfl
  exact this _
 rw [hrep]
 simp only [bind_ok]
 rw [catR_ok (by simp; omega),bind_ok,bind_ok]
 obtain ⟨c0,hc0⟩:∃ c0:Col,c0=[none]++List.map some (List.replicate (M - 1) [97]):=⟨_,rfl⟩
 rw [← hc0]
 have hcut:(cutL ns (some (1:Int)) (some (21:Int))).length≤20∧∀ z∈cutL ns (some (1:Int)) (some (21:Int)),z∈ns:=by
  unfold cutL
  rw [vSix_nat (by decide),vSix_nat (by decide)]
  refine ⟨?_,fun z hz=>List.mem_of_mem_drop (List.mem_of_mem_take hz)⟩
  rw [List.length_take]
  have a:(1:Int).toNat=1:=rfl
  have b:(21:Int).toNat=21:=rfl
  omega
 have hc0l:c0.length=M:=by rw [hc0]; simp; omega
 have hc0n:gt c0 1 ≠ gt c0 0:=by
  rw [hc0]
  obtain ⟨k,hk⟩:∃ k,M - 1=k+1:=⟨M - 2,by omega⟩
  rw [hk,List.replicate_succ]
  exact fun h=>nomatch h
 refine Rk.bind (P:=fun (cs:List Col)=>cs.length≤21∧c0∈cs∧∀ c∈cs,c.length=M) (Rk.for (fun k (cs:List Col)=>cs.length=1+k∧c0∈cs∧∀ c∈cs,c.length=M) ⟨rfl,by simp,fun c hc=>by rw [List.mem_singleton] at hc; rw [hc,hc0l]⟩ (fun k x cs hx hcs=>?_) fun cs hcs=>⟨by omega,hcs.2⟩) fun cs1 hcs1=>?_
 ·obtain ⟨a,b,d⟩:=hcs
  have hk:k < 20:=by have:=(List.getElem?_eq_some_iff.mp hx).1; omega
  have hxo:okN x:=okN_of (hb x (hcut.2 x (List.mem_of_getElem? hx)))
  refine Rk.bind (Rk.bind (column_ok hxo (by decide) (by omega) hp.2 (by omega) (by omega)) fun c hc=>Rk.of (P:=fun (cs':List Col)=>cs'.length=1+(k+1)∧c0∈cs'∧∀ c∈cs',c.length=M) (appR_ok (x:=c) (show cs.length < 16777216 by omega)) ⟨by simp; omega,List.mem_append_left _ b,fun c' hc'=>by
   rcases List.mem_append.mp hc' with w | w
   ·exact d c' w
   ·rw [List.mem_singleton] at w; rw [w,hc.1]; omega⟩) fun cs' hcs'=>Rk.ok hcs'
 obtain ⟨l1,l2,l3⟩:=hcs1
 have hpos:0 < cs1.length:=List.length_pos_of_mem l2
 rw [cut_drop (by decide),cut_take (by decide),catR_ok (by simp; omega),bind_ok]
 obtain ⟨cs,hcs⟩:∃ cs:List Col,cs=cs1.drop (1:Int).toNat++cs1.take (1:Int).toNat:=⟨_,rfl⟩
 rw [← hcs]
 have hperm:cs.Perm cs1:=by
  rw [hcs]
  exact List.perm_append_comm.trans (by rw [List.take_append_drop])
 have hlen:cs.length=cs1.length:=hperm.length_eq
 have hall:∀ c∈cs,c.length=M∧1≤c.length:=fun c hc=>by
  have:=l3 c (hperm.mem_iff.mp hc)
  exact ⟨this,by omega⟩
 have hin:c0∈cs:=hperm.mem_iff.mpr l2
 clear hcs
 have hent:(noExc (mapR (fun (z51:List (Option (List Nat)))=>ixR z51 ((0:Int))) cs)).bind szR = .ok (cs.map fun c=>gt c 0):=mapR_sz (fun c=>gt c 0) (fun c hc=>ixR_gt (by decide) (by have:=(hall c hc).2; omega)) (by omega)
 rw [hent,bind_ok]
 obtain ⟨es,hes⟩:∃ es,es=cs.map fun c=>gt c 0:=⟨_,rfl⟩
 rw [← hes]
 obtain ⟨N,eN,hN0⟩:=lnotes_ok (cs:=cs) (by omega) fun c hc=>⟨(hall c hc).2,by have:=(hall c hc).1; omega⟩
 rw [eN,bind_ok]
 have hNok:NotesOk es (M:Int) N:=by
  rw [hN0,hes]
  exact notes_wf fun c hc=>⟨(hall c hc).2,by have:=(hall c hc).1; omega,by have:=(hall c hc).1; omega⟩
 have hmN:∀ n∈N,0≤n.1∧n.1 < cs.length∧n.2=readsOf (gt cs n.1):=fun n hn=>by
  rw [hN0] at hn
  obtain ⟨k,hk,rfl⟩:=List.mem_map.mp hn
  have:=mem_rngN.mp (List.mem_filter.mp hk).1
  exact ⟨this.1,this.2,rfl⟩
 have hNl:N.length≤100:=by
  rw [hN0]
  unfold notesOf
  rw [List.length_map]
  have:=List.length_filter_le (fun k=>decide (readsOf (gt cs k) ≠ [])) (rngN cs.length)
  rw [rngN_length] at this
  omega
 have hNz:∀ n∈N,n.2.length≤100∧∀ r∈n.2,r.2.length≤100:=fun n hn=>by
  obtain ⟨a,b,d⟩:=hmN n hn
  have hcm:=(hall _ (gt_mem (l:=cs) (i:=n.1) (by omega))).1
  rw [d]
  exact ⟨Nat.le_trans (reads_len _) (by omega),fun r hr=>Nat.le_trans (rows_len _ r hr) (by omega)⟩
 have hNne:N ≠ []:=by
  obtain ⟨i,hi⟩:=List.getElem?_of_mem hin
  have hil:=(List.getElem?_eq_some_iff.mp hi).1
  have hg:gt cs (i:Int)=c0:=by
   show cs.getD i default=c0
   rw [List.getD_eq_getElem?_getD,hi]; rfl
  have hr:readsOf (gt cs (i:Int)) ≠ []:=by
   rw [hg]
   exact reads_ne (k:=1) (by decide) (by omega) hc0n
  have:((i:Int),readsOf (gt cs (i:Int)))∈N:=by
   rw [hN0]
   exact List.mem_map.mpr ⟨i,List.mem_filter.mpr ⟨mem_rngN.mpr ⟨by omega,by omega⟩,decide_eq_true hr⟩,rfl⟩
  exact List.ne_nil_of_mem this
 have hesl:es.length=cs.length:=by rw [hes,List.length_map]
 have hcut2:(cutL ns (some (21:Int)) (some (61:Int))).length≤40∧∀ z∈cutL ns (some (21:Int)) (some (61:Int)),z∈ns:=by
  unfold cutL
  rw [vSix_nat (by decide),vSix_nat (by decide)]
  refine ⟨?_,fun z hz=>List.mem_of_mem_drop (List.mem_of_mem_take hz)⟩
  rw [List.length_take]
  have a:(21:Int).toNat=21:=rfl
  have b:(61:Int).toNat=61:=rfl
  omega
 obtain ⟨ds,eD,d1,d2,d3⟩:=collback_ok hNok (by omega) (by omega)
 have hds:ds=cs:=by
  subst hes hN0
  exact back_eq (many:=M) (fun c hc=>(hall c hc).1) d1 d2 d3
 subst hds
 have told:=asked_told eD
 have hgd:gd 8 (kT (kT (kO kS)) ds):=gdT (by omega) fun c hc=>gdT (by have:=(hall c hc).1; omega) fun o _=>gdO (fun w=>gdS _ w) o
 rw [catR_ok (by simp; omega),bind_ok]
 refine Rk.bok (Rk.forU fun x hx=>?_) ?_
 ·have hx':okN x:=by
   rcases List.mem_append.mp hx with w | w
   ·rw [List.mem_singleton] at w; rw [w]; exact hbase
   ·exact okN_of (hb x (hcut2.2 x w))
  refine Rk.bind (spoilt_ok hes hNok hNne hNl hNz (by omega) hall hx') fun bad hbad=>?_
  have hq:∃ F,f_law_asked es (M:Int) bad = .ok F∧(if !decide (bad=N) then Res.ok (!decide (F=((([114,101,102,117,115,101,100]:List Nat),none):((List Nat)×Option (List (List (Option (List Nat)))))))) else Res.ok false) = .ok false:=by
   by_cases q:bad=N
   ·rw [q]
    exact ⟨_,told,by rw [decide_eq_true (rfl:N=N)]; rfl⟩
   ·refine ⟨_,asked_ref (by omega) (by omega) hbad.1 (hbad.2.resolve_left q),?_⟩
    rw [decide_eq_false q,decide_eq_true rfl]
    rfl
  obtain ⟨F,e1,e2⟩:=hq
  rw [e1,bind_ok,e2,bind_ok,if_neg (by decide),told,bind_ok]
  rw [show (!decide (([116,111,108,100],some ds).1=([116,111,108,100]:List Nat)))=false from by show (!decide (([116,111,108,100]:List Nat)=[116,111,108,100]))=false; decide]
  rw [if_neg (by decide),show (kO (kT (kT (kO kS)))) (([116,111,108,100],some ds):List Nat×Option (List Col)).2=(kT (kT (kO kS))) ds from rfl,same_ok hgd,bind_ok,bind_ok,if_neg (by decide)]
  exact Rk.ok rfl
 ·have r1:f_law_asked ([]:List Ent) (M:Int) [((0:Int),[((some [97]:Ent),[(1:Int)])])] = .ok ([114,101,102,117,115,101,100],none):=asked_ref (by omega) (by decide) (fun n hn=>by
    rw [List.mem_singleton] at hn; subst hn
    exact ⟨by decide,fun r hr=>by rw [List.mem_singleton] at hr; subst hr; decide⟩) fun g=>by
   have:=(g.i _ (List.mem_singleton.mpr rfl)).2
   exact absurd this (by decide)
  have r2:f_law_asked ([none]:List Ent) (1:Int) [((0:Int),[((some [97]:Ent),[(1:Int)])])] = .ok ([114,101,102,117,115,101,100],none):=asked_ref (many:=1) (by decide) (by decide) (fun n hn=>by
    rw [List.mem_singleton] at hn; subst hn
    exact ⟨by decide,fun r hr=>by rw [List.mem_singleton] at hr; subst hr; decide⟩) fun g=>by
   have:=((g.r _ (List.mem_singleton.mpr rfl)).1.all _ (List.mem_singleton.mpr rfl)).i 1 (by simp)
   exact absurd this.2 (by decide)
  show Rk (((f_law_asked ([]:List Ent) (M:Int) [((0:Int),[((some [97]:Ent),[(1:Int)])])]).bind fun x102=>Res.ok (!decide (x102=((([114,101,102,117,115,101,100]:List Nat),none):((List Nat)×Option (List (List (Option (List Nat))))))))).bind fun b136=>if b136 then (Res.ok (false)) else (((f_law_asked ([none]:List Ent) ((1:Int)) [((0:Int),[((some [97]:Ent),[(1:Int)])])]).bind fun x133=>Res.ok (decide (x133=((([114,101,102,117,115,101,100]:List Nat),none):((List Nat)×Option (List (List (Option (List Nat))))))))).bind fun x135=>Res.ok (x135))) _
  rw [r1,r2]
  exact Rk.ok rfl
end Vm
end
section
set_option Elab.async false
set_option linter.all false
set_option maxRecDepth 100000
set_option maxHeartbeats 4000000
set_option synthInstance.maxSize 2000
set_option synthInstance.maxHeartbeats 400000
namespace Vm
theorem t_look_rows(v_rows:List (Int))(v_many:Int)(v_taken:List ((Int)×(Option (List Nat)))):RefG (tv .fz kN) (d_look_rows [(kT kI) v_rows,kI v_many,(kD kI (kO kS)) v_taken]) (f_look_rows v_rows v_many v_taken) :=
 (tFn (gIfD (xV (rEq (rLenT (rV .fz (kT kI) v_rows)) (rV .fz kI (0:Int)))) (gRaiseS 4 trivial) (gNil (gPrim (pSet 3 (rV .fz kI (0:Int)) trivial) (fun (s1:Int)=>gPrim1 (pFor (fun (s2:((Int)))=>[some (.fz,(kT kI) v_rows),some (.fz,kI v_many),some (.fz,(kD kI (kO kS)) v_taken),some (.fz,kI s2),none]) s1 (iSeqT (rV .fz (kT kI) v_rows)) rfl (fun (s2:((Int))) (x3:Int)=>⟨_,rfl,gIfD (xO (xV (rLe (rV .fz kI x3) (rV .fz kI s2))) (xO (xV (rGe (rV .fz kI x3) (rV .fz kI v_many))) (xV (rDIn (rV .fz kI x3) (rV .fz (kD kI (kO kS)) v_taken))))) (gRaiseS 4 trivial) (gNil (gPrim1 (pSet 3 (rV .fz kI x3) trivial) (fun (s4:Int)=>gOk (s:=s4) ⟨_,.inl rfl,rfl⟩))) trivial⟩) trivial) (fun (s6:((Int)))=>gOk (s:=()) (.inr ⟨_,rfl,rfl⟩))))) trivial):RefG (tv .fz kN) (d_look_rows [(kT kI) v_rows,kI v_many,(kD kI (kO kS)) v_taken]) _)
theorem t_look_readings(v_base:Option (List Nat))(v_readings:List (((Option (List Nat))×List (Int))))(v_many:Int):RefG (tv (.ow 1) (kD kI (kO kS))) (d_look_readings [(kO kS) v_base,(kT (kP2 (kO kS) (kT kI))) v_readings,kI v_many]) (f_look_readings v_base v_readings v_many) :=
 (tFn (gIfD (xV (rEq (rLenT (rV .fz (kT (kP2 (kO kS) (kT kI))) v_readings)) (rV .fz kI (0:Int)))) (gRaiseS 4 trivial) (gNil (gPrim (pSetO 3 (rD0 (ka:=kI) (kb:=(kO kS)) 1) trivial) (fun (s1:List ((Int)×(Option (List Nat))))=>gPrim (pSetO 4 (rV (.ow 1) (kL (kO kS)) ([]:List (Option (List Nat)))) trivial) (fun (s2:List (Option (List Nat)))=>gPrim (pSet 5 (rV .fz kI (0:Int)) trivial) (fun (s3:Int)=>gPrim (pFor (fun (s4:((List ((Int)×(Option (List Nat))))×(List (Option (List Nat)))×(Int)))=>[some (.fz,(kO kS) v_base),some (.fz,(kT (kP2 (kO kS) (kT kI))) v_readings),some (.fz,kI v_many),some (.ow 1,(kD kI (kO kS)) s4.1),some (.ow 1,(kL (kO kS)) s4.2.1),some (.fz,kI s4.2.2),none,none,none]) ((s1,s2,s3)) (iSeqT (rV .fz (kT (kP2 (kO kS) (kT kI))) v_readings)) rfl (fun (s4:((List ((Int)×(Option (List Nat))))×(List (Option (List Nat)))×(Int))) (x5:((Option (List Nat))×List (Int)))=>⟨_,rfl,gIfD (xO (xV (rEq (rV .fz (kO kS) x5.1) (rV .fz (kO kS) v_base))) (xV (rInL (rV .fz (kO kS) x5.1) (rV (.bw 1) (kL (kO kS)) s4.2.1)))) (gRaiseS 4 trivial) (gNil (gPrim (pEx (argsC (rV .fz (kT kI) x5.2) (fun (y6:List (Int))=>argsC (rV .fz kI v_many) (fun (y7:Int)=>argsC (rV (.bw 1) (kD kI (kO kS)) s4.1) (fun (y8:List ((Int)×(Option (List Nat))))=>argsN (rCallS [(kT kI) y6,kI y7,(kD kI (kO kS)) y8] (t_look_rows y6 y7 y8) st_fz))))) trivial) (fun (s9:Unit)=>gIfD (xV (rLe (rIxT (rV .fz (kT kI) x5.2) (rV .fz kI (0:Int))) (rV .fz kI s4.2.2))) (gRaiseS 4 trivial) (gNil (gPrim (pSet 5 (rIxT (rV .fz (kT kI) x5.2) (rV .fz kI (0:Int))) trivial) (fun (s11:Int)=>gPrim (pApp 4 (l:=s4.2.1) (rV .fz (kO kS) x5.1) trivial rfl) (fun (s12:List (Option (List Nat)))=>gPrim1 (pFor (fun (s13:((List ((Int)×(Option (List Nat))))))=>[some (.fz,(kO kS) v_base),some (.fz,(kT (kP2 (kO kS) (kT kI))) v_readings),some (.fz,kI v_many),some (.ow 1,(kD kI (kO kS)) s13),some (.ow 1,(kL (kO kS)) s12),some (.fz,kI s11),some (.fz,(kO kS) x5.1),some (.fz,(kT kI) x5.2),none]) s4.1 (iSeqT (rV .fz (kT kI) x5.2)) rfl (fun (s13:((List ((Int)×(Option (List Nat)))))) (x14:Int)=>⟨_,rfl,gPrim1 (pDPut 3 (rV .fz (kO kS) x5.1) (rV .fz kI x14) trivial (d:=s13) rfl) (fun (s15:List ((Int)×(Option (List Nat))))=>gOk (s:=s15) ⟨_,.inl rfl,rfl⟩)⟩) trivial) (fun (s16:((List ((Int)×(Option (List Nat))))))=>gOk (s:=(s16,s12,s11)) ⟨_,.inl rfl,rfl⟩))))) trivial))) trivial⟩) trivial) (fun (s19:((List ((Int)×(Option (List Nat))))×(List (Option (List Nat)))×(Int)))=>gRetV 3 rfl (gOk (s:=s19.1) (.inl ⟨_,rfl⟩)))))))) trivial):RefG (tv (.ow 1) (kD kI (kO kS))) (d_look_readings [(kO kS) v_base,(kT (kP2 (kO kS) (kT kI))) v_readings,kI v_many]) _)
theorem t_column_back(v_base:Option (List Nat))(v_many:Int)(v_taken:List ((Int)×(Option (List Nat)))):RefG (tv .fz (kT (kO kS))) (d_column_back [(kO kS) v_base,kI v_many,(kD kI (kO kS)) v_taken]) (f_column_back v_base v_many v_taken) :=
 (tFn (gRet (rTupL (rLM (iRng (rV .fz kI v_many)) (fun (z3:Int)=>⟨_,rfl,rDGet (rV .fz (kD kI (kO kS)) v_taken) (rV .fz kI z3) (rV .fz (kO kS) v_base)⟩))) (fun (r5:List (Option (List Nat)))=>gOk (s:=r5) (.inl ⟨_,rfl⟩)) trivial):RefG (tv .fz (kT (kO kS))) (d_column_back [(kO kS) v_base,kI v_many,(kD kI (kO kS)) v_taken]) _)
theorem t_collation_back(v_entries:List (Option (List Nat)))(v_many:Int)(v_notes:List (((Int)×List (((Option (List Nat))×List (Int)))))):RefG (tv .fz (kT (kT (kO kS)))) (d_collation_back [(kT (kO kS)) v_entries,kI v_many,(kT (kP2 kI (kT (kP2 (kO kS) (kT kI))))) v_notes]) (f_collation_back v_entries v_many v_notes) :=
 (tFn (gPrim (pSetO 3 (rLM (iSeqT (rV .fz (kT (kO kS)) v_entries)) (fun (z1:Option (List Nat))=>⟨_,rfl,argsC (rV .fz (kO kS) z1) (fun (y2:Option (List Nat))=>argsC (rV .fz kI v_many) (fun (y3:Int)=>argsC (rD0 (ka:=kI) (kb:=(kO kS)) 1) (fun (y4:List ((Int)×(Option (List Nat))))=>argsN (rCallB [(kO kS) y2,kI y3,(kD kI (kO kS)) y4] (t_column_back y2 y3 y4)))))⟩)) trivial) (fun (s5:List (List (Option (List Nat))))=>gPrim (pSet 4 (rNeg (rV .fz kI (1:Int))) trivial) (fun (s6:Int)=>gPrim (pFor (fun (s7:((List (List (Option (List Nat))))×(Int)))=>[some (.fz,(kT (kO kS)) v_entries),some (.fz,kI v_many),some (.fz,(kT (kP2 kI (kT (kP2 (kO kS) (kT kI))))) v_notes),some (.ow 1,(kL (kT (kO kS))) s7.1),some (.fz,kI s7.2),none,none,none]) ((s5,s6)) (iSeqT (rV .fz (kT (kP2 kI (kT (kP2 (kO kS) (kT kI))))) v_notes)) rfl (fun (s7:((List (List (Option (List Nat))))×(Int))) (x8:((Int)×List (((Option (List Nat))×List (Int)))))=>⟨_,rfl,gIfD (xO (xV (rLe (rV .fz kI x8.1) (rV .fz kI s7.2))) (xV (rGe (rV .fz kI x8.1) (rLenT (rV .fz (kT (kO kS)) v_entries))))) (gRaiseS 4 trivial) (gNil (gPrim (pSet 4 (rV .fz kI x8.1) trivial) (fun (s9:Int)=>gPrim1 (pSetIx 3 (argsC (rIxT (rV .fz (kT (kO kS)) v_entries) (rV .fz kI x8.1)) (fun (y31:Option (List Nat))=>argsC (rV .fz kI v_many) (fun (y32:Int)=>argsC (argsC (rIxT (rV .fz (kT (kO kS)) v_entries) (rV .fz kI x8.1)) (fun (y27:Option (List Nat))=>argsC (rV .fz (kT (kP2 (kO kS) (kT kI))) x8.2) (fun (y28:List (((Option (List Nat))×List (Int))))=>argsC (rV .fz kI v_many) (fun (y29:Int)=>argsN (rCallB [(kO kS) y27,(kT (kP2 (kO kS) (kT kI))) y28,kI y29] (t_look_readings y27 y28 y29)))))) (fun (y33:List ((Int)×(Option (List Nat))))=>argsN (rCallB [(kO kS) y31,kI y32,(kD kI (kO kS)) y33] (t_column_back y31 y32 y33)))))) (rV .fz kI x8.1) trivial (l:=s7.1) rfl) (fun (s37:List (List (Option (List Nat))))=>gOk (s:=(s37,s9)) ⟨_,.inl rfl,rfl⟩)))) trivial⟩) trivial) (fun (s39:((List (List (Option (List Nat))))×(Int)))=>gRet (rTupL (rV (.bw 1) (kL (kT (kO kS))) s39.1)) (fun (r40:List (List (Option (List Nat))))=>gOk (s:=r40) (.inl ⟨_,rfl⟩)) trivial)))):RefG (tv .fz (kT (kT (kO kS)))) (d_collation_back [(kT (kO kS)) v_entries,kI v_many,(kT (kP2 kI (kT (kP2 (kO kS) (kT kI))))) v_notes]) _)
theorem t_law_cell_at(v_script:List (Int))(v_k:Int):RefG (tv .fz kI) (d_law_cell_at [(kL kI) v_script,kI v_k]) (f_law_cell_at v_script v_k) :=
 (tFn (gIfD (xV (rLt (rV .fz kI v_k) (rLenL (rV .fz (kL kI) v_script)))) (gRetS (rIxL (rV .fz (kL kI) v_script) (rV .fz kI v_k)) (fun (r1:Int)=>gOk (s:=r1) (.inl ⟨_,rfl⟩)) trivial) (gNil (gRet (rV .fz kI (0:Int)) (fun (r3:Int)=>gOk (s:=r3) (.inl ⟨_,rfl⟩)) trivial)) trivial):RefG (tv .fz kI) (d_law_cell_at [(kL kI) v_script,kI v_k]) _)
theorem t_law_draw(v_cell:Int)(v_k:Int)(v_many:Int):RefG (tv .fz kI) (d_law_draw [kI v_cell,kI v_k,kI v_many]) (f_law_draw v_cell v_k v_many) :=
 (tFn (gPrim (pSet 3 (rV .fz kI (170141183460469231731687303715884105727:Int)) trivial) (fun (s1:Int)=>gPrim (pSet 4 (rMod (rMul2 (rAddI (rMul2 (rV .fz kI v_cell) (rV .fz kI (2:Int))) (rV .fz kI (1:Int))) (rAddI (rMul2 (rMul2 (rV .fz kI v_k) (rV .fz kI v_k)) (rV .fz kI (9176023:Int))) (rV .fz kI (84127918273645463728191:Int)))) (rV .fz kI s1)) trivial) (fun (s8:Int)=>gRet (rMod (rFdivC (rMod (rMul2 (rV .fz kI s8) (rAddI (rV .fz kI s8) (rV .fz kI (5:Int)))) (rV .fz kI s1))) (rV .fz kI v_many)) (fun (r15:Int)=>gOk (s:=r15) (.inl ⟨_,rfl⟩)) trivial))):RefG (tv .fz kI) (d_law_draw [kI v_cell,kI v_k,kI v_many]) _)
theorem t_law_word_by(v_cell:Int)(v_k:Int):RefG (tv .fz kS) (d_law_word_by [kI v_cell,kI v_k]) (f_law_word_by v_cell v_k) :=
 (tFn (gPrim (pSet 2 (rV .fz kS ([]:List Nat)) trivial) (fun (s1:List Nat)=>gPrim (pFor (fun (s2:((List Nat)))=>[some (.fz,kI v_cell),some (.fz,kI v_k),some (.fz,kS s2),none]) s1 (iRng (rIxL (argsC (rV .fz kI (1:Int)) (fun (y3:Int)=>argsC (rV .fz kI (2:Int)) (fun (y4:Int)=>argsC (rV .fz kI (3:Int)) (fun (y5:Int)=>argsC (rV .fz kI (12:Int)) (fun (y6:Int)=>argsE (tv (.ow 1) (kL kI)) ([y3,y4,y5,y6]:List (Int)) rfl))))) (argsC (rV .fz kI v_cell) (fun (y9:Int)=>argsC (rAddI (rMul2 (rV .fz kI (10:Int)) (rV .fz kI v_k)) (rV .fz kI (1:Int))) (fun (y10:Int)=>argsC (rV .fz kI (4:Int)) (fun (y11:Int)=>argsN (rCallB [kI y9,kI y10,kI y11] (t_law_draw y9 y10 y11)))))))) rfl (fun (s2:((List Nat))) (x15:Int)=>⟨_,rfl,gPrim1 (pSet 2 (rAddS (rV .fz kS s2) (rIxS (rV .fz kS ([97,98,99,100,101,102,103,104,105,106,107,108,109,110,111,112,113,114,115,116,117,118,119,120,121,122]:List Nat)) (argsC (rV .fz kI v_cell) (fun (y20:Int)=>argsC (rAddI (rAddI (rV .fz kI (300:Int)) (rMul2 (rV .fz kI (20:Int)) (rV .fz kI v_k))) (rV .fz kI x15)) (fun (y21:Int)=>argsC (rV .fz kI (26:Int)) (fun (y22:Int)=>argsN (rCallB [kI y20,kI y21,kI y22] (t_law_draw y20 y21 y22)))))))) trivial) (fun (s26:List Nat)=>gOk (s:=s26) ⟨_,.inl rfl,rfl⟩)⟩) trivial) (fun (s28:((List Nat)))=>gRetV 2 rfl (gOk (s:=s28) (.inl ⟨_,rfl⟩))))):RefG (tv .fz kS) (d_law_word_by [kI v_cell,kI v_k]) _)
theorem t_law_pool(v_cell:Int):RefG (tv (.ow 1) (kL kS)) (d_law_pool [kI v_cell]) (f_law_pool v_cell) :=
 (tFn (gPrim (pSet 1 (rLM (iRng (rV .fz kI (4:Int))) (fun (z1:Int)=>⟨_,rfl,argsC (rV .fz kI v_cell) (fun (y2:Int)=>argsC (rV .fz kI z1) (fun (y3:Int)=>argsN (rCallB [kI y2,kI y3] (t_law_word_by y2 y3))))⟩)) trivial) (fun (s5:List (List Nat))=>gPrim (pSet 2 (argsC (rV .fz kI v_cell) (fun (y8:Int)=>argsC (rV .fz kI (61:Int)) (fun (y9:Int)=>argsC (rLenS (rIxL (rV .fz (kL kS) s5) (rV .fz kI (0:Int)))) (fun (y10:Int)=>argsN (rCallB [kI y8,kI y9,kI y10] (t_law_draw y8 y9 y10)))))) trivial) (fun (s12:Int)=>gPrim (pSet 3 (rIxS (rV .fz kS ([97,98,99,100,101,102,103,104,105,106,107,108,109,110,111,112,113,114,115,116,117,118,119,120,121,122]:List Nat)) (argsC (rV .fz kI v_cell) (fun (y13:Int)=>argsC (rV .fz kI (62:Int)) (fun (y14:Int)=>argsC (rV .fz kI (26:Int)) (fun (y15:Int)=>argsN (rCallB [kI y13,kI y14,kI y15] (t_law_draw y13 y14 y15))))))) trivial) (fun (s17:List Nat)=>gRet (rAddL (rV .fz (kL kS) s5) (argsC (rAddS (rAddS (rSlS (rIxL (rV .fz (kL kS) s5) (rV .fz kI (0:Int))) (oN) (oS (rV .fz kI s12))) (rV .fz kS s17)) (rSlS (rIxL (rV .fz (kL kS) s5) (rV .fz kI (0:Int))) (oS (rAddI (rV .fz kI s12) (rV .fz kI (1:Int)))) (oN))) (fun (y55:List Nat)=>argsE (tv (.ow 1) (kL kS)) ([y55]:List (List Nat)) rfl))) (fun (r58:List (List Nat))=>gOk (s:=r58) (.inl ⟨_,rfl⟩)) trivial)))):RefG (tv (.ow 1) (kL kS)) (d_law_pool [kI v_cell]) _)
theorem t_law_column_by(v_cell:Int)(v_pool:List (List Nat))(v_many:Int):RefG (tv .fz (kT (kO kS))) (d_law_column_by [kI v_cell,(kL kS) v_pool,kI v_many]) (f_law_column_by v_cell v_pool v_many) :=
 (tFn (gPrim (pSet 3 (rAddL (RefG.co (f':=tv .fz (kL (kO kS))) (c:=(List.map some)) (rV .fz (kL kS) v_pool) (fun z=>congrArg (Prod.mk (Tg.fz)) ((coL (fun _=>rfl):∀ z,(kL (kO kS)) ((List.map some) z)=(kL kS) z) z))) (argsC (rV .fz (kO kS) none) (fun (y2:Option (List Nat))=>argsE (tv (.ow 1) (kL (kO kS))) ([y2]:List (Option (List Nat))) rfl))) trivial) (fun (s3:List (Option (List Nat)))=>gPrim (pSetO 4 (argsC (rIxL (rV .fz (kL (kO kS)) s3) (argsC (rV .fz kI v_cell) (fun (y8:Int)=>argsC (rV .fz kI (1:Int)) (fun (y9:Int)=>argsC (rLenL (rV .fz (kL (kO kS)) s3)) (fun (y10:Int)=>argsN (rCallB [kI y8,kI y9,kI y10] (t_law_draw y8 y9 y10))))))) (fun (y12:Option (List Nat))=>argsE (tv (.ow 1) (kL (kO kS))) ([y12]:List (Option (List Nat))) rfl)) trivial) (fun (s14:List (Option (List Nat)))=>gPrim (pFor (fun (s15:((List (Option (List Nat)))))=>[some (.fz,kI v_cell),some (.fz,(kL kS) v_pool),some (.fz,kI v_many),some (.fz,(kL (kO kS)) s3),some (.ow 1,(kL (kO kS)) s15),none,none]) s14 (iRng2 (rV .fz kI (1:Int)) (rV .fz kI v_many)) rfl (fun (s15:((List (Option (List Nat))))) (x16:Int)=>⟨_,rfl,gPrim (pSet 6 (rIxL (rV (.bw 1) (kL (kO kS)) s15) (rV .fz kI (0:Int))) trivial) (fun (s17:Option (List Nat))=>gPrim (u':=fun (s30:((Option (List Nat))))=>[some (.fz,kI v_cell),some (.fz,(kL kS) v_pool),some (.fz,kI v_many),some (.fz,(kL (kO kS)) s3),some (.ow 1,(kL (kO kS)) s15),some (.fz,kI x16),some (.fz,(kO kS) s30)]) (gIf (β:=((Option (List Nat)))) (Post:=NxP (fun (s30:((Option (List Nat)))) Γ'=>Γ'=[some (.fz,kI v_cell),some (.fz,(kL kS) v_pool),some (.fz,kI v_many),some (.fz,(kL (kO kS)) s3),some (.ow 1,(kL (kO kS)) s15),some (.fz,kI x16),some (.fz,(kO kS) s30)])) (xV (rEq (argsC (rV .fz kI v_cell) (fun (y21:Int)=>argsC (rAddI (rV .fz kI (20:Int)) (rV .fz kI x16)) (fun (y22:Int)=>argsC (rV .fz kI (3:Int)) (fun (y23:Int)=>argsN (rCallB [kI y21,kI y22,kI y23] (t_law_draw y21 y22 y23)))))) (rV .fz kI (0:Int)))) (gPrim1 (pSet 6 (rIxL (rV .fz (kL (kO kS)) s3) (argsC (rV .fz kI v_cell) (fun (y32:Int)=>argsC (rAddI (rV .fz kI (60:Int)) (rV .fz kI x16)) (fun (y33:Int)=>argsC (rLenL (rV .fz (kL (kO kS)) s3)) (fun (y34:Int)=>argsN (rCallB [kI y32,kI y33,kI y34] (t_law_draw y32 y33 y34))))))) trivial) (fun (s36:Option (List Nat))=>gOk (s:=s36) ⟨_,rfl,rfl⟩)) (gNil1 (gOk (s:=s17) ⟨_,rfl,rfl⟩)) trivial) (fun s30=>gPrim1 (pApp 4 (l:=s15) (rV .fz (kO kS) s30) trivial rfl) (fun (s37:List (Option (List Nat)))=>gOk (s:=s37) ⟨_,.inl rfl,rfl⟩)))⟩) trivial) (fun (s40:((List (Option (List Nat)))))=>gRet (rTupL (rV (.bw 1) (kL (kO kS)) s40)) (fun (r41:List (Option (List Nat)))=>gOk (s:=r41) (.inl ⟨_,rfl⟩)) trivial)))):RefG (tv .fz (kT (kO kS))) (d_law_column_by [kI v_cell,(kL kS) v_pool,kI v_many]) _)
theorem t_law_same_v1(n:Nat)(v_found:PV)(v_due:PV):RefG (tv .fz kB) (d_law_same_v1 n [kV v_found,kV v_due]) (f_law_same_v1 n v_found v_due):=RefG.asB
theorem t_law_readings_of(v_column:List (Option (List Nat))):RefG (tv .fz (kT (kP2 (kO kS) (kT kI)))) (d_law_readings_of [(kT (kO kS)) v_column]) (f_law_readings_of v_column) :=
 (tFn (gPrim (pSetO 1 (rV (.ow 1) (kL (kO kS)) ([]:List (Option (List Nat)))) trivial) (fun (s1:List (Option (List Nat)))=>gPrim (pFor (fun (s2:((List (Option (List Nat)))))=>[some (.fz,(kT (kO kS)) v_column),some (.ow 1,(kL (kO kS)) s2),none,none,none]) s1 (iSeqT (rV .fz (kT (kO kS)) v_column)) rfl (fun (s2:((List (Option (List Nat))))) (x3:Option (List Nat))=>⟨_,rfl,gIf (xA (xV (rNe (rV .fz (kO kS) x3) (rIxT (rV .fz (kT (kO kS)) v_column) (rV .fz kI (0:Int))))) (xV (rNotInL (rV .fz (kO kS) x3) (rV (.bw 1) (kL (kO kS)) s2)))) (gPrim1 (pApp 1 (l:=s2) (rV .fz (kO kS) x3) trivial rfl) (fun (s6:List (Option (List Nat)))=>gOk (s:=s6) ⟨_,.inl rfl,rfl⟩)) (gNil1 (gOk (s:=s2) ⟨_,.inl rfl,rfl⟩)) trivial⟩) trivial) (fun (s8:((List (Option (List Nat)))))=>gPrim (pSetO 3 (rV (.ow 1) (kL (kP2 (kO kS) (kT kI))) ([]:List (((Option (List Nat))×List (Int))))) trivial) (fun (s9:List (((Option (List Nat))×List (Int))))=>gFrz 1 ((kL (kO kS)) s8) rfl (gPrim (pFor (fun (s10:((List (((Option (List Nat))×List (Int))))))=>[some (.fz,(kT (kO kS)) v_column),some (.fz,(kL (kO kS)) s8),none,some (.ow 1,(kL (kP2 (kO kS) (kT kI))) s10),none]) s9 (iSeqL (rV .fz (kL (kO kS)) s8)) rfl (fun (s10:((List (((Option (List Nat))×List (Int)))))) (x11:Option (List Nat))=>⟨_,rfl,gPrim1 (pApp 3 (l:=s10) (argsC (rV .fz (kO kS) x11) (fun (y21:Option (List Nat))=>argsC (rTupL (rLC (iRng (rLenT (rV .fz (kT (kO kS)) v_column))) (fun (z18:Int)=>⟨_,rfl,xV (rEq (rIxT (rV .fz (kT (kO kS)) v_column) (rV .fz kI z18)) (rV .fz (kO kS) x11)),rV .fz kI z18⟩))) (fun (y22:List (Int))=>argsE (tv .fz (kP2 (kO kS) (kT kI))) ((y21,y22):((Option (List Nat))×List (Int))) rfl))) trivial rfl) (fun (s25:List (((Option (List Nat))×List (Int))))=>gOk (s:=s25) ⟨_,.inl rfl,rfl⟩)⟩) trivial) (fun (s26:((List (((Option (List Nat))×List (Int))))))=>gRet (rTupL (rV (.bw 1) (kL (kP2 (kO kS) (kT kI))) s26)) (fun (r27:List (((Option (List Nat))×List (Int))))=>gOk (s:=r27) (.inl ⟨_,rfl⟩)) trivial)))))):RefG (tv .fz (kT (kP2 (kO kS) (kT kI)))) (d_law_readings_of [(kT (kO kS)) v_column]) _)
theorem t_law_notes_of(v_columns:List (List (Option (List Nat)))):RefG (tv .fz (kT (kP2 kI (kT (kP2 (kO kS) (kT kI)))))) (d_law_notes_of [(kT (kT (kO kS))) v_columns]) (f_law_notes_of v_columns) :=
 (tFn (gPrim (pSetO 1 (rV (.ow 1) (kL (kP2 kI (kT (kP2 (kO kS) (kT kI))))) ([]:List (((Int)×List (((Option (List Nat))×List (Int))))))) trivial) (fun (s1:List (((Int)×List (((Option (List Nat))×List (Int))))))=>gPrim (pFor (fun (s2:((List (((Int)×List (((Option (List Nat))×List (Int))))))))=>[some (.fz,(kT (kT (kO kS))) v_columns),some (.ow 1,(kL (kP2 kI (kT (kP2 (kO kS) (kT kI))))) s2),none,none]) s1 (iRng (rLenT (rV .fz (kT (kT (kO kS))) v_columns))) rfl (fun (s2:((List (((Int)×List (((Option (List Nat))×List (Int)))))))) (x3:Int)=>⟨_,rfl,gPrim (pSet 3 (argsC (rIxT (rV .fz (kT (kT (kO kS))) v_columns) (rV .fz kI x3)) (fun (y4:List (Option (List Nat)))=>argsN (rCallB [(kT (kO kS)) y4] (t_law_readings_of y4)))) trivial) (fun (s6:List (((Option (List Nat))×List (Int))))=>gIf (xV (rNe (rV .fz (kT (kP2 (kO kS) (kT kI))) s6) (rV .fz (kT (kP2 (kO kS) (kT kI))) ([]:List (((Option (List Nat))×List (Int))))))) (gPrim1 (pApp 1 (l:=s2) (argsC (rV .fz kI x3) (fun (y9:Int)=>argsC (rV .fz (kT (kP2 (kO kS) (kT kI))) s6) (fun (y10:List (((Option (List Nat))×List (Int))))=>argsE (tv .fz (kP2 kI (kT (kP2 (kO kS) (kT kI))))) ((y9,y10):((Int)×List (((Option (List Nat))×List (Int))))) rfl))) trivial rfl) (fun (s11:List (((Int)×List (((Option (List Nat))×List (Int))))))=>gOk (s:=s11) ⟨_,.inl rfl,rfl⟩)) (gNil1 (gOk (s:=s2) ⟨_,.inl rfl,rfl⟩)) trivial)⟩) trivial) (fun (s13:((List (((Int)×List (((Option (List Nat))×List (Int))))))))=>gRet (rTupL (rV (.bw 1) (kL (kP2 kI (kT (kP2 (kO kS) (kT kI))))) s13)) (fun (r14:List (((Int)×List (((Option (List Nat))×List (Int))))))=>gOk (s:=r14) (.inl ⟨_,rfl⟩)) trivial))):RefG (tv .fz (kT (kP2 kI (kT (kP2 (kO kS) (kT kI)))))) (d_law_notes_of [(kT (kT (kO kS))) v_columns]) _)
theorem t_law_other_rows(v_rows:List (Int))(v_way:Int)(v_many:Int):RefG (tv .fz (kT kI)) (d_law_other_rows [(kT kI) v_rows,kI v_way,kI v_many]) (f_law_other_rows v_rows v_way v_many) :=
 (tFn (gIfD (xV (rEq (rV .fz kI v_way) (rV .fz kI (7:Int)))) (gRetS (rTupRevT (rV .fz (kT kI) v_rows)) (fun (r1:List (Int))=>gOk (s:=r1) (.inl ⟨_,rfl⟩)) trivial) (gNil (gIfD (xV (rEq (rV .fz kI v_way) (rV .fz kI (8:Int)))) (gRetS (rAddT (argsC (rV .fz kI (0:Int)) (fun (y5:Int)=>argsE (tv .fz (kT kI)) ([y5]:List (Int)) rfl)) (rV .fz (kT kI) v_rows)) (fun (r6:List (Int))=>gOk (s:=r6) (.inl ⟨_,rfl⟩)) trivial) (gNil (gIfD (xV (rEq (rV .fz kI v_way) (rV .fz kI (9:Int)))) (gRetS (rAddT (rV .fz (kT kI) v_rows) (argsC (rAddI (rV .fz kI v_many) (rModC (rLenT (rV .fz (kT kI) v_rows)))) (fun (y11:Int)=>argsE (tv .fz (kT kI)) ([y11]:List (Int)) rfl))) (fun (r12:List (Int))=>gOk (s:=r12) (.inl ⟨_,rfl⟩)) trivial) (gNil (gIfD (xV (rEq (rV .fz kI v_way) (rV .fz kI (10:Int)))) (gRetS (rAddT (rSlT (rV .fz (kT kI) v_rows) (oN) (oS (rV .fz kI (1:Int)))) (rV .fz (kT kI) v_rows)) (fun (r14:List (Int))=>gOk (s:=r14) (.inl ⟨_,rfl⟩)) trivial) (gNil (gIfD (xV (rEq (rV .fz kI v_way) (rV .fz kI (11:Int)))) (gRetS (rV .fz (kT kI) ([]:List (Int))) (fun (r16:List (Int))=>gOk (s:=r16) (.inl ⟨_,rfl⟩)) trivial) (gNil (gRet (rAddT (argsC (rSub (rNeg (rV .fz kI (1:Int))) (rLenT (rV .fz (kT kI) v_rows))) (fun (y20:Int)=>argsE (tv .fz (kT kI)) ([y20]:List (Int)) rfl)) (rV .fz (kT kI) v_rows)) (fun (r21:List (Int))=>gOk (s:=r21) (.inl ⟨_,rfl⟩)) trivial)) trivial)) trivial)) trivial)) trivial)) trivial):RefG (tv .fz (kT kI)) (d_law_other_rows [(kT kI) v_rows,kI v_way,kI v_many]) _)
theorem t_law_other_readings(v_base:Option (List Nat))(v_readings:List (((Option (List Nat))×List (Int))))(v_way:Int)(v_at:Int)(v_many:Int):RefG (tv .fz (kT (kP2 (kO kS) (kT kI)))) (d_law_other_readings [(kO kS) v_base,(kT (kP2 (kO kS) (kT kI))) v_readings,kI v_way,kI v_at,kI v_many]) (f_law_other_readings v_base v_readings v_way v_at v_many) :=
 (tFn (gPrim (pSet 5 (rIxT (rV .fz (kT (kP2 (kO kS) (kT kI))) v_readings) (rV .fz kI v_at)) trivial) (fun (s1:((Option (List Nat))×List (Int)))=>gIfD (xV (rEq (rV .fz kI v_way) (rV .fz kI (4:Int)))) (gRetS (rV .fz (kT (kP2 (kO kS) (kT kI))) ([]:List (((Option (List Nat))×List (Int))))) (fun (r2:List (((Option (List Nat))×List (Int))))=>gOk (s:=r2) (.inl ⟨_,rfl⟩)) trivial) (gNil (gIfD (xV (rEq (rV .fz kI v_way) (rV .fz kI (5:Int)))) (gRetS (rAddT (rAddT (rSlT (rV .fz (kT (kP2 (kO kS) (kT kI))) v_readings) (oN) (oS (rV .fz kI v_at))) (argsC (argsC (rV .fz (kO kS) v_base) (fun (y25:Option (List Nat))=>argsC (rIxP (kb:=(kT kI)) (pr:=fun (z:((Option (List Nat))×List (Int)))=>z.2) (rV .fz (kP2 (kO kS) (kT kI)) s1)) (fun (y26:List (Int))=>argsE (tv .fz (kP2 (kO kS) (kT kI))) ((y25,y26):((Option (List Nat))×List (Int))) rfl))) (fun (y27:((Option (List Nat))×List (Int)))=>argsE (tv .fz (kT (kP2 (kO kS) (kT kI)))) ([y27]:List (((Option (List Nat))×List (Int)))) rfl))) (rSlT (rV .fz (kT (kP2 (kO kS) (kT kI))) v_readings) (oS (rAddI (rV .fz kI v_at) (rV .fz kI (1:Int)))) (oN))) (fun (r29:List (((Option (List Nat))×List (Int))))=>gOk (s:=r29) (.inl ⟨_,rfl⟩)) trivial) (gNil (gIfD (xV (rEq (rV .fz kI v_way) (rV .fz kI (6:Int)))) (gRetS (rAddT (rV .fz (kT (kP2 (kO kS) (kT kI))) v_readings) (argsC (argsC (rIxP (kb:=(kO kS)) (pr:=fun (z:((Option (List Nat))×List (Int)))=>z.1) (rV .fz (kP2 (kO kS) (kT kI)) s1)) (fun (y44:Option (List Nat))=>argsC (argsC (rSub (rV .fz kI v_many) (rV .fz kI (1:Int))) (fun (y43:Int)=>argsE (tv .fz (kT kI)) ([y43]:List (Int)) rfl)) (fun (y45:List (Int))=>argsE (tv .fz (kP2 (kO kS) (kT kI))) ((y44,y45):((Option (List Nat))×List (Int))) rfl))) (fun (y46:((Option (List Nat))×List (Int)))=>argsE (tv .fz (kT (kP2 (kO kS) (kT kI)))) ([y46]:List (((Option (List Nat))×List (Int)))) rfl))) (fun (r47:List (((Option (List Nat))×List (Int))))=>gOk (s:=r47) (.inl ⟨_,rfl⟩)) trivial) (gNil (gIfD (xV (rEq (rV .fz kI v_way) (rV .fz kI (12:Int)))) (gAssoc (gPrim (pSet 6 (rTupL (rSortTP (rAddT (rIxP (kb:=(kT kI)) (pr:=fun (z:((Option (List Nat))×List (Int)))=>z.2) (rIxT (rV .fz (kT (kP2 (kO kS) (kT kI))) v_readings) (rV .fz kI (0:Int)))) (rIxP (kb:=(kT kI)) (pr:=fun (z:((Option (List Nat))×List (Int)))=>z.2) (rIxT (rV .fz (kT (kP2 (kO kS) (kT kI))) v_readings) (rNeg (rV .fz kI (1:Int)))))) (fun x=>rfl))) trivial) (fun (s56:List (Int))=>gRetS (rAddT (rSlT (rV .fz (kT (kP2 (kO kS) (kT kI))) v_readings) (oN) (oS (rNeg (rV .fz kI (1:Int))))) (argsC (argsC (rIxP (kb:=(kO kS)) (pr:=fun (z:((Option (List Nat))×List (Int)))=>z.1) (rIxT (rV .fz (kT (kP2 (kO kS) (kT kI))) v_readings) (rNeg (rV .fz kI (1:Int))))) (fun (y77:Option (List Nat))=>argsC (rV .fz (kT kI) s56) (fun (y78:List (Int))=>argsE (tv .fz (kP2 (kO kS) (kT kI))) ((y77,y78):((Option (List Nat))×List (Int))) rfl))) (fun (y80:((Option (List Nat))×List (Int)))=>argsE (tv .fz (kT (kP2 (kO kS) (kT kI)))) ([y80]:List (((Option (List Nat))×List (Int)))) rfl))) (fun (r83:List (((Option (List Nat))×List (Int))))=>gOk (s:=r83) (.inl ⟨_,rfl⟩)) trivial))) (gNil (gIfD (xV (rEq (rV .fz kI v_way) (rV .fz kI (13:Int)))) (gRetS (rTupRevT (rV .fz (kT (kP2 (kO kS) (kT kI))) v_readings)) (fun (r85:List (((Option (List Nat))×List (Int))))=>gOk (s:=r85) (.inl ⟨_,rfl⟩)) trivial) (gNil (gRet (rAddT (rAddT (rSlT (rV .fz (kT (kP2 (kO kS) (kT kI))) v_readings) (oN) (oS (rV .fz kI v_at))) (argsC (argsC (rIxP (kb:=(kO kS)) (pr:=fun (z:((Option (List Nat))×List (Int)))=>z.1) (rV .fz (kP2 (kO kS) (kT kI)) s1)) (fun (y149:Option (List Nat))=>argsC (argsC (rIxP (kb:=(kT kI)) (pr:=fun (z:((Option (List Nat))×List (Int)))=>z.2) (rV .fz (kP2 (kO kS) (kT kI)) s1)) (fun (y146:List (Int))=>argsC (rV .fz kI v_way) (fun (y147:Int)=>argsC (rV .fz kI v_many) (fun (y148:Int)=>argsN (rCallB [(kT kI) y146,kI y147,kI y148] (t_law_other_rows y146 y147 y148)))))) (fun (y150:List (Int))=>argsE (tv .fz (kP2 (kO kS) (kT kI))) ((y149,y150):((Option (List Nat))×List (Int))) rfl))) (fun (y152:((Option (List Nat))×List (Int)))=>argsE (tv .fz (kT (kP2 (kO kS) (kT kI)))) ([y152]:List (((Option (List Nat))×List (Int)))) rfl))) (rSlT (rV .fz (kT (kP2 (kO kS) (kT kI))) v_readings) (oS (rAddI (rV .fz kI v_at) (rV .fz kI (1:Int)))) (oN))) (fun (r156:List (((Option (List Nat))×List (Int))))=>gOk (s:=r156) (.inl ⟨_,rfl⟩)) trivial)) trivial)) trivial)) trivial)) trivial)) trivial)):RefG (tv .fz (kT (kP2 (kO kS) (kT kI)))) (d_law_other_readings [(kO kS) v_base,(kT (kP2 (kO kS) (kT kI))) v_readings,kI v_way,kI v_at,kI v_many]) _)
theorem t_law_spoilt(v_columns:List (List (Option (List Nat))))(v_notes:List (((Int)×List (((Option (List Nat))×List (Int))))))(v_cell:Int):RefG (tv .fz (kT (kP2 kI (kT (kP2 (kO kS) (kT kI)))))) (d_law_spoilt [(kT (kT (kO kS))) v_columns,(kT (kP2 kI (kT (kP2 (kO kS) (kT kI))))) v_notes,kI v_cell]) (f_law_spoilt v_columns v_notes v_cell) :=
 (tFn (gPrim (pSet 3 (argsC (rV .fz kI v_cell) (fun (y1:Int)=>argsC (rV .fz kI (81:Int)) (fun (y2:Int)=>argsC (rV .fz kI (16:Int)) (fun (y3:Int)=>argsN (rCallB [kI y1,kI y2,kI y3] (t_law_draw y1 y2 y3)))))) trivial) (fun (s4:Int)=>gPrim (pSet 4 (rLenT (rIxT (rV .fz (kT (kT (kO kS))) v_columns) (rV .fz kI (0:Int)))) trivial) (fun (s6:Int)=>gPrim (pSet 5 (argsC (rV .fz kI v_cell) (fun (y7:Int)=>argsC (rV .fz kI (82:Int)) (fun (y8:Int)=>argsC (rLenT (rV .fz (kT (kP2 kI (kT (kP2 (kO kS) (kT kI))))) v_notes)) (fun (y9:Int)=>argsN (rCallB [kI y7,kI y8,kI y9] (t_law_draw y7 y8 y9)))))) trivial) (fun (s10:Int)=>gPrim (pSet 6 (rIxP (kb:=kI) (pr:=fun (z:((Int)×List (((Option (List Nat))×List (Int)))))=>z.1) (rIxT (rV .fz (kT (kP2 kI (kT (kP2 (kO kS) (kT kI))))) v_notes) (rV .fz kI s10))) trivial) (fun (s12:Int)=>gPrim (pSet 7 (rIxP (kb:=(kT (kP2 (kO kS) (kT kI)))) (pr:=fun (z:((Int)×List (((Option (List Nat))×List (Int)))))=>z.2) (rIxT (rV .fz (kT (kP2 kI (kT (kP2 (kO kS) (kT kI))))) v_notes) (rV .fz kI s10))) trivial) (fun (s14:List (((Option (List Nat))×List (Int))))=>gIfD (xV (rLt (rV .fz kI s4) (rV .fz kI (2:Int)))) (gRetS (rAddT (rV .fz (kT (kP2 kI (kT (kP2 (kO kS) (kT kI))))) v_notes) (argsC (argsC (rIxL (argsC (rLenT (rV .fz (kT (kT (kO kS))) v_columns)) (fun (y37:Int)=>argsC (rSub (rNeg (rV .fz kI (1:Int))) (rV .fz kI s12)) (fun (y38:Int)=>argsE (tv (.ow 1) (kL kI)) ([y37,y38]:List (Int)) rfl))) (rV .fz kI s4)) (fun (y39:Int)=>argsC (rV .fz (kT (kP2 (kO kS) (kT kI))) s14) (fun (y40:List (((Option (List Nat))×List (Int))))=>argsE (tv .fz (kP2 kI (kT (kP2 (kO kS) (kT kI))))) ((y39,y40):((Int)×List (((Option (List Nat))×List (Int))))) rfl))) (fun (y42:((Int)×List (((Option (List Nat))×List (Int)))))=>argsE (tv .fz (kT (kP2 kI (kT (kP2 (kO kS) (kT kI)))))) ([y42]:List (((Int)×List (((Option (List Nat))×List (Int)))))) rfl))) (fun (r45:List (((Int)×List (((Option (List Nat))×List (Int))))))=>gOk (s:=r45) (.inl ⟨_,rfl⟩)) trivial) (gNil (gIfD (xV (rEq (rV .fz kI s4) (rV .fz kI (2:Int)))) (gRetS (rAddT (rAddT (rSlT (rV .fz (kT (kP2 kI (kT (kP2 (kO kS) (kT kI))))) v_notes) (oN) (oS (rV .fz kI s10))) (rSlT (rV .fz (kT (kP2 kI (kT (kP2 (kO kS) (kT kI))))) v_notes) (oS (rV .fz kI s10)) (oS (rAddI (rV .fz kI s10) (rV .fz kI (1:Int)))))) (rSlT (rV .fz (kT (kP2 kI (kT (kP2 (kO kS) (kT kI))))) v_notes) (oS (rV .fz kI s10)) (oN))) (fun (r49:List (((Int)×List (((Option (List Nat))×List (Int))))))=>gOk (s:=r49) (.inl ⟨_,rfl⟩)) trivial) (gNil (gIfD (xV (rEq (rV .fz kI s4) (rV .fz kI (3:Int)))) (gRetS (rTupRevT (rV .fz (kT (kP2 kI (kT (kP2 (kO kS) (kT kI))))) v_notes)) (fun (r51:List (((Int)×List (((Option (List Nat))×List (Int))))))=>gOk (s:=r51) (.inl ⟨_,rfl⟩)) trivial) (gNil (gIfD (xV (rEq (rV .fz kI s4) (rV .fz kI (15:Int)))) (gRetVS 1 rfl (gOk (s:=v_notes) (.inl ⟨_,rfl⟩))) (gNil (gPrim (pSet 8 (argsC (rV .fz kI v_cell) (fun (y52:Int)=>argsC (rV .fz kI (83:Int)) (fun (y53:Int)=>argsC (rLenT (rV .fz (kT (kP2 (kO kS) (kT kI))) s14)) (fun (y54:Int)=>argsN (rCallB [kI y52,kI y53,kI y54] (t_law_draw y52 y53 y54)))))) trivial) (fun (s55:Int)=>gPrim (pSet 9 (argsC (rIxT (rIxT (rV .fz (kT (kT (kO kS))) v_columns) (rV .fz kI s12)) (rV .fz kI (0:Int))) (fun (y58:Option (List Nat))=>argsC (rV .fz (kT (kP2 (kO kS) (kT kI))) s14) (fun (y59:List (((Option (List Nat))×List (Int))))=>argsC (rV .fz kI s4) (fun (y60:Int)=>argsC (rV .fz kI s55) (fun (y61:Int)=>argsC (rV .fz kI s6) (fun (y62:Int)=>argsN (rCallB [(kO kS) y58,(kT (kP2 (kO kS) (kT kI))) y59,kI y60,kI y61,kI y62] (t_law_other_readings y58 y59 y60 y61 y62)))))))) trivial) (fun (s64:List (((Option (List Nat))×List (Int))))=>gRet (rAddT (rAddT (rSlT (rV .fz (kT (kP2 kI (kT (kP2 (kO kS) (kT kI))))) v_notes) (oN) (oS (rV .fz kI s10))) (argsC (argsC (rV .fz kI s12) (fun (y87:Int)=>argsC (rV .fz (kT (kP2 (kO kS) (kT kI))) s64) (fun (y88:List (((Option (List Nat))×List (Int))))=>argsE (tv .fz (kP2 kI (kT (kP2 (kO kS) (kT kI))))) ((y87,y88):((Int)×List (((Option (List Nat))×List (Int))))) rfl))) (fun (y89:((Int)×List (((Option (List Nat))×List (Int)))))=>argsE (tv .fz (kT (kP2 kI (kT (kP2 (kO kS) (kT kI)))))) ([y89]:List (((Int)×List (((Option (List Nat))×List (Int)))))) rfl))) (rSlT (rV .fz (kT (kP2 kI (kT (kP2 (kO kS) (kT kI))))) v_notes) (oS (rAddI (rV .fz kI s10) (rV .fz kI (1:Int)))) (oN))) (fun (r91:List (((Int)×List (((Option (List Nat))×List (Int))))))=>gOk (s:=r91) (.inl ⟨_,rfl⟩)) trivial)))) trivial)) trivial)) trivial)) trivial)))))):RefG (tv .fz (kT (kP2 kI (kT (kP2 (kO kS) (kT kI)))))) (d_law_spoilt [(kT (kT (kO kS))) v_columns,(kT (kP2 kI (kT (kP2 (kO kS) (kT kI))))) v_notes,kI v_cell]) _)
theorem t_law_kind_of(v_found:PV):RefG (tv .fz kS) (d_law_kind_of [kV v_found]) (f_law_kind_of v_found) :=
 (tFn (gIfD (xV (rIsEs (rV .fz kV v_found))) (gRetS (rV .fz kS ([97,110,111,116,104,101,114]:List Nat)) (fun (r1:List Nat)=>gOk (s:=r1) (.inl ⟨_,rfl⟩)) trivial) (gNil (gIfD (xA (xV (rIsE (rV .fz kV v_found))) (xV (rIsE (rV .fz kV v_found)))) (gRetS (rV .fz kS ([114,101,102,117,115,101,100]:List Nat)) (fun (r3:List Nat)=>gOk (s:=r3) (.inl ⟨_,rfl⟩)) trivial) (gNil (gRet (rV .fz kS ([111,100,100]:List Nat)) (fun (r4:List Nat)=>gOk (s:=r4) (.inl ⟨_,rfl⟩)) trivial)) trivial)) trivial):RefG (tv .fz kS) (d_law_kind_of [kV v_found]) _)
theorem t_law_asked(v_entries:List (Option (List Nat)))(v_many:Int)(v_notes:List (((Int)×List (((Option (List Nat))×List (Int)))))):RefG (tv .fz (kP2 kS (kO (kT (kT (kO kS)))))) (d_law_asked [(kT (kO kS)) v_entries,kI v_many,(kT (kP2 kI (kT (kP2 (kO kS) (kT kI))))) v_notes]) (f_law_asked v_entries v_many v_notes) :=
 (tFn (gPrim (pSet 3 (RefG.co (f':=tv .fz kV) (c:=kN) (rV .fz kN ()) (fun _=>rfl)) trivial) (fun (s1:PV)=>gPrim (pSet 4 (rV .fz (kO (kT (kT (kO kS)))) none) trivial) (fun (s2:Option (List (List (Option (List Nat)))))=>gPrim (u':=fun (s12:((PV)×(Option (List (List (Option (List Nat)))))))=>[some (.fz,(kT (kO kS)) v_entries),some (.fz,kI v_many),some (.fz,(kT (kP2 kI (kT (kP2 (kO kS) (kT kI))))) v_notes),some (.fz,kV s12.1),some (.fz,(kO (kT (kT (kO kS)))) s12.2),none]) (gTryT (σ:=((PV)×(Option (List (List (Option (List Nat))))))) (P:=(fun (s12:((PV)×(Option (List (List (Option (List Nat))))))) Γ'=>Γ'=[some (.fz,(kT (kO kS)) v_entries),some (.fz,kI v_many),some (.fz,(kT (kP2 kI (kT (kP2 (kO kS) (kT kI))))) v_notes),some (.fz,kV s12.1),some (.fz,(kO (kT (kT (kO kS)))) s12.2),none])) (gPrim1 (pSet 4 (RefG.co (f':=tv .fz (kO (kT (kT (kO kS))))) (c:=some) (argsC (rV .fz (kT (kO kS)) v_entries) (fun (y17:List (Option (List Nat)))=>argsC (rV .fz kI v_many) (fun (y18:Int)=>argsC (rV .fz (kT (kP2 kI (kT (kP2 (kO kS) (kT kI))))) v_notes) (fun (y19:List (((Int)×List (((Option (List Nat))×List (Int))))))=>argsN (rCallB [(kT (kO kS)) y17,kI y18,(kT (kP2 kI (kT (kP2 (kO kS) (kT kI))))) y19] (t_collation_back y17 y18 y19)))))) (fun _=>rfl)) rfl) (fun (s21:Option (List (List (Option (List Nat)))))=>gOk (s:=(s1,s21)) ⟨_,rfl,rfl⟩)) (fun (ce:Nat)=>gPrim1 (pSet 3 (rV .fz kV ((PV.exo (ce+2) []))) trivial) (fun (s22:PV)=>gOk (s:=(s22,s2)) ⟨_,rfl,rfl⟩)) trivial) (fun s12=>gIfD (xVD (rOp1D (RefG.co (f':=id) (c:=(tv .fz kV)) (rV .fz kV s12.1) (fun _=>rfl)))) (gRetS (argsC (rV .fz kS ([116,111,108,100]:List Nat)) (fun (y26:List Nat)=>argsC (rV .fz (kO (kT (kT (kO kS)))) s12.2) (fun (y27:Option (List (List (Option (List Nat)))))=>argsE (tv .fz (kP2 kS (kO (kT (kT (kO kS)))))) ((y26,y27):((List Nat)×Option (List (List (Option (List Nat)))))) rfl))) (fun (r28:((List Nat)×Option (List (List (Option (List Nat))))))=>gOk (s:=r28) (.inl ⟨_,rfl⟩)) trivial) (gNil (gRet (argsC (argsC (rV .fz kV s12.1) (fun (y33:PV)=>argsN (rCallB [kV y33] (t_law_kind_of y33)))) (fun (y34:List Nat)=>argsC (rV .fz (kO (kT (kT (kO kS)))) none) (fun (y35:Option (List (List (Option (List Nat)))))=>argsE (tv .fz (kP2 kS (kO (kT (kT (kO kS)))))) ((y34,y35):((List Nat)×Option (List (List (Option (List Nat)))))) rfl))) (fun (r37:((List Nat)×Option (List (List (Option (List Nat))))))=>gOk (s:=r37) (.inl ⟨_,rfl⟩)) trivial)) trivial)))):RefG (tv .fz (kP2 kS (kO (kT (kT (kO kS)))))) (d_law_asked [(kT (kO kS)) v_entries,kI v_many,(kT (kP2 kI (kT (kP2 (kO kS) (kT kI))))) v_notes]) _)
theorem t_law_v65(v_script:List (Int)):RefG (tv .fz kB) (d_law_v65 [(kL kI) v_script]) (f_law_v65 v_script):=by
 have h:=(tFn (gPrim (pSet 1 (argsC (rV .fz (kL kI) v_script) (fun (y1:List (Int))=>argsC (rV .fz kI (0:Int)) (fun (y2:Int)=>argsN (rCallB [(kL kI) y1,kI y2] (t_law_cell_at y1 y2))))) trivial) (fun (s3:Int)=>gPrim (pSet 2 (argsC (rV .fz kI s3) (fun (y4:Int)=>argsN (rCallB [kI y4] (t_law_pool y4)))) trivial) (fun (s5:List (List Nat))=>gPrim (pSet 3 (rAddI (rV .fz kI (2:Int)) (argsC (rV .fz kI s3) (fun (y18:Int)=>argsC (rV .fz kI (71:Int)) (fun (y19:Int)=>argsC (rIxL (argsC (rV .fz kI (5:Int)) (fun (y12:Int)=>argsC (rV .fz kI (29:Int)) (fun (y13:Int)=>argsE (tv (.ow 1) (kL kI)) ([y12,y13]:List (Int)) rfl))) (argsC (rV .fz kI s3) (fun (y14:Int)=>argsC (rV .fz kI (72:Int)) (fun (y15:Int)=>argsC (rV .fz kI (2:Int)) (fun (y16:Int)=>argsN (rCallB [kI y14,kI y15,kI y16] (t_law_draw y14 y15 y16))))))) (fun (y20:Int)=>argsN (rCallB [kI y18,kI y19,kI y20] (t_law_draw y18 y19 y20))))))) trivial) (fun (s23:Int)=>gPrim (pSetO 4 (argsC (rAddT (argsC (rV .fz (kO kS) none) (fun (y32:Option (List Nat))=>argsE (tv .fz (kT (kO kS))) ([y32]:List (Option (List Nat))) rfl)) (RefG.co (f':=tv .fz (kT (kO kS))) (c:=(List.map some)) (rRepT2 (RefG.co (f':=tv .fz (kT kS)) (c:=(fun z=>[z])) (argsC (rV .fz kS ([97]:List Nat)) (fun (y33:List Nat)=>argsE (tv .fz (kP1 kS)) (y33:List Nat) rfl)) (fun _=>rfl)) (rSub (rV .fz kI s23) (rV .fz kI (1:Int)))) (fun z=>congrArg (Prod.mk (Tg.fz)) ((coT (fun _=>rfl):∀ z,(kT (kO kS)) ((List.map some) z)=(kT kS) z) z)))) (fun (y36:List (Option (List Nat)))=>argsE (tv (.ow 1) (kL (kT (kO kS)))) ([y36]:List (List (Option (List Nat)))) rfl)) trivial) (fun (s38:List (List (Option (List Nat))))=>gPrim (pFor (fun (s39:((List (List (Option (List Nat))))))=>[some (.fz,(kL kI) v_script),some (.fz,kI s3),some (.fz,(kL kS) s5),some (.fz,kI s23),some (.ow 1,(kL (kT (kO kS))) s39),none,none,none,none,none,none,none]) s38 (iSeqL (rSlL (rV .fz (kL kI) v_script) (oS (rV .fz kI (1:Int))) (oS (rV .fz kI (21:Int))))) rfl (fun (s39:((List (List (Option (List Nat)))))) (x40:Int)=>⟨_,rfl,gPrim1 (pApp 4 (l:=s39) (argsC (rV .fz kI x40) (fun (y44:Int)=>argsC (rV .fz (kL kS) s5) (fun (y45:List (List Nat))=>argsC (rV .fz kI s23) (fun (y46:Int)=>argsN (rCallB [kI y44,(kL kS) y45,kI y46] (t_law_column_by y44 y45 y46)))))) trivial rfl) (fun (s48:List (List (Option (List Nat))))=>gOk (s:=s48) ⟨_,.inl rfl,rfl⟩)⟩) trivial) (fun (s49:((List (List (Option (List Nat))))))=>gPrim (pSet 4 (rTupL (rAddL (rSlL (rV (.bw 1) (kL (kT (kO kS))) s49) (oS (rV .fz kI (1:Int))) (oN)) (rSlL (rV (.bw 1) (kL (kT (kO kS))) s49) (oN) (oS (rV .fz kI (1:Int)))))) trivial) (fun (s50:List (List (Option (List Nat))))=>gPrim (pSet 6 (rTupL (rLM (iSeqT (rV .fz (kT (kT (kO kS))) s50)) (fun (z51:List (Option (List Nat)))=>⟨_,rfl,rIxT (rV .fz (kT (kO kS)) z51) (rV .fz kI (0:Int))⟩))) trivial) (fun (s52:List (Option (List Nat)))=>gPrim (pSet 7 (argsC (rV .fz (kT (kT (kO kS))) s50) (fun (y53:List (List (Option (List Nat))))=>argsN (rCallB [(kT (kT (kO kS))) y53] (t_law_notes_of y53)))) trivial) (fun (s54:List (((Int)×List (((Option (List Nat))×List (Int))))))=>gCtl (ret:=(fun (r137:Bool)=>Res.ok r137)) (gForT (f:=(tv .fz kB)) (fun (s55:Unit)=>[some (.fz,(kL kI) v_script),some (.fz,kI s3),some (.fz,(kL kS) s5),some (.fz,kI s23),some (.fz,(kT (kT (kO kS))) s50),none,some (.fz,(kT (kO kS)) s52),some (.fz,(kT (kP2 kI (kT (kP2 (kO kS) (kT kI))))) s54),none,none,none,none]) (()) (iSeqL (rAddL (argsC (rV .fz kI s3) (fun (y57:Int)=>argsE (tv (.ow 1) (kL kI)) ([y57]:List (Int)) rfl)) (rSlL (rV .fz (kL kI) v_script) (oS (rV .fz kI (21:Int))) (oS (rV .fz kI (61:Int)))))) rfl (fun (s55:Unit) (x58:Int)=>⟨_,rfl,gPrim (pSet 8 (argsC (rV .fz (kT (kT (kO kS))) s50) (fun (y59:List (List (Option (List Nat))))=>argsC (rV .fz (kT (kP2 kI (kT (kP2 (kO kS) (kT kI))))) s54) (fun (y60:List (((Int)×List (((Option (List Nat))×List (Int))))))=>argsC (rV .fz kI x58) (fun (y61:Int)=>argsN (rCallB [(kT (kT (kO kS))) y59,(kT (kP2 kI (kT (kP2 (kO kS) (kT kI))))) y60,kI y61] (t_law_spoilt y59 y60 y61)))))) trivial) (fun (s62:List (((Int)×List (((Option (List Nat))×List (Int))))))=>gPrim (pSet 9 (argsC (rV .fz (kT (kO kS)) s52) (fun (y63:List (Option (List Nat)))=>argsC (rV .fz kI s23) (fun (y64:Int)=>argsC (rV .fz (kT (kP2 kI (kT (kP2 (kO kS) (kT kI))))) s62) (fun (y65:List (((Int)×List (((Option (List Nat))×List (Int))))))=>argsN (rCallB [(kT (kO kS)) y63,kI y64,(kT (kP2 kI (kT (kP2 (kO kS) (kT kI))))) y65] (t_law_asked y63 y64 y65)))))) trivial) (fun (s66:((List Nat)×Option (List (List (Option (List Nat))))))=>gIfD (xA (xV (rNe (rV .fz (kT (kP2 kI (kT (kP2 (kO kS) (kT kI))))) s62) (rV .fz (kT (kP2 kI (kT (kP2 (kO kS) (kT kI))))) s54))) (xV (rNe (rV .fz (kP2 kS (kO (kT (kT (kO kS))))) s66) (argsC (rV .fz kS ([114,101,102,117,115,101,100]:List Nat)) (fun (y69:List Nat)=>argsC (rV .fz (kO (kT (kT (kO kS)))) none) (fun (y70:Option (List (List (Option (List Nat)))))=>argsE (tv .fz (kP2 kS (kO (kT (kT (kO kS)))))) ((y69,y70):((List Nat)×Option (List (List (Option (List Nat)))))) rfl)))))) (gRetS (rV .fz kB false) (fun (r71:Bool)=>gOk (s:=Ctl.rt r71) ⟨_,rfl⟩) trivial) (gNil (gPrim (pSet 9 (argsC (rV .fz (kT (kO kS)) s52) (fun (y72:List (Option (List Nat)))=>argsC (rV .fz kI s23) (fun (y73:Int)=>argsC (rV .fz (kT (kP2 kI (kT (kP2 (kO kS) (kT kI))))) s54) (fun (y74:List (((Int)×List (((Option (List Nat))×List (Int))))))=>argsN (rCallB [(kT (kO kS)) y72,kI y73,(kT (kP2 kI (kT (kP2 (kO kS) (kT kI))))) y74] (t_law_asked y72 y73 y74)))))) trivial) (fun (s75:((List Nat)×Option (List (List (Option (List Nat))))))=>gIf (xO (xV (rNe (rIxP (kb:=kS) (pr:=fun (z:((List Nat)×Option (List (List (Option (List Nat))))))=>z.1) (rV .fz (kP2 kS (kO (kT (kT (kO kS))))) s75)) (rV .fz kS ([116,111,108,100]:List Nat)))) (xN (xV (argsC (RefG.co (f':=tv .fz kV) (c:=(kO (kT (kT (kO kS))))) (rIxP (kb:=(kO (kT (kT (kO kS))))) (pr:=fun (z:((List Nat)×Option (List (List (Option (List Nat))))))=>z.2) (rV .fz (kP2 kS (kO (kT (kT (kO kS))))) s75)) (fun _=>rfl)) (fun (y76:PV)=>argsC (RefG.co (f':=tv .fz kV) (c:=(kT (kT (kO kS)))) (rV .fz (kT (kT (kO kS))) s50) (fun _=>rfl)) (fun (y77:PV)=>argsN (rCallB [kV y76,kV y77] (t_law_same_v1 8 y76 y77)))))))) (gRet (rV .fz kB false) (fun (r79:Bool)=>gOk (s:=Ctl.rt r79) ⟨_,rfl⟩) trivial) (gNil1 (gOk (s:=Ctl.nx (())) ⟨_,.inl rfl,rfl⟩)) trivial))) trivial))⟩) trivial) (fun (s83:Unit)=>gPrim (pSet 10 (argsC (argsC (rV .fz kI (0:Int)) (fun (y88:Int)=>argsC (argsC (argsC (rV .fz kS ([97]:List Nat)) (fun (y85:List Nat)=>argsC (argsC (rV .fz kI (1:Int)) (fun (y84:Int)=>argsE (tv .fz (kP1 kI)) (y84:Int) rfl)) (fun (y86:Int)=>argsE (tv .fz (kP2 kS (kP1 kI))) ((y85,y86):((List Nat)×Int)) rfl))) (fun (y87:((List Nat)×Int))=>argsE (tv .fz (kP1 (kP2 kS (kP1 kI)))) (y87:((List Nat)×Int)) rfl)) (fun (y89:((List Nat)×Int))=>argsE (tv .fz (kP2 kI (kP1 (kP2 kS (kP1 kI))))) ((y88,y89):((Int)×((List Nat)×Int))) rfl))) (fun (y90:((Int)×((List Nat)×Int)))=>argsE (tv .fz (kP1 (kP2 kI (kP1 (kP2 kS (kP1 kI)))))) (y90:((Int)×((List Nat)×Int))) rfl)) trivial) (fun (s91:((Int)×((List Nat)×Int)))=>gIfD (xV (rNe (argsC (rV .fz (kT (kO kS)) ([]:List (Option (List Nat)))) (fun (y97:List (Option (List Nat)))=>argsC (rV .fz kI s23) (fun (y98:Int)=>argsC (RefG.co (f':=tv .fz (kT (kP2 kI (kT (kP2 (kO kS) (kT kI)))))) (c:=(fun z=>[(fun z=>(z.1,(fun z=>[(fun z=>(some z.1,(fun z=>[z]) z.2)) z]) z.2)) z])) (rV .fz (kP1 (kP2 kI (kP1 (kP2 kS (kP1 kI))))) s91) (fun _=>rfl)) (fun (y99:List (((Int)×List (((Option (List Nat))×List (Int))))))=>argsN (rCallB [(kT (kO kS)) y97,kI y98,(kT (kP2 kI (kT (kP2 (kO kS) (kT kI))))) y99] (t_law_asked y97 y98 y99)))))) (argsC (rV .fz kS ([114,101,102,117,115,101,100]:List Nat)) (fun (y100:List Nat)=>argsC (rV .fz (kO (kT (kT (kO kS)))) none) (fun (y101:Option (List (List (Option (List Nat)))))=>argsE (tv .fz (kP2 kS (kO (kT (kT (kO kS)))))) ((y100,y101):((List Nat)×Option (List (List (Option (List Nat)))))) rfl))))) (gRetS (rV .fz kB false) (fun (r103:Bool)=>gOk (s:=r103) (.inl ⟨_,rfl⟩)) trivial) (gNil (gRet (rEq (argsC (argsC (rV .fz (kO kS) none) (fun (y127:Option (List Nat))=>argsE (tv .fz (kT (kO kS))) ([y127]:List (Option (List Nat))) rfl)) (fun (y128:List (Option (List Nat)))=>argsC (rV .fz kI (1:Int)) (fun (y129:Int)=>argsC (RefG.co (f':=tv .fz (kT (kP2 kI (kT (kP2 (kO kS) (kT kI)))))) (c:=(fun z=>[(fun z=>(z.1,(fun z=>[(fun z=>(some z.1,(fun z=>[z]) z.2)) z]) z.2)) z])) (rV .fz (kP1 (kP2 kI (kP1 (kP2 kS (kP1 kI))))) s91) (fun _=>rfl)) (fun (y130:List (((Int)×List (((Option (List Nat))×List (Int))))))=>argsN (rCallB [(kT (kO kS)) y128,kI y129,(kT (kP2 kI (kT (kP2 (kO kS) (kT kI))))) y130] (t_law_asked y128 y129 y130)))))) (argsC (rV .fz kS ([114,101,102,117,115,101,100]:List Nat)) (fun (y131:List Nat)=>argsC (rV .fz (kO (kT (kT (kO kS)))) none) (fun (y132:Option (List (List (Option (List Nat)))))=>argsE (tv .fz (kP2 kS (kO (kT (kT (kO kS)))))) ((y131,y132):((List Nat)×Option (List (List (Option (List Nat)))))) rfl)))) (fun (r134:Bool)=>gOk (s:=r134) (.inl ⟨_,rfl⟩)) trivial)) trivial)) (fun (r137:Bool) _=>gOk (s:=r137) (.inl ⟨_,rfl⟩))))))))))):RefG (tv .fz kB) (d_law_v65 [(kL kI) v_script]) _)
 refine cast (congrArg (RefG _ _) ?_) h
 unfold f_law_v65
 simp only [bind_ok]
 rfl
end Vm
end
section
set_option linter.all false
set_option maxRecDepth 10000
namespace Vm
theorem s2_law(ns:List Int)(hl:ns.length≤63)(hb:∀ z∈ns,z.natAbs.log2≤1048576):d_law_v65 [.lst (ns.map .int)] = .ok (.fz,.bl true):=by
 have h:=t_law_v65 ns
 rw [m_law ns hl hb] at h
 exact h
end Vm
end
section
set_option Elab.async false
set_option linter.all false
set_option maxRecDepth 100000
set_option maxHeartbeats 4000000
namespace VP
open PySem PySem.Spec PyProof.Rows L2 Vm Vl
abbrev FDn(K:PySem.W.Frag)(x:Str)(st:Stmt):Prop:=∃ (f:Addr) (od an:Option Addr) (sl:Array (Option Value)) (oc kV dc pm cd ct:Value),PySem.W.nsIn K mainGlobals x=some (some (.ref f))∧K.lookup f=some ⟨oc,od,.func (PySem.W.fnOf x x (defArgs st) (defBody st) (defScope st) .none kV dc pm an cd ct),sl⟩∧PySem.W.codeIn K cd x=true∧PySem.W.keepIn K (.ref f)=true
theorem all_mk {l:PySem.W.OpenLaw} {w:World} {K:PySem.W.Frag} {h:Heap} {mg:Str→Option Value} {fa:Addr} (X:K.In h) (G:h.Ns mainGlobals mg) (hfa:mg "law" = some (.ref fa))
  (d0:FDn K "look_rows" s_look_rows)
  (d1:FDn K "look_readings" s_look_readings)
  (d2:FDn K "column_back" s_column_back)
  (d3:FDn K "collation_back" s_collation_back)
  (d4:FDn K "_law_cell_at" s__law_cell_at)
  (d5:FDn K "_law_draw" s__law_draw)
  (d6:FDn K "_law_word_by" s__law_word_by)
  (d7:FDn K "_law_pool" s__law_pool)
  (d8:FDn K "_law_column_by" s__law_column_by)
  (d9:FDn K "_law_same" s__law_same)
  (d10:FDn K "_law_readings_of" s__law_readings_of)
  (d11:FDn K "_law_notes_of" s__law_notes_of)
  (d12:FDn K "_law_other_rows" s__law_other_rows)
  (d13:FDn K "_law_other_readings" s__law_other_readings)
  (d14:FDn K "_law_spoilt" s__law_spoilt)
  (d15:FDn K "_law_kind_of" s__law_kind_of)
  (d16:FDn K "_law_asked" s__law_asked)
  (d17:FDn K "law" s_law)
  (zz_all:PySem.W.nsIn K mainGlobals "all" = some none)
  (zz_bool:PySem.W.nsIn K mainGlobals "bool" = some none)
  (zz_int:PySem.W.nsIn K mainGlobals "int" = some none)
  (zz_isinstance:PySem.W.nsIn K mainGlobals "isinstance" = some none)
  (zz_len:PySem.W.nsIn K mainGlobals "len" = some none)
  (zz_range:PySem.W.nsIn K mainGlobals "range" = some none)
  (zz_reversed:PySem.W.nsIn K mainGlobals "reversed" = some none)
  (zz_sorted:PySem.W.nsIn K mainGlobals "sorted" = some none)
  (zz_str:PySem.W.nsIn K mainGlobals "str" = some none)
  (zz_tuple:PySem.W.nsIn K mainGlobals "tuple" = some none)
  {C_NoLine:Addr} (xg_NoLine:PySem.W.nsIn K mainGlobals "NoLine" = some (some (.ref C_NoLine))) (xe_NoLine:PySem.W.excIn K C_NoLine [.type "ValueError",.type "Exception",.type "BaseException",.type "object"] "ValueError.__new__" = true) (xk_NoLine:PySem.W.keepIn K (.ref C_NoLine)=true) (xb_NoLine:PySem.W.subIn K (.ref C_NoLine) (.type "BaseException")=some true) (xt_NoLine:PySem.W.typeIn K (.ref C_NoLine)=some (.type "type"))
  {C_NoName:Addr} (xg_NoName:PySem.W.nsIn K mainGlobals "NoName" = some (some (.ref C_NoName))) (xe_NoName:PySem.W.excIn K C_NoName [.type "ValueError",.type "Exception",.type "BaseException",.type "object"] "ValueError.__new__" = true) (xk_NoName:PySem.W.keepIn K (.ref C_NoName)=true) (xb_NoName:PySem.W.subIn K (.ref C_NoName) (.type "BaseException")=some true) (xt_NoName:PySem.W.typeIn K (.ref C_NoName)=some (.type "type"))
  {C_NoNotes:Addr} (xg_NoNotes:PySem.W.nsIn K mainGlobals "NoNotes" = some (some (.ref C_NoNotes))) (xe_NoNotes:PySem.W.excIn K C_NoNotes [.type "ValueError",.type "Exception",.type "BaseException",.type "object"] "ValueError.__new__" = true) (xk_NoNotes:PySem.W.keepIn K (.ref C_NoNotes)=true) (xb_NoNotes:PySem.W.subIn K (.ref C_NoNotes) (.type "BaseException")=some true) (xt_NoNotes:PySem.W.typeIn K (.ref C_NoNotes)=some (.type "type"))
  {C_NoPrices:Addr} (xg_NoPrices:PySem.W.nsIn K mainGlobals "NoPrices" = some (some (.ref C_NoPrices))) (xe_NoPrices:PySem.W.excIn K C_NoPrices [.type "ValueError",.type "Exception",.type "BaseException",.type "object"] "ValueError.__new__" = true) (xk_NoPrices:PySem.W.keepIn K (.ref C_NoPrices)=true) (xb_NoPrices:PySem.W.subIn K (.ref C_NoPrices) (.type "BaseException")=some true) (xt_NoPrices:PySem.W.typeIn K (.ref C_NoPrices)=some (.type "type"))
  {C_NoRow:Addr} (xg_NoRow:PySem.W.nsIn K mainGlobals "NoRow" = some (some (.ref C_NoRow))) (xe_NoRow:PySem.W.excIn K C_NoRow [.type "ValueError",.type "Exception",.type "BaseException",.type "object"] "ValueError.__new__" = true) (xk_NoRow:PySem.W.keepIn K (.ref C_NoRow)=true) (xb_NoRow:PySem.W.subIn K (.ref C_NoRow) (.type "BaseException")=some true) (xt_NoRow:PySem.W.typeIn K (.ref C_NoRow)=some (.type "type"))
  {C_NoSlips:Addr} (xg_NoSlips:PySem.W.nsIn K mainGlobals "NoSlips" = some (some (.ref C_NoSlips))) (xe_NoSlips:PySem.W.excIn K C_NoSlips [.type "ValueError",.type "Exception",.type "BaseException",.type "object"] "ValueError.__new__" = true) (xk_NoSlips:PySem.W.keepIn K (.ref C_NoSlips)=true) (xb_NoSlips:PySem.W.subIn K (.ref C_NoSlips) (.type "BaseException")=some true) (xt_NoSlips:PySem.W.typeIn K (.ref C_NoSlips)=some (.type "type"))
  {C_TooMany:Addr} (xg_TooMany:PySem.W.nsIn K mainGlobals "TooMany" = some (some (.ref C_TooMany))) (xe_TooMany:PySem.W.excIn K C_TooMany [.type "ValueError",.type "Exception",.type "BaseException",.type "object"] "ValueError.__new__" = true) (xk_TooMany:PySem.W.keepIn K (.ref C_TooMany)=true) (xb_TooMany:PySem.W.subIn K (.ref C_TooMany) (.type "BaseException")=some true) (xt_TooMany:PySem.W.typeIn K (.ref C_TooMany)=some (.type "type"))
  {C_TwiceNamed:Addr} (xg_TwiceNamed:PySem.W.nsIn K mainGlobals "TwiceNamed" = some (some (.ref C_TwiceNamed))) (xe_TwiceNamed:PySem.W.excIn K C_TwiceNamed [.type "ValueError",.type "Exception",.type "BaseException",.type "object"] "ValueError.__new__" = true) (xk_TwiceNamed:PySem.W.keepIn K (.ref C_TwiceNamed)=true) (xb_TwiceNamed:PySem.W.subIn K (.ref C_TwiceNamed) (.type "BaseException")=some true) (xt_TwiceNamed:PySem.W.typeIn K (.ref C_TwiceNamed)=some (.type "type"))
  {C_VellumError:Addr} (xg_VellumError:PySem.W.nsIn K mainGlobals "VellumError" = some (some (.ref C_VellumError))) (xe_VellumError:PySem.W.excIn K C_VellumError [.type "ValueError",.type "Exception",.type "BaseException",.type "object"] "ValueError.__new__" = true) (xk_VellumError:PySem.W.keepIn K (.ref C_VellumError)=true) (xb_VellumError:PySem.W.subIn K (.ref C_VellumError) (.type "BaseException")=some true) (xt_VellumError:PySem.W.typeIn K (.ref C_VellumError)=some (.type "type"))
  (xq_VellumError_NoNotes:PySem.W.exmOne K (.ref C_NoNotes) (.ref C_VellumError)=some true)
  (xi_NoNotes:L2.ExcC K C_NoNotes)
  (yk_NoLine_NoNotes:PySem.W.kitOne K (.ref C_NoNotes) (.ref C_NoLine)=some false)
  (yk_NoName_NoNotes:PySem.W.kitOne K (.ref C_NoNotes) (.ref C_NoName)=some false)
  (yk_NoNotes_NoNotes:PySem.W.kitOne K (.ref C_NoNotes) (.ref C_NoNotes)=some true)
  (yk_NoPrices_NoNotes:PySem.W.kitOne K (.ref C_NoNotes) (.ref C_NoPrices)=some false)
  (yk_NoRow_NoNotes:PySem.W.kitOne K (.ref C_NoNotes) (.ref C_NoRow)=some false)
  (yk_NoSlips_NoNotes:PySem.W.kitOne K (.ref C_NoNotes) (.ref C_NoSlips)=some false)
  (yk_TooMany_NoNotes:PySem.W.kitOne K (.ref C_NoNotes) (.ref C_TooMany)=some false)
  (yk_TwiceNamed_NoNotes:PySem.W.kitOne K (.ref C_NoNotes) (.ref C_TwiceNamed)=some false)
  (yz_ValueError:PySem.W.nsIn K mainGlobals "ValueError" = some none)
  (yk_ValueError_NoNotes:PySem.W.kitOne K (.ref C_NoNotes) (.type "ValueError")=some true)
  :∃ fd:FuncData,(∀ (s:Shared) (v:Value),BindsTo s fd ⟨[v],[]⟩ [("script",v)])∧∀ base:Heap,K.In base→base.Ns mainGlobals mg→FnOk l.prog w K mg base (L2.CX l.prog w) 10 fa fd ["script"] (spLaw K):=by
 obtain ⟨fL,odL,anL,slL,ocL,kVL,dcL,pmL,cdL,ctL,aL,lL,cL,kL⟩:=d17
 have e:=hfa.symm.trans (PySem.W.mg_of X G aL)
 cases e
 refine ⟨PySem.W.fnOf "law" "law" (defArgs s_law) (defBody s_law) (defScope s_law) .none kVL dcL pmL anL cdL ctL,fun s v=>.of_eq rfl,fun base _ _=>?_⟩
 have z_all:(Cn.mk ⟨K,l.prog,w,mg⟩ base).mg "all" = none:=PySem.W.mg_none_of X G zz_all
 have z_bool:(Cn.mk ⟨K,l.prog,w,mg⟩ base).mg "bool" = none:=PySem.W.mg_none_of X G zz_bool
 have z_int:(Cn.mk ⟨K,l.prog,w,mg⟩ base).mg "int" = none:=PySem.W.mg_none_of X G zz_int
 have z_isinstance:(Cn.mk ⟨K,l.prog,w,mg⟩ base).mg "isinstance" = none:=PySem.W.mg_none_of X G zz_isinstance
 have z_len:(Cn.mk ⟨K,l.prog,w,mg⟩ base).mg "len" = none:=PySem.W.mg_none_of X G zz_len
 have z_range:(Cn.mk ⟨K,l.prog,w,mg⟩ base).mg "range" = none:=PySem.W.mg_none_of X G zz_range
 have z_reversed:(Cn.mk ⟨K,l.prog,w,mg⟩ base).mg "reversed" = none:=PySem.W.mg_none_of X G zz_reversed
 have z_sorted:(Cn.mk ⟨K,l.prog,w,mg⟩ base).mg "sorted" = none:=PySem.W.mg_none_of X G zz_sorted
 have z_str:(Cn.mk ⟨K,l.prog,w,mg⟩ base).mg "str" = none:=PySem.W.mg_none_of X G zz_str
 have z_tuple:(Cn.mk ⟨K,l.prog,w,mg⟩ base).mg "tuple" = none:=PySem.W.mg_none_of X G zz_tuple
 have x_NoLine:Xc (Cn.mk ⟨K,l.prog,w,mg⟩ base) 5:=⟨_,PySem.W.mg_of X G xg_NoLine,xe_NoLine,xk_NoLine,xb_NoLine,xt_NoLine⟩
 have x_NoName:Xc (Cn.mk ⟨K,l.prog,w,mg⟩ base) 6:=⟨_,PySem.W.mg_of X G xg_NoName,xe_NoName,xk_NoName,xb_NoName,xt_NoName⟩
 have x_NoNotes:Xc (Cn.mk ⟨K,l.prog,w,mg⟩ base) 4:=⟨_,PySem.W.mg_of X G xg_NoNotes,xe_NoNotes,xk_NoNotes,xb_NoNotes,xt_NoNotes⟩
 have x_NoPrices:Xc (Cn.mk ⟨K,l.prog,w,mg⟩ base) 2:=⟨_,PySem.W.mg_of X G xg_NoPrices,xe_NoPrices,xk_NoPrices,xb_NoPrices,xt_NoPrices⟩
 have x_NoRow:Xc (Cn.mk ⟨K,l.prog,w,mg⟩ base) 1:=⟨_,PySem.W.mg_of X G xg_NoRow,xe_NoRow,xk_NoRow,xb_NoRow,xt_NoRow⟩
 have x_NoSlips:Xc (Cn.mk ⟨K,l.prog,w,mg⟩ base) 3:=⟨_,PySem.W.mg_of X G xg_NoSlips,xe_NoSlips,xk_NoSlips,xb_NoSlips,xt_NoSlips⟩
 have x_TooMany:Xc (Cn.mk ⟨K,l.prog,w,mg⟩ base) 8:=⟨_,PySem.W.mg_of X G xg_TooMany,xe_TooMany,xk_TooMany,xb_TooMany,xt_TooMany⟩
 have x_TwiceNamed:Xc (Cn.mk ⟨K,l.prog,w,mg⟩ base) 7:=⟨_,PySem.W.mg_of X G xg_TwiceNamed,xe_TwiceNamed,xk_TwiceNamed,xb_TwiceNamed,xt_TwiceNamed⟩
 have x_VellumError:Xc (Cn.mk ⟨K,l.prog,w,mg⟩ base) 0:=⟨_,PySem.W.mg_of X G xg_VellumError,xe_VellumError,xk_VellumError,xb_VellumError,xt_VellumError⟩
 have s_VellumError:Xs (Cn.mk ⟨K,l.prog,w,mg⟩ base) 0 [(4,true)]:=Xs.of (PySem.W.mg_of X G xg_VellumError) (XsA.cons (PySem.W.mg_of X G xg_NoNotes) xq_VellumError_NoNotes (XsA.nil))
 have q_NoLine:Iq (Cn.mk ⟨K,l.prog,w,mg⟩ base) "NoLine" [(4,false)]:=Iq.ofC (PySem.W.mg_of X G xg_NoLine) (IqA.cons (PySem.W.mg_of X G xg_NoNotes) xi_NoNotes yk_NoLine_NoNotes (IqA.nil))
 have q_NoName:Iq (Cn.mk ⟨K,l.prog,w,mg⟩ base) "NoName" [(4,false)]:=Iq.ofC (PySem.W.mg_of X G xg_NoName) (IqA.cons (PySem.W.mg_of X G xg_NoNotes) xi_NoNotes yk_NoName_NoNotes (IqA.nil))
 have q_NoNotes:Iq (Cn.mk ⟨K,l.prog,w,mg⟩ base) "NoNotes" [(4,true)]:=Iq.ofC (PySem.W.mg_of X G xg_NoNotes) (IqA.cons (PySem.W.mg_of X G xg_NoNotes) xi_NoNotes yk_NoNotes_NoNotes (IqA.nil))
 have q_NoPrices:Iq (Cn.mk ⟨K,l.prog,w,mg⟩ base) "NoPrices" [(4,false)]:=Iq.ofC (PySem.W.mg_of X G xg_NoPrices) (IqA.cons (PySem.W.mg_of X G xg_NoNotes) xi_NoNotes yk_NoPrices_NoNotes (IqA.nil))
 have q_NoRow:Iq (Cn.mk ⟨K,l.prog,w,mg⟩ base) "NoRow" [(4,false)]:=Iq.ofC (PySem.W.mg_of X G xg_NoRow) (IqA.cons (PySem.W.mg_of X G xg_NoNotes) xi_NoNotes yk_NoRow_NoNotes (IqA.nil))
 have q_NoSlips:Iq (Cn.mk ⟨K,l.prog,w,mg⟩ base) "NoSlips" [(4,false)]:=Iq.ofC (PySem.W.mg_of X G xg_NoSlips) (IqA.cons (PySem.W.mg_of X G xg_NoNotes) xi_NoNotes yk_NoSlips_NoNotes (IqA.nil))
 have q_TooMany:Iq (Cn.mk ⟨K,l.prog,w,mg⟩ base) "TooMany" [(4,false)]:=Iq.ofC (PySem.W.mg_of X G xg_TooMany) (IqA.cons (PySem.W.mg_of X G xg_NoNotes) xi_NoNotes yk_TooMany_NoNotes (IqA.nil))
 have q_TwiceNamed:Iq (Cn.mk ⟨K,l.prog,w,mg⟩ base) "TwiceNamed" [(4,false)]:=Iq.ofC (PySem.W.mg_of X G xg_TwiceNamed) (IqA.cons (PySem.W.mg_of X G xg_NoNotes) xi_NoNotes yk_TwiceNamed_NoNotes (IqA.nil))
 have q_ValueError:Iq (Cn.mk ⟨K,l.prog,w,mg⟩ base) "ValueError" [(4,true)]:=Iq.ofB (PySem.W.mg_none_of X G yz_ValueError) (by decide +kernel) (by decide) (IqA.cons (PySem.W.mg_of X G xg_NoNotes) xi_NoNotes yk_ValueError_NoNotes (IqA.nil))
 have c_look_rows:Cal (Cn.mk ⟨K,l.prog,w,mg⟩ base) "look_rows" 3 1 d_look_rows:=by
  obtain ⟨_,_,_,_,_,_,_,_,_,_,a,l1,c,k⟩:=d0
  have F:=fun_mk (st:=s_look_rows) l1 c k
  exact ok_look_rows F (PySem.W.mg_of X G a) (F.binds (ps:=["rows","many","taken"]) fun _ _ _ _ _ _ us hl=>match us,hl with | [_,_,_],_=>rfl) z_len x_NoNotes
 have c_look_readings:Cal (Cn.mk ⟨K,l.prog,w,mg⟩ base) "look_readings" 3 2 d_look_readings:=by
  obtain ⟨_,_,_,_,_,_,_,_,_,_,a,l1,c,k⟩:=d1
  have F:=fun_mk (st:=s_look_readings) l1 c k
  exact ok_look_readings F (PySem.W.mg_of X G a) (F.binds (ps:=["base","readings","many"]) fun _ _ _ _ _ _ us hl=>match us,hl with | [_,_,_],_=>rfl) z_len x_NoNotes c_look_rows
 have c_column_back:Cal (Cn.mk ⟨K,l.prog,w,mg⟩ base) "column_back" 3 1 d_column_back:=by
  obtain ⟨_,_,_,_,_,_,_,_,_,_,a,l1,c,k⟩:=d2
  have F:=fun_mk (st:=s_column_back) l1 c k
  exact ok_column_back F (PySem.W.mg_of X G a) (F.binds (ps:=["base","many","taken"]) fun _ _ _ _ _ _ us hl=>match us,hl with | [_,_,_],_=>rfl) z_tuple z_range
 have c_collation_back:Cal (Cn.mk ⟨K,l.prog,w,mg⟩ base) "collation_back" 3 3 d_collation_back:=by
  obtain ⟨_,_,_,_,_,_,_,_,_,_,a,l1,c,k⟩:=d3
  have F:=fun_mk (st:=s_collation_back) l1 c k
  exact ok_collation_back F (PySem.W.mg_of X G a) (F.binds (ps:=["entries","many","notes"]) fun _ _ _ _ _ _ us hl=>match us,hl with | [_,_,_],_=>rfl) z_len z_tuple x_NoNotes c_column_back c_look_readings
 have c__law_cell_at:Cal (Cn.mk ⟨K,l.prog,w,mg⟩ base) "_law_cell_at" 2 1 d_law_cell_at:=by
  obtain ⟨_,_,_,_,_,_,_,_,_,_,a,l1,c,k⟩:=d4
  have F:=fun_mk (st:=s__law_cell_at) l1 c k
  exact ok__law_cell_at F (PySem.W.mg_of X G a) (F.binds (ps:=["script","k"]) fun _ _ _ _ _ _ us hl=>match us,hl with | [_,_],_=>rfl) z_len
 have c__law_draw:Cal (Cn.mk ⟨K,l.prog,w,mg⟩ base) "_law_draw" 3 1 d_law_draw:=by
  obtain ⟨_,_,_,_,_,_,_,_,_,_,a,l1,c,k⟩:=d5
  have F:=fun_mk (st:=s__law_draw) l1 c k
  exact ok__law_draw F (PySem.W.mg_of X G a) (F.binds (ps:=["cell","k","many"]) fun _ _ _ _ _ _ us hl=>match us,hl with | [_,_,_],_=>rfl)
 have c__law_word_by:Cal (Cn.mk ⟨K,l.prog,w,mg⟩ base) "_law_word_by" 2 2 d_law_word_by:=by
  obtain ⟨_,_,_,_,_,_,_,_,_,_,a,l1,c,k⟩:=d6
  have F:=fun_mk (st:=s__law_word_by) l1 c k
  exact ok__law_word_by F (PySem.W.mg_of X G a) (F.binds (ps:=["cell","k"]) fun _ _ _ _ _ _ us hl=>match us,hl with | [_,_],_=>rfl) z_range c__law_draw
 have c__law_pool:Cal (Cn.mk ⟨K,l.prog,w,mg⟩ base) "_law_pool" 1 3 d_law_pool:=by
  obtain ⟨_,_,_,_,_,_,_,_,_,_,a,l1,c,k⟩:=d7
  have F:=fun_mk (st:=s__law_pool) l1 c k
  exact ok__law_pool F (PySem.W.mg_of X G a) (F.binds (ps:=["cell"]) fun _ _ _ _ _ _ us hl=>match us,hl with | [_],_=>rfl) z_range z_len c__law_word_by c__law_draw
 have c__law_column_by:Cal (Cn.mk ⟨K,l.prog,w,mg⟩ base) "_law_column_by" 3 2 d_law_column_by:=by
  obtain ⟨_,_,_,_,_,_,_,_,_,_,a,l1,c,k⟩:=d8
  have F:=fun_mk (st:=s__law_column_by) l1 c k
  exact ok__law_column_by F (PySem.W.mg_of X G a) (F.binds (ps:=["cell","pool","many"]) fun _ _ _ _ _ _ us hl=>match us,hl with | [_,_,_],_=>rfl) z_len z_range z_tuple c__law_draw
 have c__law_same:Cal (Cn.mk ⟨K,l.prog,w,mg⟩ base) "_law_same" 2 9 (d_law_same_v1 8):=by
  obtain ⟨_,_,_,_,_,_,_,_,_,_,a,l1,c,k⟩:=d9
  have F:=fun_mk (st:=s__law_same) l1 c k
  exact ok__law_same F (PySem.W.mg_of X G a) (F.binds (ps:=["found","due"]) fun _ _ _ _ _ _ us hl=>match us,hl with | [_,_],_=>rfl) z_isinstance z_tuple z_len z_all z_range z_str z_int z_bool 8
 have c__law_readings_of:Cal (Cn.mk ⟨K,l.prog,w,mg⟩ base) "_law_readings_of" 1 1 d_law_readings_of:=by
  obtain ⟨_,_,_,_,_,_,_,_,_,_,a,l1,c,k⟩:=d10
  have F:=fun_mk (st:=s__law_readings_of) l1 c k
  exact ok__law_readings_of F (PySem.W.mg_of X G a) (F.binds (ps:=["column"]) fun _ _ _ _ _ _ us hl=>match us,hl with | [_],_=>rfl) z_tuple z_len z_range
 have c__law_notes_of:Cal (Cn.mk ⟨K,l.prog,w,mg⟩ base) "_law_notes_of" 1 2 d_law_notes_of:=by
  obtain ⟨_,_,_,_,_,_,_,_,_,_,a,l1,c,k⟩:=d11
  have F:=fun_mk (st:=s__law_notes_of) l1 c k
  exact ok__law_notes_of F (PySem.W.mg_of X G a) (F.binds (ps:=["columns"]) fun _ _ _ _ _ _ us hl=>match us,hl with | [_],_=>rfl) z_len z_range z_tuple c__law_readings_of
 have c__law_other_rows:Cal (Cn.mk ⟨K,l.prog,w,mg⟩ base) "_law_other_rows" 3 1 d_law_other_rows:=by
  obtain ⟨_,_,_,_,_,_,_,_,_,_,a,l1,c,k⟩:=d12
  have F:=fun_mk (st:=s__law_other_rows) l1 c k
  exact ok__law_other_rows F (PySem.W.mg_of X G a) (F.binds (ps:=["rows","way","many"]) fun _ _ _ _ _ _ us hl=>match us,hl with | [_,_,_],_=>rfl) z_tuple z_reversed z_len
 have c__law_other_readings:Cal (Cn.mk ⟨K,l.prog,w,mg⟩ base) "_law_other_readings" 5 2 d_law_other_readings:=by
  obtain ⟨_,_,_,_,_,_,_,_,_,_,a,l1,c,k⟩:=d13
  have F:=fun_mk (st:=s__law_other_readings) l1 c k
  exact ok__law_other_readings F (PySem.W.mg_of X G a) (F.binds (ps:=["base","readings","way","at","many"]) fun _ _ _ _ _ _ us hl=>match us,hl with | [_,_,_,_,_],_=>rfl) z_tuple z_sorted z_reversed c__law_other_rows
 have c__law_spoilt:Cal (Cn.mk ⟨K,l.prog,w,mg⟩ base) "_law_spoilt" 3 3 d_law_spoilt:=by
  obtain ⟨_,_,_,_,_,_,_,_,_,_,a,l1,c,k⟩:=d14
  have F:=fun_mk (st:=s__law_spoilt) l1 c k
  exact ok__law_spoilt F (PySem.W.mg_of X G a) (F.binds (ps:=["columns","notes","cell"]) fun _ _ _ _ _ _ us hl=>match us,hl with | [_,_,_],_=>rfl) z_len z_tuple z_reversed c__law_draw c__law_other_readings
 have c__law_kind_of:Cal (Cn.mk ⟨K,l.prog,w,mg⟩ base) "_law_kind_of" 1 1 d_law_kind_of:=by
  obtain ⟨_,_,_,_,_,_,_,_,_,_,a,l1,c,k⟩:=d15
  have F:=fun_mk (st:=s__law_kind_of) l1 c k
  exact ok__law_kind_of F (PySem.W.mg_of X G a) (F.binds (ps:=["found"]) fun _ _ _ _ _ _ us hl=>match us,hl with | [_],_=>rfl) z_isinstance q_NoLine q_NoName q_NoPrices q_NoRow q_NoSlips q_TooMany q_TwiceNamed q_NoNotes q_ValueError
 have c__law_asked:Cal (Cn.mk ⟨K,l.prog,w,mg⟩ base) "_law_asked" 3 4 d_law_asked:=by
  obtain ⟨_,_,_,_,_,_,_,_,_,_,a,l1,c,k⟩:=d16
  have F:=fun_mk (st:=s__law_asked) l1 c k
  exact ok__law_asked F (PySem.W.mg_of X G a) (F.binds (ps:=["entries","many","notes"]) fun _ _ _ _ _ _ us hl=>match us,hl with | [_,_,_],_=>rfl) x_VellumError x_NoNotes s_VellumError c_collation_back c__law_kind_of
 have F:=fun_mk (st:=s_law) lL cL kL
 exact law_end (C:=Cn.mk ⟨K,l.prog,w,mg⟩ base) (ok_law F (PySem.W.mg_of X G aL) (F.binds (ps:=["script"]) fun _ _ _ _ _ _ us hl=>match us,hl with | [_],_=>rfl) z_tuple c__law_cell_at c__law_pool c__law_draw c__law_column_by c__law_notes_of c__law_spoilt c__law_asked c__law_same) s2_law
end VP
open PySem PySem.W PyProof.Rows
set_option maxHeartbeats 0 in
theorem PySem.Challenge.cw_vellum_k29_notes_refused_holds : PySem.Challenge.rw_vellum_k29_notes_refused.Holds := by
  w_on; refine vp_hd ?_
  k_fill
  refine L2.walk_ofB (l := PySem.Challenge.rw_vellum_k29_notes_refused) (n := 63) (k := 10) (x := "script") (CX := fun w => L2.CX PySem.Challenge.rw_vellum_k29_notes_refused.prog w) (sp := fun w => Vl.spLaw _) rfl (by decide) rfl ⟨rfl, by decide, by decide⟩ (fun w h Y => PySem.W.kIn_of Y) ?F (fun _ _ a ns hl hb ho hS => ⟨a, ns, rfl, hS, hl, hb, ho, fun _ => rfl⟩) (fun _ _ _ _ _ h => Vl.cx_no h)
  case F =>
    intro w mg fa h KX G hmg
    refine' VP.all_mk KX G hmg ?d0 ?d1 ?d2 ?d3 ?d4 ?d5 ?d6 ?d7 ?d8 ?d9 ?d10 ?d11 ?d12 ?d13 ?d14 ?d15 ?d16 ?d17 ?zz_all ?zz_bool ?zz_int ?zz_isinstance ?zz_len ?zz_range ?zz_reversed ?zz_sorted ?zz_str ?zz_tuple  ?xg_NoLine ?xe_NoLine ?xk_NoLine ?xb_NoLine ?xt_NoLine ?xg_NoName ?xe_NoName ?xk_NoName ?xb_NoName ?xt_NoName ?xg_NoNotes ?xe_NoNotes ?xk_NoNotes ?xb_NoNotes ?xt_NoNotes ?xg_NoPrices ?xe_NoPrices ?xk_NoPrices ?xb_NoPrices ?xt_NoPrices ?xg_NoRow ?xe_NoRow ?xk_NoRow ?xb_NoRow ?xt_NoRow ?xg_NoSlips ?xe_NoSlips ?xk_NoSlips ?xb_NoSlips ?xt_NoSlips ?xg_TooMany ?xe_TooMany ?xk_TooMany ?xb_TooMany ?xt_TooMany ?xg_TwiceNamed ?xe_TwiceNamed ?xk_TwiceNamed ?xb_TwiceNamed ?xt_TwiceNamed ?xg_VellumError ?xe_VellumError ?xk_VellumError ?xb_VellumError ?xt_VellumError ?xq_VellumError_NoNotes ?xi_NoNotes ?yk_NoLine_NoNotes ?yk_NoName_NoNotes ?yk_NoNotes_NoNotes ?yk_NoPrices_NoNotes ?yk_NoRow_NoNotes ?yk_NoSlips_NoNotes ?yk_TooMany_NoNotes ?yk_TwiceNamed_NoNotes ?yz_ValueError ?yk_ValueError_NoNotes
    (case zz_all => k_is); (case zz_bool => k_is); (case zz_int => k_is); (case zz_isinstance => k_is); (case zz_len => k_is); (case zz_range => k_is); (case zz_reversed => k_is); (case zz_sorted => k_is); (case zz_str => k_is); (case zz_tuple => k_is)
    (case xg_NoLine => k_is); (case xe_NoLine => k_exc); (case xk_NoLine => k_is); (case xb_NoLine => k_is); (case xt_NoLine => k_is)
    (case xg_NoName => k_is); (case xe_NoName => k_exc); (case xk_NoName => k_is); (case xb_NoName => k_is); (case xt_NoName => k_is)
    (case xg_NoNotes => k_is); (case xe_NoNotes => k_exc); (case xk_NoNotes => k_is); (case xb_NoNotes => k_is); (case xt_NoNotes => k_is)
    (case xg_NoPrices => k_is); (case xe_NoPrices => k_exc); (case xk_NoPrices => k_is); (case xb_NoPrices => k_is); (case xt_NoPrices => k_is)
    (case xg_NoRow => k_is); (case xe_NoRow => k_exc); (case xk_NoRow => k_is); (case xb_NoRow => k_is); (case xt_NoRow => k_is)
    (case xg_NoSlips => k_is); (case xe_NoSlips => k_exc); (case xk_NoSlips => k_is); (case xb_NoSlips => k_is); (case xt_NoSlips => k_is)
    (case xg_TooMany => k_is); (case xe_TooMany => k_exc); (case xk_TooMany => k_is); (case xb_TooMany => k_is); (case xt_TooMany => k_is)
    (case xg_TwiceNamed => k_is); (case xe_TwiceNamed => k_exc); (case xk_TwiceNamed => k_is); (case xb_TwiceNamed => k_is); (case xt_TwiceNamed => k_is)
    (case xg_VellumError => k_is); (case xe_VellumError => k_exc); (case xk_VellumError => k_is); (case xb_VellumError => k_is); (case xt_VellumError => k_is)
    (case xq_VellumError_NoNotes => kts_exm)
    (case xi_NoNotes => constructor <;> k_is)
    (case yk_NoLine_NoNotes => kit_is)
    (case yk_NoName_NoNotes => kit_is)
    (case yk_NoNotes_NoNotes => kit_is)
    (case yk_NoPrices_NoNotes => kit_is)
    (case yk_NoRow_NoNotes => kit_is)
    (case yk_NoSlips_NoNotes => kit_is)
    (case yk_TooMany_NoNotes => kit_is)
    (case yk_TwiceNamed_NoNotes => kit_is)
    (case yz_ValueError => k_is)
    (case yk_ValueError_NoNotes => kit_is)
    all_goals (as_aux_lemma => exact ⟨_, _, _, _, _, _, _, _, _, _, by k_is, by k_is, by k_is, by k_is⟩)
end
