import PyProof.Rows.All
import Wide.All
import OpenK.AllK
import Wide.FinOn
import HandS.Wide
import HandS.WideBits
import HandS.TupAny
import HandS.Iter
import HandS.Conv
import HandS.ForMost
import HandS.ForExc
import HandS.HeadHook2
import HandS.CallSlots
import HandS.Style
import HandS.IsInst
import HandS.Gcd
import KE.KMathGC
import HandS.ExcInit
import HandS.ExcField
import HandS.TryOnly
import KE.KExcSuper
import HandS.Ends
import HandS.Defaults
import HandS.HeadEnd
import HandS.HeadHook1
import HandS.Head2
import HandS.ExcIs
import HandS.Dict
import KE.GoesEnum
import PyProof.RulesMatch
import KE.KSuper
import HandS.ClsMeth
import HandS.NestedK
import HandS.SortInts
import HandS.SetFor
import HandS.Strs
import HandS.Deep
import PyProof.Walks
import HandS.Property
import KE.KOpsOwn
import HandS.TryMany
import HandS.GenList
import PyProof.AutoSeq1
import HandS.Flow
import HandS.SetKeys
import KE.DataFind
import KE.KIndexOf
import HandS.RevRange
import HandS.ExcOwn
import PyProof.ExcBaseAll.ValueError
import KE.DatumOrd
import HandS.Star
import HandS.MakeKw
import HandS.DictComp
import PyProof.Tail
import HandS.OwnIter
import PyProof.FactsAll.range
import HandS.TupLe
import KE.KDictZip
import KE.KDictItemsList
import HandS.Zip
import KE.KStateDown
import HandS.Head3
import PySem.Challenge.RW_unseenfolds_k20_orders_off_the_cells
set_option Elab.async false
set_option linter.all false
set_option maxRecDepth 100000
set_option maxHeartbeats 2000000
namespace DL
open PySem L2
abbrev cA (K:PySem.W.Frag) (nm:Str):Addr:=He.ga K nm
inductive D where
 | non | bl (b:Bool) | int (i:Int) | str (x:Str)
 | lst (ds:List D) | ro (ds:List D) | tup (ds:List D)
 | dct (kvs:List (Key×D))
 | ins (C:Str) (fs:List (Str×D))
 | dcT (kvs:List (List Int×D))
structure Exn where
 cls:Str
 fs:Option (List (Str×D))
structure XA where
 a:Addr
 c:Value
 d:Option Addr
 e:Exn
structure Kx where
 k:PySem.W.Frag
 xa:Option XA
instance:Coe Kx PySem.W.Frag:=⟨Kx.k⟩
inductive L where
 | d (x:D) | m (x:D) | r (x:D) | p (x:D) | xh | u (d x:D)
def L.own:L→Bool
 | .m _=>true
 | .r _=>true
 | .p _=>true
 | _=>false
def L.dat:L→Option D
 | .d x=>some x
 | .m x=>some x
 | .r x=>some x
 | .p x=>some x
 | .xh=>none
 | .u _ _=>none
abbrev Env:=List (Option L)
end DL
set_option maxHeartbeats 2000000
namespace DL
open PySem L2
inductive X where
 | d (x:D) | s (i:Nat)
inductive Res (α:Type) where
 | ok (a:α) (ρ:Env) | ex (e:Exn) (ρ:Env) | bad
abbrev EM:=Env→Res X
def look (ρ:Env):X→Option D
 | .d x=>some x
 | .s i=>match ρ[i]? with
  | some (some l)=>l.dat
  | _=>none
def fz (ρ:Env):X→Option (D×Env)
 | .d x=>some (x,ρ)
 | .s i=>match ρ[i]? with
  | some (some (.m x))=>some (x,ρ.set i (some (.d x)))
  | some (some (.d x))=>some (x,ρ)
  | _=>none
end DL
set_option maxHeartbeats 4000000
namespace DL
open PySem L2
variable {K:Kx} {W:WX}
section
variable {σ σ1:St} {G H G0 H0:Hp} {ρ ρ0:Env}
def L.put:L→D→L
 | .d _,x=>.d x
 | .m _,x=>.m x
 | .r _,x=>.r x
 | .p _,x=>.p x
 | .xh,_=>.xh
 | .u a y,_=>.u a y
end
end DL
namespace DL
open PySem PySem.Spec PyProof.Rows L2
inductive FRes where
 | ok (l:L) (as:List L) | ex (e:Exn) (as:List L) | bad
def slots:List X→List Nat
 | []=>[]
 | .d _::xs=>slots xs
 | .s i::xs=>i::slots xs
def putS (ρ:Env) (i:Nat) (y:D):Env:=match ρ[i]? with
 | some (some l)=>ρ.set i (some (l.put y))
 | _=>ρ
def Yd:Env→List X→List L→List L→Env
 | ρ,.s i::xs,.r _::as,.r y::bs=>Yd (putS ρ i y) xs as bs
 | ρ,_::xs,_::as,_::bs=>Yd ρ xs as bs
 | ρ,_,_,_=>ρ
variable {K:Kx} {W:WX}
variable {X:Cx}
def isNone:D→Bool
 | .non=>true
 | _=>false
variable {K:Kx} {W:WX}
end DL
set_option maxHeartbeats 2000000
namespace PySem
namespace ErrX
open PySem.W PySem.Calls PyProof.Rows PySem.HandSPX
def body (f msg:Str) (p0 p1 p2 p3 p4 p5 q1 q2 q3 q4:Pos):List Stmt:=
 [.Expr (.Call (.Attribute (.Call (.Name "super" p0) [] [] p1) "__init__" p2) [.Constant (.str msg) 0 p3] [] p4) p5,
  .Assign [.Attribute (.Name "self" q1) f q2] (.Name f q3) q4]
end ErrX
end PySem
namespace DL
open PySem PySem.Spec PyProof.Rows L2
abbrev FnC:Type:=Option (Str×Str×Arguments×FuncBody×Scope×Addr×List Str×Addr)
def fnC (K:PySem.W.Frag) (p:Str×Option Str):FnC:=match K.lookup (He.fAd K p) with
 | some ⟨_,_,.func fd,_⟩=>some (fd.name,fd.qualname,fd.params,fd.body,fd.scope,fd.globals,fd.closure.map (·.1),fd.builtins)
 | _=>none
structure FO where
 at_:Str×Option Str
 name:Str
 qual:Str
 params:Arguments
 body:List Stmt
 scope:Scope
def FO.val (d:FO):FnC:=some (d.name,d.qual,d.params,.stmts d.body,d.scope,mainGlobals,["__class__"],builtinsNs)
abbrev AlC:Type:=Bool×List He.FnW×List FnC
def qqN (fn:List He.DefD) (ms:List FO) (ck:PySem.W.Frag→Bool) (K:PySem.W.Frag):AlC:=(ck K && fn.all fun d=>d.ok K,fn.map fun d=>He.fnW K d.at_,ms.map fun d=>fnC K d.at_)
def qpG (fn:List He.DefD) (ms:List FO):AlC:=(true,fn.map He.DefD.val,ms.map FO.val)
def x9 (K:PySem.W.Frag) (C:Addr):Bool:=match K.lookup C with
 | some ⟨.type "type",_,.cls cd,sl⟩=>(match cd.mro,sl.toList with
  | .ref C'::bm,[_,_,_,_,some (.builtin n),_]=>C' == C && (n == "ValueError.__new__" && (!cd.hasDel && (cd.hasDict && PySem.HandSPX.refsVE bm)))
  | _,_=>false)
 | _=>false
def qoE (K:PySem.W.Frag) (file:Str) (C fI:Addr) (qual:Str):Bool:=match K.lookup fI with
 | some ⟨_,_,.func fd,_⟩=>(match fd.closure,fd.code,fd.defaults with
  | [(_,cc)],.ref cda,.none=>PySem.W.codeIn K (.ref cda) qual && ((match K.lookup cda with
   | some ⟨_,_,.fields vs,_⟩=>(match (vs[2]?:Option Value) with
    | some (.str fl _)=>file == fl
    | _=>false)
   | _=>false) && (match K.lookup cc with
   | some ⟨_,_,.cell (some (.ref C')),_⟩=>C' == C
   | _=>false))
  | _,_,_=>false)
 | _=>false
abbrev eO:=He.eqO
def qmm (K:PySem.W.Frag) (file nm f qual:Str):Bool:=
 let C:=cA K nm
 eO (PySem.W.nsIn K mainGlobals nm) (some (some (.ref C))) && (x9 K C && (eO (PySem.W.findIn K (.ref C) "__setattr__") (some (some (.builtin "object.__setattr__"))) && (eO (PySem.W.findIn K (.ref C) f) (some none) &&
 (PySem.W.keepIn K (.ref C) && (decide (PySem.W.subIn K (.ref C) (.type "BaseException")=some true) && (decide (PySem.W.subIn K (.ref C) (.type "ValueError")=some true) && (decide (PySem.W.typeIn K (.ref C)=some (.type "type")) &&
 (decide (PySem.W.mroIn K C (.ref C)=some true) && (eO (PySem.W.ks_superIn K C C "__init__") (some (some (.builtin "ValueError.__init__"))) && (eO (PySem.W.nsIn K cStatics "thirdparty.any") (some none) && (eO (PySem.W.nsIn K mainGlobals "super") (some none) &&
 (eO (PySem.W.findIn K (.ref C) "__init__") (some (some (.ref (He.ma K C "__init__")))) && (decide (PySem.W.typeIn K (.ref (He.ma K C "__init__"))=some (.type "function")) && (qoE K file C (He.ma K C "__init__") qual &&
 (decide (PySem.W.exmOne K (.ref C) (.ref C)=some true) && xfB K C)))))))))))))))
def qg6 (K:PySem.W.Frag) (x:Str):Bool:=eO (PySem.W.nsIn K mainGlobals x) (some none)
def qoL (K:PySem.W.Frag) (x:Str):Bool:=eO (PySem.W.nsIn K mainGlobals x) (some (some (.ref (cA K x))))
def qoF (K:PySem.W.Frag) (x:Str) (id:String):Bool:=eO (PySem.W.nsIn K mainGlobals x) (some (some (.builtin id)))
end DL
namespace DL
open PySem L2
section
variable {α β:Type} {ρ ρ1:Env} {e:Exn}
def clR (xs:List X) (as:List L) (o0:FRes) (ρ:Env):Res X:=match o0 with
 | .ok (.d x) bs=>.ok (.d x) (Yd ρ xs as bs)
 | .ok (.m x) bs=>.ok (.d x) (Yd ρ xs as bs)
 | .ok _ _=>.bad
 | .ex e bs=>.ex e (Yd ρ xs as bs)
 | .bad=>.bad
def clL (n:Nat) (F:List L→FRes) (xs:List X) (o0:Option (List L)) (ρ:Env):Res X:=match o0 with
 | none=>.bad
 | some as=>if xs.length=n∧(slots xs).Nodup then clR xs as (F as) ρ else .bad
end
end DL
namespace PySem.ErrX
open PySem PySem.W PySem.Spec PySem.Calls PyProof.Rows
end PySem.ErrX
namespace DL
open PySem PySem.Spec PyProof.Rows L2
def qr0 (K:PySem.W.Frag) (D:Addr):Bool:=xfB K D && (eO (PySem.W.findIn K (.ref D) "__class__") (some (some (.builtin "object.__class__"))) && (decide (PySem.W.specialIn K (.builtin "object.__class__") "__get__"=some (some (.builtin "getset_descriptor.__get__"))) &&
 (decide (PySem.W.takesIn K (.builtin "object.__class__")=some true) && decide (PySem.W.mroIn K D (.type "object")=some true))))
inductive CN where
 | own (x:Str) | ty (n:String)
def CN.u (K:PySem.W.Frag):CN→Value
 | .own x=>.ref (cA K x)
 | .ty n=>.type n
def qbm:D→Option Key
 | .int i=>some (.inl i)
 | .str x=>some (.inr x)
 | _=>none
variable {K:Kx} {W:WX}
abbrev MTb:Type:=List (Str×(List L→FRes))
abbrev maA (K:PySem.W.Frag) (C m:Str):Addr:=He.ma K (cA K C) m
def qra (K:PySem.W.Frag) (C:Str):Bool:=PySem.W.makesIn K (cA K C) && (eO (PySem.W.findIn K (.ref (cA K C)) "__init__") (some (some (.builtin "object.__init__"))) && PySem.W.keepIn K (.ref (cA K C)))
def qhq (K:PySem.W.Frag) (C:Str):Bool:=PySem.W.plainGet K (cA K C) Str.empty && (PySem.W.hasDictIn K (cA K C) && (PySem.W.plainOver K (cA K C) && eO (PySem.W.findIn K (.ref (cA K C)) "__setattr__") (some (some (.builtin "object.__setattr__")))))
def qlD (K:PySem.W.Frag) (C m C2:Str):Bool:=eO (PySem.W.findIn K (.ref (cA K C)) m) (some (some (.ref (maA K C2 m)))) && (PySem.W.isFn K (.ref (maA K C2 m)) && PySem.W.keepIn K (.ref (maA K C2 m)))
def qpl (K:PySem.W.Frag) (C:Str):Bool:=(PySem.W.clsIn K (cA K C)).isSome && eO (PySem.W.nsIn K cStatics "thirdparty.any") (some none)
mutual
def yw (K:PySem.W.Frag) (u:Value):D→Bool
 | .non=>decide (u=.none)
 | .bl b=>decide (u=.bool b)
 | .int i=>match u with
  | .int j _=>decide (i=j)
  | _=>false
 | .str x=>match u with
  | .str y _=>decide (x=y)
  | _=>false
 | .tup ds=>match u with
  | .ref a=>(match K.lookup a with
   | some o=>decide (o.cls=.type "tuple") && (o.dict.isNone && match o.data with
    | .seq its _=>decide (its.size≤sizeLine) && qbs K its.toList ds
    | _=>false)
   | none=>false)
  | _=>false
 | _=>false
def qbs (K:PySem.W.Frag) (us:List Value):List D→Bool
 | []=>us.isEmpty
 | d::ds=>match us with
  | u::us=>yw K u d && qbs K us ds
  | []=>false
end
def qt2 (K:PySem.W.Frag) (x:Str) (d:D):Bool:=match PySem.W.nsIn K mainGlobals x with
 | some (some u)=>yw K u d
 | _=>false
def cvB (K:PySem.W.Frag) (C f:Str) (d:D):Bool:=PySem.W.readsIn K (cA K C) (.type "type") && (eO (PySem.W.specialIn K (.ref (cA K C)) "__getattribute__") (some (some (.builtin "type.__getattribute__"))) && (match PySem.W.findCls K (.ref (cA K C)) (.type "type") f with
 | some (.val u)=>yw K u d
 | _=>false))
abbrev ITb:Type:=List (Str×Bool)
def qgY (K:PySem.W.Frag) (C:Str) (q:Str×Bool):Bool:=qhq K q.1 && (eO (PySem.W.findIn K (.ref (cA K q.1)) "__class__") (some (some (.builtin "object.__class__"))) && (eO (PySem.W.specialIn K (.builtin "object.__class__") "__get__") (some (some (.builtin "getset_descriptor.__get__"))) &&
 (decide (PySem.W.takesIn K (.builtin "object.__class__")=some true) && (decide (PySem.W.mroIn K (cA K q.1) (.type "object")=some true) && decide (PySem.W.kitOne K (.ref (cA K q.1)) (.ref (cA K C))=some q.2)))))
def qes (K:PySem.W.Frag) (f:Str) (C:Str):Bool:=qhq K C && eO (PySem.W.findIn K (.ref (cA K C)) f) (some none)
def unw (K:PySem.W.Frag) (a:Addr):Addr:=match PySem.W.recIn K a "property" with
 | some (.ref g::_)=>g
 | _=>match PySem.W.recIn K a "staticmethod" with
  | some (.ref g::_)=>g
  | _=>match PySem.W.recIn K a "classmethod" with
   | some (.ref g::_)=>g
   | _=>a
def fnAt (K:PySem.W.Frag) (a:Addr):He.FnW:=match K.lookup a with
 | some ⟨_,_,.func fd,_⟩=>some (fd.name,fd.qualname,fd.params,fd.body,fd.scope,fd.globals,fd.closure,fd.builtins)
 | _=>none
def qhO (K:PySem.W.Frag) (a:Addr) (d:He.DefD):Bool:=PySem.W.keepIn K (.ref a) && (match K.lookup a with
 | some ⟨_,_,.func fd,_⟩=>PySem.W.codeIn K fd.code d.qual && (He.dflB K fd.defaults (d.dvs K) && He.kwdB K fd.kwdefaults (d.kws K))
 | _=>false)
abbrev AlP:Type:=AlC×Bool×List He.FnW
def qqM (fn:List He.DefD) (ms:List FO) (pr:List He.DefD) (ck:PySem.W.Frag→Bool) (K:PySem.W.Frag):AlP:=(qqN fn ms ck K,pr.all (fun d=>qhO K (unw K (He.fAd K d.at_)) d),pr.map fun d=>fnAt K (unw K (He.fAd K d.at_)))
def qpF (fn:List He.DefD) (ms:List FO) (pr:List He.DefD):AlP:=(qpG fn ms,true,pr.map He.DefD.val)
def jg (fn:List He.DefD) (ms:List FO) (pr:List He.DefD) (ck:PySem.W.Frag→Bool) (K:PySem.W.Frag):Prop:=qqM fn ms pr ck K=qpF fn ms pr
def frN {α:Type} (n:Nat) (k:Nat→α):α:=match n with
 | 0=>k 0
 | m+1=>k (m+1)
def y8 {α:Type}:List Addr→Nat→List Addr→(List Addr→Nat→α)→α
 | [],seen,acc,k=>k acc seen
 | a::as,seen,acc,k=>frN a fun a=>match Nat.beq (Nat.land (Nat.shiftRight seen a) 1) 1 with
  | true=>y8 as seen acc k
  | false=>frN (Nat.lor seen (Nat.shiftLeft 1 a)) fun seen=>y8 as seen (a::acc) k
def qf9 {α:Type} (g:Addr→Option Obj):List Addr→Nat→List Addr→(List Addr→Nat→α)→α
 | [],seen,acc,k=>k acc seen
 | a::as,seen,acc,k=>match g a with
  | some o=>y8 (He.refsD o) seen acc fun acc seen=>qf9 g as seen acc k
  | none=>qf9 g as seen acc k
def qqn (g:Addr→Option Obj):Nat→List Addr→Nat→List Addr→List Addr
 | 0,_,_,all=>all
 | n+1,front,seen,all=>qf9 g front seen [] fun new seen=>qqn g n new seen (all++new)
def asB (g:Addr→Option Obj) (n:Nat):List Addr:=y8 [mainGlobals,cStatics] 0 [] fun acc seen=>qqn g n acc seen acc
def qgu (n:Nat) (fn:List He.DefD) (ms:List FO) (pr:List He.DefD) (ck:PySem.W.Frag→Bool) (g:Addr→Option Obj):AlP:=qqM fn ms pr ck (He.frG g (asB g n))
def qjY (n:Nat) (fn:List He.DefD) (ms:List FO) (pr:List He.DefD) (ck:PySem.W.Frag→Bool):PySem.W.Hook where
 α:=AlP
 obs:=fun s=>qgu n fn ms pr ck s.heap.get?
 val:=fun _=>qpF fn ms pr
 says:=fun _ h=>∃K:PySem.W.Frag,K.In h∧jg fn ms pr ck K
 of:=fun _ _ e=>⟨_,He.frG_in,e⟩
 keeps:=fun _ _ _ ⟨K,hK,c⟩ k=>⟨K,PySem.W.Frag.In.keeps hK k,c⟩
theorem qdX {n:Nat} {fn:List He.DefD} {ms:List FO} {pr:List He.DefD} {ck:PySem.W.Frag→Bool} {g:Addr→Option Obj} {s:Shared} (h:∀a,g a=s.heap.get? a):qgu n fn ms pr ck g=(qjY n fn ms pr ck).obs s:=by
 have e:g=s.heap.get?:=funext h;rw[e]<;>rfl
section
variable {P:Program} {w:World} {K:PySem.W.Frag} {mg:Str→Option Value} {base:Heap} {k j:Nat} {m C C2:Str} {R:List L→FRes} {tb:MTb}
def qna (K:PySem.W.Frag) (C m C2:Str):Bool:=qhq K C && (eO (PySem.W.findIn K (.ref (cA K C)) m) (some (some (.ref (maA K C2 m)))) && (eO (PySem.W.specialIn K (.ref (maA K C2 m)) "__get__") (some (some (.builtin "property.__get__"))) && (decide (PySem.W.takesIn K (.ref (maA K C2 m))=some true) &&
 match PySem.W.recIn K (maA K C2 m) "property" with
 | some (.ref _::_)=>true
 | _=>false)))
end
def qlE (K:PySem.W.Frag) (C:Str):Bool:=PySem.W.makesIn K (cA K C) && (eO (PySem.W.findIn K (.ref (cA K C)) "__init__") (some (some (.ref (maA K C "__init__")))) && (PySem.W.isFn K (.ref (maA K C "__init__")) && PySem.W.keepIn K (.ref (cA K C))))
def opB (K:PySem.W.Frag) (C nm C2:Str):Bool:=PySem.W.selfFirst K (cA K C) && (eO (PySem.W.findIn K (.ref (cA K C)) nm) (some (some (.ref (maA K C2 nm)))) && PySem.W.isFn K (.ref (maA K C2 nm)))
def getT (kvs:List (List Int×D)) (k:List Int):Option D:=(kvs.find? fun kv=>decide (kv.1=k)).map (·.2)
variable {K:Kx} {W:WX}
noncomputable def frG (G G1:Hp):Hp:=fun b=>match G1 b with
 | some (.frz o x)=>some (.frz o x)
 | _=>G b
def qub (k:Key):Option (D×Env)→Option (Option (Key×D)×Env)
 | some (y,ρ5)=>some (some (k,y),ρ5)
 | none=>none
def dcV (k:Key):Res X→Option (Option (Key×D)×Env)
 | .ok z ρ4=>qub k (fz ρ4 z)
 | _=>none
def quc (mv:EM) (ρ3:Env):Option Key→Option (Option (Key×D)×Env)
 | some k=>dcV k (mv ρ3)
 | none=>none
def qud (mv:EM) (ρ3:Env):Option D→Option (Option (Key×D)×Env)
 | some dk=>quc mv ρ3 (qbm dk)
 | none=>none
def dcK (mv:EM):Res X→Option (Option (Key×D)×Env)
 | .ok x ρ3=>qud mv ρ3 (look ρ3 x)
 | _=>none
def dcT (mk mv:EM):Res Bool→Option (Option (Key×D)×Env)
 | .ok true ρ2=>dcK mv (mk ρ2)
 | .ok false ρ2=>some (none,ρ2)
 | _=>none
end DL
namespace Law
open PySem PySem.Spec PyProof.Rows L2 DL
def Gx:ITb:=[("Numbers",true),("Reader",false),("Feed",false)]
def qam (s:Stmt) (i:Nat):Stmt:=match s with
 | .ClassDef (body:=b) ..=>b.getD i (.Pass ⟨0,0,0,0⟩)
 | s=>s
def top (i:Nat):Stmt:=PySem.Challenge.pw_unseenfolds_k20_orders_off_the_cells.main.body.getD i (.Pass ⟨0,0,0,0⟩)
abbrev Zf:Stmt:=qam (top 9) 0
abbrev Yt:Stmt:=top 17
abbrev W6:Stmt:=top 18
abbrev Xc:Stmt:=top 19
abbrev Ys:Stmt:=top 20
abbrev Z0:Stmt:=top 21
abbrev Kq:Stmt:=top 23
abbrev Vn:Stmt:=top 36
abbrev Ko:Stmt:=top 37
abbrev Xm:Stmt:=qam (top 53) 6
abbrev Yv:Stmt:=top 55
abbrev Ku:Stmt:=top 56
abbrev Yx:Stmt:=top 59
abbrev Vq:Stmt:=top 61
abbrev Xd:Stmt:=top 62
abbrev Jw:Stmt:=top 65
abbrev Js:Stmt:=top 68
abbrev X5:Stmt:=top 71
abbrev J1:Stmt:=top 72
abbrev Yi:Stmt:=top 24
abbrev W5:Stmt:=top 25
abbrev Xv:Stmt:=top 26
abbrev Uj:Stmt:=top 31
abbrev Kt:Stmt:=top 57
abbrev Yw:Stmt:=top 58
abbrev Yz:Stmt:=top 63
abbrev Yk:Stmt:=top 66
abbrev Yy:Stmt:=top 69
abbrev Jd:Stmt:=top 70
abbrev Z3:Stmt:=qam (top 9) 3
abbrev Vp:Stmt:=top 10
abbrev Yu:Stmt:=top 11
abbrev X0:Stmt:=top 12
abbrev Kv:Stmt:=top 60
abbrev X4:Stmt:=top 64
abbrev X2:Stmt:=top 73
abbrev Jv:Stmt:=top 67
abbrev Xq:Stmt:=top 33
abbrev Ks:Stmt:=top 34
abbrev Jn:Stmt:=top 35
abbrev Jb:Stmt:=qam (top 53) 3
abbrev Kr:Stmt:=top 38
abbrev Yj:Stmt:=top 39
abbrev Xr:Stmt:=top 13
abbrev J0:Stmt:=top 14
abbrev Zu:Stmt:=qam (top 53) 9
abbrev Vo:Stmt:=top 15
abbrev H5:Stmt:=top 29
abbrev W4:Stmt:=top 28
abbrev W7:Stmt:=top 30
abbrev qaG:Stmt:=top 74
def Hm:He.DefD:=⟨("Numbers",some "__init__"),"__init__","Numbers.__init__",defArgs Zf,defBody Zf,defScope Zf,[],[("divisor",(.int 1)),("modulus",(.int 1)),("spread",(.int 0)),("stride",(.int 1)),("reach",(.int 1))]⟩
def Sv:He.DefD:=⟨("last_member",none),"last_member","last_member",defArgs Yt,defBody Yt,defScope Yt,[],[]⟩
def Il:He.DefD:=⟨("place_in",none),"place_in","place_in",defArgs W6,defBody W6,defScope W6,[],[]⟩
def My:He.DefD:=⟨("strand_turned",none),"strand_turned","strand_turned",defArgs Xc,defBody Xc,defScope Xc,[],[]⟩
def Su:He.DefD:=⟨("strand_each",none),"strand_each","strand_each",defArgs Ys,defBody Ys,defScope Ys,[],[]⟩
def De:He.DefD:=⟨("strand_cut",none),"strand_cut","strand_cut",defArgs Z0,defBody Z0,defScope Z0,[],[("begin",(.int 0)),("end",.non)]⟩
def Ij:He.DefD:=⟨("row_size",none),"row_size","row_size",defArgs Kq,defBody Kq,defScope Kq,[],[]⟩
def Dd:He.DefD:=⟨("stretch_of",none),"stretch_of","stretch_of",defArgs Vn,defBody Vn,defScope Vn,[],[]⟩
def Lh:He.DefD:=⟨("whole_row",none),"whole_row","whole_row",defArgs Ko,defBody Ko,defScope Ko,[],[]⟩
def Sx:He.DefD:=⟨("_law_stream",none),"_law_stream","_law_stream",defArgs Yv,defBody Yv,defScope Yv,[],[]⟩
def Lj:He.DefD:=⟨("_law_draw",none),"_law_draw","_law_draw",defArgs Ku,defBody Ku,defScope Ku,[],[]⟩
def Sz:He.DefD:=⟨("_law_onward",none),"_law_onward","_law_onward",defArgs Yx,defBody Yx,defScope Yx,[],[]⟩
def Dj:He.DefD:=⟨("_law_parts",none),"_law_parts","_law_parts",defArgs Vq,defBody Vq,defScope Vq,[],[]⟩
def M0:He.DefD:=⟨("_law_multiple",none),"_law_multiple","_law_multiple",defArgs Xd,defBody Xd,defScope Xd,[],[]⟩
def Dk:He.DefD:=⟨("_law_moved",none),"_law_moved","_law_moved",defArgs Jw,defBody Jw,defScope Jw,[],[]⟩
def Pt:He.DefD:=⟨("_law_is_number",none),"_law_is_number","_law_is_number",defArgs Js,defBody Js,defScope Js,[],[]⟩
def Rf:He.DefD:=⟨("_law_members",none),"_law_members","_law_members",defArgs X5,defBody X5,defScope X5,[],[]⟩
def Rg:He.DefD:=⟨("_law_ascends",none),"_law_ascends","_law_ascends",defArgs J1,defBody J1,defScope J1,[],[]⟩
def Df:He.DefD:=⟨("row_turned",none),"row_turned","row_turned",defArgs Yi,defBody Yi,defScope Yi,[],[]⟩
def Ik:He.DefD:=⟨("row_each",none),"row_each","row_each",defArgs W5,defBody W5,defScope W5,[],[]⟩
def jh:He.DefD:=⟨("row_cut",none),"row_cut","row_cut",defArgs Xv,defBody Xv,defScope Xv,[],[("begin",(.int 0)),("end",.non)]⟩
def ji:He.DefD:=⟨("holders",none),"holders","holders",defArgs Uj,defBody Uj,defScope Uj,[],[]⟩
def Li:He.DefD:=⟨("_law_long",none),"_law_long","_law_long",defArgs Kt,defBody Kt,defScope Kt,[],[]⟩
def Sy:He.DefD:=⟨("_law_simple",none),"_law_simple","_law_simple",defArgs Yw,defBody Yw,defScope Yw,[],[]⟩
def S9:He.DefD:=⟨("_law_behind",none),"_law_behind","_law_behind",defArgs Yz,defBody Yz,defScope Yz,[],[]⟩
def Di:He.DefD:=⟨("_law_spots",none),"_law_spots","_law_spots",defArgs Yk,defBody Yk,defScope Yk,[],[]⟩
def S8:He.DefD:=⟨("_law_is_row",none),"_law_is_row","_law_is_row",defArgs Yy,defBody Yy,defScope Yy,[],[]⟩
def Hl:He.DefD:=⟨("_law_are_holders",none),"_law_are_holders","_law_are_holders",defArgs Jd,defBody Jd,defScope Jd,[],[]⟩
def Pu:He.DefD:=⟨("Numbers",some "__or__"),"__or__","Numbers.__or__",defArgs Z3,defBody Z3,defScope Z3,[],[]⟩
def Dh:He.DefD:=⟨("behind_cut",none),"behind_cut","behind_cut",defArgs Vp,defBody Vp,defScope Vp,[],[]⟩
def Sw:He.DefD:=⟨("behind_each",none),"behind_each","behind_each",defArgs Yu,defBody Yu,defScope Yu,[],[]⟩
def Ra:He.DefD:=⟨("behind_block",none),"behind_block","behind_block",defArgs X0,defBody X0,defScope X0,[],[]⟩
def Lk:He.DefD:=⟨("_law_code",none),"_law_code","_law_code",defArgs Kv,defBody Kv,defScope Kv,[],[]⟩
def Rc:He.DefD:=⟨("_law_numbers",none),"_law_numbers","_law_numbers",defArgs X4,defBody X4,defScope X4,[],[]⟩
def Rb:He.DefD:=⟨("_law_ordered",none),"_law_ordered","_law_ordered",defArgs X2,defBody X2,defScope X2,[],[]⟩
def S7:He.DefD:=⟨("_law_narrow",none),"_law_narrow","_law_narrow",defArgs Jv,defBody Jv,defScope Jv,[],[]⟩
def Pe:He.DefD:=⟨("count_parts",none),"count_parts","count_parts",defArgs Xq,defBody Xq,defScope Xq,[],[]⟩
def Cv:He.DefD:=⟨("depth_of",none),"depth_of","depth_of",defArgs Ks,defBody Ks,defScope Ks,[],[]⟩
def Ut:He.DefD:=⟨("leaves_behind",none),"leaves_behind","leaves_behind",defArgs Jn,defBody Jn,defScope Jn,[],[]⟩
def M3:He.DefD:=⟨("Feed",some "__init__"),"__init__","Feed.__init__",defArgs Jb,defBody Jb,defScope Jb,[],[]⟩
def Cu:He.DefD:=⟨("part_row",none),"part_row","part_row",defArgs Kr,defBody Kr,defScope Kr,[],[]⟩
def Mz:He.DefD:=⟨("row_behind",none),"row_behind","row_behind",defArgs Yj,defBody Yj,defScope Yj,[],[]⟩
def Pf:He.DefD:=⟨("behind_part",none),"behind_part","behind_part",defArgs Xr,defBody Xr,defScope Xr,[],[]⟩
def Hu:He.DefD:=⟨("behind_parts",none),"behind_parts","behind_parts",defArgs J0,defBody J0,defScope J0,[],[]⟩
def Gj:He.DefD:=⟨("Feed",some "strands_at"),"strands_at","Feed.strands_at",defArgs Zu,defBody Zu,defScope Zu,[],[]⟩
def Dg:He.DefD:=⟨("numbers_of",none),"numbers_of","numbers_of",defArgs Vo,defBody Vo,defScope Vo,[],[]⟩
def jj:He.DefD:=⟨("ends_at",none),"ends_at","ends_at",defArgs H5,defBody H5,defScope H5,[],[]⟩
def Ii:He.DefD:=⟨("together",none),"together","together",defArgs W4,defBody W4,defScope W4,[],[]⟩
def Im:He.DefD:=⟨("cells_at",none),"cells_at","cells_at",defArgs W7,defBody W7,defScope W7,[],[]⟩
def qla:He.DefD:=⟨("law",none),"law","law",defArgs qaG,defBody qaG,defScope qaG,[],[]⟩
def Dl:He.DefD:=⟨("Feed",some "parts"),"parts","Feed.parts",defArgs Xm,defBody Xm,defScope Xm,[],[]⟩
def fnL:List He.DefD:=[Hm,Sv,Il,My,Su,De,Ij,Dd,Lh,Sx,Lj,Sz,Dj,M0,Dk,Pt,Rf,Rg,Df,Ik,jh,ji,Li,Sy,S9,Di,S8,Hl,Pu,Dh,Sw,Ra,Lk,Rc,Rb,S7,Pe,Cv,Ut,M3,Cu,Mz,Pf,Hu,Gj,Dg,jj,Ii,Im,qla]
def prL:List He.DefD:=[Dl]
def Lg:FO:=⟨("BadLength",some "__init__"),"__init__","BadLength.__init__",defArgs (qam (top 4) 0),defBody (qam (top 4) 0),defScope (qam (top 4) 0)⟩
def Ih:FO:=⟨("BadPlace",some "__init__"),"__init__","BadPlace.__init__",defArgs (qam (top 7) 0),defBody (qam (top 7) 0),defScope (qam (top 7) 0)⟩
def Ig:FO:=⟨("TooLarge",some "__init__"),"__init__","TooLarge.__init__",defArgs (qam (top 6) 0),defBody (qam (top 6) 0),defScope (qam (top 6) 0)⟩
def msL:List FO:=[Lg,Ih,Ig]
def frL:List Str:=["abs","bool","divmod","enumerate","int","isinstance","len","list","max","min","range","sorted","sum","tuple"]
def glL:List Str:=(["last_member","place_in","strand_turned","strand_each","strand_cut","row_size","stretch_of","whole_row","_law_stream","_law_draw","_law_onward","_law_parts","_law_multiple","_law_moved","_law_is_number","_law_members"]:List Str)++((["_law_ascends","row_turned","row_each","row_cut","holders","_law_long","_law_simple","_law_behind","_law_spots","_law_is_row","_law_are_holders","behind_cut","behind_each","behind_block","_law_code","_law_numbers"]:List Str)++((["_law_ordered","_law_narrow","count_parts","depth_of","leaves_behind","part_row","row_behind","behind_part","behind_parts","numbers_of","ends_at","together","cells_at","law","Feed","Numbers"]:List Str)))
def clL:List Str:=["Feed"]
def mdL:List Str:=[]
def mtL:List (Str×Str×Str):=([("Feed","strands_at","Feed")]:List (Str×Str×Str))
def isL:List (Str×Str×Str):=[]
def ixL:List Str:=[]
def imL:List (Str×String):=[("lcm","math.lcm")]
def erL:List (Str×Str×Str):=[("BadLength","length","BadLength.__init__"),("BadPlace","place","BadPlace.__init__"),("TooLarge","what","TooLarge.__init__")]
def gcL:List (Str×D):=[]
def cvL:List (Str×Str×D):=([("Feed","MOST_DEPTH",(.int 6)),("Feed","MOST_LEAVES",(.int 16)),("Feed","MOST_PARTS",(.int 24))]:List (Str×Str×D))
def ck2 (K:PySem.W.Frag):Bool:=gcL.all (fun q=>qt2 K q.1 q.2) && (cvL.all (fun q=>cvB K q.1 q.2.1 q.2.2) && (Gx.all (qgY K "Numbers") && ((["Feed"]:List Str).all (qes K "_leaves") && ((["Feed"]:List Str).all (qes K "_parts") && ((["Numbers"]:List Str).all (qes K "divisor") && ((["Numbers"]:List Str).all (qes K "modulus") && ((["Numbers"]:List Str).all (qes K "reach") && ((["Numbers"]:List Str).all (qes K "spread") && ((["Numbers"]:List Str).all (qes K "stride") && (qlE K "Feed" && (qlE K "Numbers" && (qna K "Feed" "parts" "Feed" && (opB K "Numbers" "__or__" "Numbers" && (isL.all (fun q=>qoE K PySem.Challenge.pw_unseenfolds_k20_orders_off_the_cells.main.file (cA K q.1) (maA K q.1 q.2.1) q.2.2 && qpl K q.1)))))))))))))))
def ck (K:PySem.W.Frag):Bool:=frL.all (qg6 K) && (glL.all (qoL K) && (imL.all (fun q=>qoF K q.1 q.2) && (erL.all (fun q=>qmm K PySem.Challenge.pw_unseenfolds_k20_orders_off_the_cells.main.file q.1 q.2.1 q.2.2) && (ixL.all (fun x=>qr0 K (cA K x)) && (clL.all (qhq K) && (mdL.all (qra K) && (mtL.all (fun q=>qlD K q.1 q.2.1 q.2.2) && (ck2 K && (true)))))))))
end Law
set_option maxHeartbeats 0
namespace Law
open PySem PySem.Spec PyProof.Rows L2 DL
abbrev R:PySem.W.OpenRow:=PySem.W.OpenLaw.row PySem.Challenge.rw_unseenfolds_k20_orders_off_the_cells
abbrev hk:PySem.W.Hook:=qjY 5 fnL msL prL ck
def ob (s:PySem.W.SharedT):AlP:=qgu 5 fnL msL prL ck (HandSHeadRun.getT s)
theorem qnk (s:PySem.W.SharedT):ob s=hk.obs s.abs:=qdX (HandSHeadRun.getT_eq s)
def lo0:List Str:=["_wall","FoldError","BadLength","BadFeed","TooLarge","BadPlace","Numbers","behind_cut","behind_each","behind_block","behind_part","behind_parts","numbers_of","last_member","place_in","strand_turned","strand_each","strand_cut","row_size","row_turned","row_each","row_cut","together","ends_at","cells_at","holders","count_parts","depth_of","leaves_behind","stretch_of"]
def lo1:List Str:=["whole_row","part_row","row_behind","part_list","list_behind","DEPTH_BOUND","DIGITS","CUT_WORDS","tokens","number_of","Reader","read_parts","part_text","write_parts","Feed","_law_stream","_law_draw","_law_long","_law_simple","_law_onward","_law_code","_law_parts","_law_multiple","_law_behind","_law_numbers","_law_moved","_law_spots","_law_narrow","_law_is_number","_law_is_row"]
def lo2:List Str:=["_law_are_holders","_law_members","_law_ascends","_law_ordered"]
def loose:List Str:=lo0++(lo1++(lo2))
theorem qte (w:World) (os:Unit):Option.map (fun x=>(HandSHeadRun.looksF R.prog x.1.heap x.2.abs,HandSHeadRun.seenQ (PySem.W.view R.prog [0,74]) loose (importedModules R.prog.main.body) (fun s=>PySem.W.xlAt (PySem.W.view R.prog [0,74]) [] s && PySem.W.recOk R.toRowW.records s) x.2.abs)) (HandSHeadRun.wholeF (fun p=>HandSHeadRun.stepQ (HandSHeadRun.denQ HandSHeadRun.tabQ) p w) HandSHeadRun.fenceQ 40000 R.prog)=some (true,PySem.W.openGood (PySem.W.view R.prog [0,74]) loose):=by kernel_rfl
def kS (s:PySem.W.SharedT):PySem.W.Frag:=He.frG (HandSHeadRun.getT s) (asB (HandSHeadRun.getT s) 5)
def ckh (K:PySem.W.Frag):Bool:=frL.all (qg6 K) && (glL.all (qoL K) && (imL.all (fun q=>qoF K q.1 q.2) && (erL.all (fun q=>qmm K PySem.Challenge.pw_unseenfolds_k20_orders_off_the_cells.main.file q.1 q.2.1 q.2.2) && (ixL.all (fun x=>qr0 K (cA K x)) && (clL.all (qhq K) && (mdL.all (qra K) && (mtL.all (fun q=>qlD K q.1 q.2.1 q.2.2) && ((true)))))))))
theorem qpp {K:PySem.W.Frag} (h1:ckh K=true) (h2:ck2 K=true):ck K=true:=by
 unfold ck;rw[h2];exact h1
theorem qm0 (w:World) (os:Unit):Option.map (fun s=>ckh (kS s)) (Option.map Prod.snd (HandSHeadRun.wholeF (fun p=>HandSHeadRun.stepQ (HandSHeadRun.denQ HandSHeadRun.tabQ) p w) HandSHeadRun.fenceQ 40000 R.prog))=some true:=by kernel_rfl
theorem qmZ (w:World) (os:Unit):Option.map (fun s=>ck2 (kS s)) (Option.map Prod.snd (HandSHeadRun.wholeF (fun p=>HandSHeadRun.stepQ (HandSHeadRun.denQ HandSHeadRun.tabQ) p w) HandSHeadRun.fenceQ 40000 R.prog))=some true:=by kernel_rfl
theorem qtd (w:World) (os:Unit):Option.map (fun s=>ck (kS s)) (Option.map Prod.snd (HandSHeadRun.wholeF (fun p=>HandSHeadRun.stepQ (HandSHeadRun.denQ HandSHeadRun.tabQ) p w) HandSHeadRun.fenceQ 40000 R.prog))=some true:=by
 have e1:=qm0 w os;have e2:=qmZ w os;generalize (Option.map Prod.snd (HandSHeadRun.wholeF (fun p=>HandSHeadRun.stepQ (HandSHeadRun.denQ HandSHeadRun.tabQ) p w) HandSHeadRun.fenceQ 40000 R.prog))=o at *;cases o with
 | none=>cases e1
 | some s=>exact congrArg some (qpp (Option.some.inj e1) (Option.some.inj e2))
theorem qmY (w:World) (os:Unit):Option.map (fun s=>(fnL.all (fun d=>d.ok (kS s)),msL.map (fun d=>fnC (kS s) d.at_),prL.all (fun d=>qhO (kS s) (unw (kS s) (He.fAd (kS s) d.at_)) d),prL.map (fun d=>fnAt (kS s) (unw (kS s) (He.fAd (kS s) d.at_))))) (Option.map Prod.snd (HandSHeadRun.wholeF (fun p=>HandSHeadRun.stepQ (HandSHeadRun.denQ HandSHeadRun.tabQ) p w) HandSHeadRun.fenceQ 40000 R.prog))=some (true,msL.map FO.val,true,prL.map He.DefD.val):=by kernel_rfl
theorem qmX (w:World) (os:Unit):Option.map (fun s=>fnL.map (fun d=>He.fnW (kS s) d.at_)) (Option.map Prod.snd (HandSHeadRun.wholeF (fun p=>HandSHeadRun.stepQ (HandSHeadRun.denQ HandSHeadRun.tabQ) p w) HandSHeadRun.fenceQ 40000 R.prog))=some (fnL.map He.DefD.val):=by kernel_rfl
theorem runC (w:World) (os:Unit):Option.map (fun s=>(fnL.all (fun d=>d.ok (kS s)),fnL.map (fun d=>He.fnW (kS s) d.at_),msL.map (fun d=>fnC (kS s) d.at_),prL.all (fun d=>qhO (kS s) (unw (kS s) (He.fAd (kS s) d.at_)) d),prL.map (fun d=>fnAt (kS s) (unw (kS s) (He.fAd (kS s) d.at_))))) (Option.map Prod.snd (HandSHeadRun.wholeF (fun p=>HandSHeadRun.stepQ (HandSHeadRun.denQ HandSHeadRun.tabQ) p w) HandSHeadRun.fenceQ 40000 R.prog))=some (true,fnL.map He.DefD.val,msL.map FO.val,true,prL.map He.DefD.val):=by
 have e1:=qmY w os;have e2:=qmX w os;generalize (Option.map Prod.snd (HandSHeadRun.wholeF (fun p=>HandSHeadRun.stepQ (HandSHeadRun.denQ HandSHeadRun.tabQ) p w) HandSHeadRun.fenceQ 40000 R.prog))=o at *;cases o with
 | none=>cases e1
 | some s=>
  have e1:=Option.some.inj e1;have e2:=Option.some.inj e2;have a1:=congrArg Prod.fst e1;have a2:=congrArg Prod.snd e1;exact congrArg some (Prod.ext a1 (Prod.ext e2 a2))
theorem run (w:World):HandSHeadRun.RunEqI R (PySem.W.view R.prog [0,74]) hk ob 40000 loose w:=by
 have e1:=qte w ();have e2:=qtd w ();have e3:=runC w ();show Option.map _ (HandSHeadRun.wholeF (fun p=>HandSHeadRun.stepQ (HandSHeadRun.denQ HandSHeadRun.tabQ) p w) HandSHeadRun.fenceQ 40000 R.prog)=_;generalize HandSHeadRun.wholeF (fun p=>HandSHeadRun.stepQ (HandSHeadRun.denQ HandSHeadRun.tabQ) p w) HandSHeadRun.fenceQ 40000 R.prog=o at *;cases o with
 | none=>cases e1
 | some x=>
  obtain⟨h0,s⟩:=x;have q1:=Option.some.inj e1;have q2:ck (kS s)=true:=Option.some.inj e2;have q3:=Option.some.inj e3;simp only[Prod.mk.injEq]at q1 q3;obtain⟨q1,q1b⟩:=q1;obtain⟨q3,q4,q5,q6,q7⟩:=q3;have eo:ob s=hk.val w:=by
   show (((ck (kS s) && fnL.all fun d=>d.ok (kS s)),fnL.map (fun d=>He.fnW (kS s) d.at_),msL.map fun d=>fnC (kS s) d.at_),prL.all (fun d=>qhO (kS s) (unw (kS s) (He.fAd (kS s) d.at_)) d),prL.map fun d=>fnAt (kS s) (unw (kS s) (He.fAd (kS s) d.at_)))=((true,fnL.map He.DefD.val,msL.map FO.val),true,prL.map He.DefD.val);rw[q2,q3,q4,q5,q6,q7];rfl
  show some (_,_,ob s)=_;rw[eo,q1,q1b];rfl
end Law
namespace L2
open PySem PySem.Spec PyProof.Rows
abbrev tOb (its:Array Value):Obj:={ cls:=.type "tuple",data:=.seq its }
def qh2 (H:Hp) (xs:List V) (Q:VK):Prop:=∀(p:Addr) (o:Obj),o.dict=none→H p=none→Q (.ref p) (upd H p (.frz o (.tup xs)))
section
variable {X:Cx} {es:List Expr} {t:TA} {pos:Pos}
def qif (t:TA):TE:=fun σ H Q=>t σ H fun xs H1=>xs.length≤sizeLine∧qh2 H1 xs Q
theorem qgi {x1} (h:PA X es t):PE X (.Tuple es x1 pos) (qif t):=by
 refine⟨fun pins s σ H Q I hq=>?_⟩;refine wpAny_Tuple_spliced (thn (h.run pos pins s σ H _ I hq) fun us s1 ⟨xs,H1,I1,r,z,q⟩=>⟨by rw[← r.length];exact z,?_⟩);have hf:H1 s1.heap.objs.size=none:=I1.hok.fresh (Nat.le_refl _);refine⟨.ref s1.heap.objs.size,_,I1.laid (t':=s1.toks) (fun b u e=>Heap.get?_push_of_some _ e) (Nat.le_refl _) ?_,rfl,q _ (tOb us.toArray) rfl hf⟩;exact⟨Heap.get?_push_size _ rfl,z,us,r,⟨_,Heap.get?_push_size _ rfl,rfl,_,rfl⟩⟩
end
section
variable {X:Cx}
def qm4 (K:PySem.W.Frag):R2:=fun x y H Q=>∃a b xs ys,x=.ref a∧y=.ref b∧SqT K H a xs∧SqT K H b ys∧xs.length+ys.length≤sizeLine∧
 (xs=[]→Q (.ref b) H)∧(xs≠[]→ys=[]→Q (.ref a) H)∧(xs≠[]→ys≠[]→qh2 H (xs++ys) Q)
theorem qgs:OpR X (binaryOp .Add) (qm4 X.K):=by
 intro pins s σ H x y v u Q I rx ry h;obtain⟨a,b,xs,ys,rfl,rfl,ha,hb,hz,q0,q1,q2⟩:=h;by_cases hx:xs=[]
 ·exact op_catA pins s σ H _ _ v u Q I rx ry ⟨a,b,xs,ys,rfl,rfl,ha,hb,hz,q0,q1,fun z=>absurd hx z⟩
 ·cases rx;cases ry;obtain⟨its,r1,p1,_⟩:=I.tuple ha;obtain⟨qtV,r2,p2,_⟩:=I.tuple hb;refine HT.cat_tup p1 p2 (fun z=>hx (r1.nil_iff.mp z)) (fun z=>⟨.ref a,H,I,rfl,q1 hx (r2.nil_iff.mp z)⟩) (fun z=>?_) (by rw[← r1.length,← r2.length];exact hz);refine⟨.ref s.heap.objs.size,_,I.laid (t':=s.toks) (fun b ob q=>Heap.get?_push_of_some _ q) (Nat.le_refl _) ?_,rfl,q2 hx (fun w=>z (r2.nil_iff.mpr w)) _ (tOb (its++qtV).toArray) rfl (I.hok.fresh (Nat.le_refl _))⟩;exact⟨Heap.get?_push_size _ rfl,by rw[List.length_append];exact hz,_,r1.append r2,IsTup.new _ _⟩
def qth (K:PySem.W.Frag):V→Option Int→Option Int→Hp→VK→Prop:=fun x lo hi H Q=>∃a xs,x=.ref a∧SqT K H a xs∧
 (HT.sIx xs.length 0 lo=0∧HT.sIx xs.length xs.length hi=xs.length→Q (.ref a) H)∧(¬(HT.sIx xs.length 0 lo=0∧HT.sIx xs.length xs.length hi=xs.length)→qh2 H (cutV xs lo hi) Q)
theorem qf3:SlR X (qth X.K):=by
 intro pins s σ H x v vl vu lo hi sl Q I rx hs pl pu h;obtain⟨a,xs,rfl,hx,q1,q2⟩:=h;by_cases hw:HT.sIx xs.length 0 lo=0∧HT.sIx xs.length xs.length hi=xs.length
 ·exact sl_tupA pins s σ H _ v vl vu lo hi sl Q I rx hs pl pu ⟨a,xs,rfl,hx,q1,fun z=>absurd hw z⟩
 ·cases rx;obtain⟨its,r,ht,hz⟩:=I.tuple hx;have hlen:its.toArray.size=xs.length:=by rw[List.size_toArray];exact r.length.symm
  refine⟨"tuple",_,PyProof.Rows.slot_tuple_getitem.lookup,ht.typeIs,?_⟩;refine HT.getItem_tuple_cut ht hs pl pu (by rw[hlen];exact hw) ?_ (by rw[hlen];exact hz);rw[hlen];refine⟨.ref s.heap.objs.size,_,I.laid (t':=s.toks) (fun b ob q=>Heap.get?_push_of_some _ q) (Nat.le_refl _) ?_,rfl,q2 hw _ (tOb ((its.toArray.toList.drop (HT.sIx xs.length 0 lo)).take (HT.sIx xs.length xs.length hi-HT.sIx xs.length 0 lo)).toArray) rfl (I.hok.fresh (Nat.le_refl _))⟩;exact⟨Heap.get?_push_size _ rfl,Nat.le_trans (cutV_length xs lo hi) hz,_,(r.drop (HT.sIx xs.length 0 lo)).take (HT.sIx xs.length xs.length hi-HT.sIx xs.length 0 lo),IsTup.new _ _⟩
def qiz (K:PySem.W.Frag):List V→Hp→VK→Prop:=fun xs H Q=>∃p ys,xs=[.ref p]∧((SqL K H p ys∧qh2 H ys Q)∨(SqT K H p ys∧Q (.ref p) H))
theorem Wf:CallR X (.type "tuple") (qiz X.K):=by
 intro pins s σ H xs us Q I r h;obtain⟨p,ys,rfl,h⟩:=h;rcases h with ⟨hq,q⟩ | ⟨hq,q⟩
 ·obtain⟨u,rfl,rx⟩:=vals1 r;cases rx;obtain⟨its,r',pl,hz⟩:=I.list hq;have hlen:=r'.length;refine call_tuple_list pl.isList (fun h' kp=>?_) (by simp only[List.size_toArray]<;>omega);have I1:Inv X pins σ H { s with heap:=h' }:=I.kept (t':=s.toks) kp;refine⟨.ref h'.objs.size,_,I1.laid (t':=s.toks) (fun b o e=>Heap.get?_push_of_some _ e) (Nat.le_refl _) ?_,rfl,q _ (tOb its.toArray) rfl (I1.hok.fresh (Nat.le_refl _))⟩;exact⟨Heap.get?_push_size _ rfl,hz,its,r',IsTup.new _ _⟩
 ·exact call_tuple_of pins s σ H _ us Q I r ⟨p,ys,rfl,.inr ⟨hq,q⟩⟩
end
def qpD (H:Hp) (v:V) (H':Hp) (xs:List V):Prop:=∃(T:Addr) (o:Obj),o.dict=none∧v=.ref T∧H T=none∧H'=upd H T (.frz o (.tup xs))
def qk7 (K:PySem.W.Frag) (a:Addr):It:=
 ⟨fun i H=>∃(xs:List V) (x:V),SqL K H a xs∧xs[i]?=some x,fun i H v H'=>∃x,qpD H v H' [.int (i:Nat),x]∧∀xs,SqL K H a xs→xs[i]?=some x,fun i H=>∃xs:List V,SqL K H a xs∧xs.length≤i⟩
theorem qaB {P:Program} {w:World} {K:PySem.W.Frag} {elts:List Expr} {kk:Nat} {tpos:Pos} (a e it:Addr) :
  Turn P w K (.Tuple elts kk tpos) (qk7 K a) [e,it] e (fun i h=>(∃old,IsEnum h e it ((i:Nat):Int) old)∧h.IsListIter it a i∧e≠it) where
 mem:=by simp
 obj:=fun i h st b hb=>by
  obtain⟨⟨old,he⟩,⟨o,ho,hc,hd⟩,_⟩:=st;have e':b=e∨b=it:=by simpa using hb
  rcases e' with z | z
  ·rw[z];exact⟨_,he,fun v q=>nomatch q⟩
  ·rw[z];exact⟨o,ho,fun v q=>by rw[hd]at q;cases q⟩
 keep:=fun i h h' st k=>let ⟨⟨old,he⟩,hi,hne⟩:=st;⟨⟨old,k e (by simp) _ he⟩,hi.at fun o q=>k it (by simp) o q,hne⟩
 item:=by
  intro X hP hw hK hc i pins s σ H E I hf st hg;subst hP hw hK;obtain⟨⟨old,he⟩,hit,hne⟩:=st;obtain⟨xs,x,hq,hx⟩:=hg;obtain⟨its,rv,p,hz⟩:=I.list hq;obtain⟨u,hu,ru⟩:=rv.get hx;have hel:e<s.heap.objs.size:=Heap.lt_size he;have hil:it<s.heap.objs.size:=by obtain⟨_,q,_⟩:=hit;exact Heap.lt_size q
  refine wpAny_pyNext_enum_item he hit p.isList (x:=u) (by simpa using hu) hne fun h' ho hit' hT hsz hk=>?_;refine⟨_,rfl,wpAny_letOwnedTupleGo_enum (s:={ s with heap:=h',toks:=s.toks+1 }) ho fun h'' he' sb=>?_⟩;have hT2:h''.get? s.heap.objs.size=some { cls:=.type "tuple",data:=.seq #[.int i s.toks,u] }:=(sb.2 _ (Nat.ne_of_gt hel)).trans hT;have new:ObjOk X.prog X.w (upd H s.heap.objs.size (.frz { cls:=.type "tuple",data:=.seq #[.int i s.toks,u] } (.tup [.int (i:Nat),x]))) h'' s.heap.objs.size (.frz { cls:=.type "tuple",data:=.seq #[.int i s.toks,u] } (.tup [.int (i:Nat),x])):=
   ⟨hT2,by show 2≤sizeLine;decide,[.int i s.toks,u],.cons ⟨_,rfl⟩ (.cons ru .nil),⟨_,hT2,rfl,_,rfl⟩⟩
  have I1:=I.turnedNew (t':=s.toks+1) (ch:=[e,it]) (fun b ob hb q=>(sb.2 b (fun z=>hb (by simp[z]))).trans (hk b ob (fun z=>hb (by simp[z])) (fun z=>hb (by simp[z])) q)) hf (Nat.le_refl _) new;refine⟨.ref s.heap.objs.size,_,I1,rfl,⟨x,⟨_,tOb #[.int i s.toks,u],rfl,rfl,I.hok.fresh (Nat.le_refl _),rfl⟩,fun ys hy=>by rw[I.list_inj hy hq];exact hx⟩,⟨⟨u,?_⟩,hit'.at fun o q=>(sb.2 it (Ne.symm hne)).trans q,hne⟩,fun b hb=>?_⟩
  ·have e1:((i+1:Nat):Int)=(i:Int)+1:=by omega
   rw[e1];exact he'
  ·have hb':b<s.heap.objs.size:=by
    have e':b=e∨b=it:=by simpa using hb
    rcases e' with z | z
    ·rw[z];exact hel
    ·rw[z];exact hil
   rw[upd_ne (Nat.ne_of_lt hb')];exact (hf b hb).1
 done:=by
  intro X hP hw hK hc i pins s σ H E I hf st hg;subst hP hw hK;obtain⟨⟨old,he⟩,hit,hne⟩:=st;obtain⟨xs,hq,hx⟩:=hg;obtain⟨its,rv,p,hz⟩:=I.list hq;obtain⟨f0,f1,f2,f3,f4,f5⟩:=hf it (by simp);have hl:=rv.length;exact wpAny_pyNext_enum_end (I.ok.hd hc) he hit p.isList (by simp;omega) fun h' eb=>⟨rfl,I.turned (t':=s.toks) (fun b o hb q=>eb b o hb q) f0 f1 f3 f4 f5⟩
 self:=fun A i s Q E st h=>let ⟨⟨_,he⟩,_⟩:=st;wpAny_pyIter_enum he h
end L2
namespace L2
open PySem PySem.Spec PyProof.Rows
def qt6 (x:List Int×Addr×Value):DictEntry:=⟨reduceHash (Builtin.Tuple.tupleHashOf (x.1.map hashInt)),.ref x.2.1,x.2.2⟩
abbrev KTI:List (List Int×Addr×V)→List (List Int×Addr×Value)→Prop:=Paired fun p q=>p.1=q.1∧p.2.1=q.2.1∧RelV p.2.2 q.2.2
def dcF (a:Addr) (kas:List (List Int×Addr×V)) (o:Obj) (h:Heap):Prop:=kas.length≤sizeLine∧(a == sysModules)=false∧
 ∃xs,KTI kas xs∧∃es ep,h.get? a=some o∧o.ExactDict∧o.data=.dict es ep∧es.toList=xs.map qt6∧(xs.map (·.1)).Nodup
def dcI (a:Addr) (kas:List (List Int×Addr×V)) (o:Obj):HO:=.ext (dcF a kas o)
end L2
set_option maxHeartbeats 2000000
namespace DL
open PySem L2
def mx:Nat:=1000000
def SqN (K:PySem.W.Frag) (H:Hp) (a:Addr) (xs:List V):Prop:=
 (∃o:Obj,H a=some (.frz o (.tup xs))∧o.dict=none)∨
  ∃(o:Obj) (its:Array Value) (n:Nat),K.lookup a=some o∧o.cls=.type "tuple"∧o.dict=none∧o.data=.seq its n∧its.size≤sizeLine∧Vals xs its.toList
theorem SqN.sq {K:PySem.W.Frag} {H:Hp} {a:Addr} {xs:List V} (h:SqN K H a xs):SqT K H a xs:=by
 rcases h with ⟨o,h,_⟩ | ⟨o,its,n,h1,h2,_,h3,h4,h5⟩
 ·exact .inl (.inr ⟨o,h⟩)
 ·exact .inr ⟨o,its,n,h1,h2,h3,h4,h5⟩
def qdz (K:PySem.W.Frag) (G:Hp) (kas:List (List Int×Addr×V)):Prop:=∀p∈kas,SqN K G p.2.1 (p.1.map V.int)
mutual
inductive Dq (K:PySem.W.Frag) (G:Hp):V→D→Prop
 | non:Dq K G .non .non
 | bl (b:Bool):Dq K G (.bl b) (.bl b)
 | int (i:Int):Dq K G (.int i) (.int i)
 | str (x:Str):Dq K G (.str x) (.str x)
 | lst {a:Addr} {xs:List V} {ds:List D}:G a=some (.lst xs)→DqA K G xs ds→Dq K G (.ref a) (.lst ds)
 | ro {a:Addr} {xs:List V} {ds:List D}:SqL K G a xs→DqA K G xs ds→Dq K G (.ref a) (.ro ds)
 | tup {a:Addr} {xs:List V} {ds:List D}:SqN K G a xs→DqA K G xs ds→Dq K G (.ref a) (.tup ds)
 | dct {a:Addr} {kvs:List (Key×V)} {ds:List (Key×D)}:G a=some (.dK kvs)→DqK K G kvs ds→Dq K G (.ref a) (.dct ds)
 | ins {a dx:Addr} {C:Str} {fs:List (Str×V)} {ds:List (Str×D)}:G a=some (.ins (cA K C) dx fs)→G dx=some (.own a)→DqF K G fs ds→Dq K G (.ref a) (.ins C ds)
 | dcT {a:Addr} {kas:List (List Int×Addr×V)} {ds:List (List Int×D)} {o:Obj}:G a=some (dcI a kas o)→qdz K G kas→DqT K G kas ds→Dq K G (.ref a) (.dcT ds)
inductive DqA (K:PySem.W.Frag) (G:Hp):List V→List D→Prop
 | nil:DqA K G [] []
 | cons {v:V} {vs:List V} {d:D} {ds:List D}:Dq K G v d→DqA K G vs ds→DqA K G (v::vs) (d::ds)
inductive DqK (K:PySem.W.Frag) (G:Hp):List (Key×V)→List (Key×D)→Prop
 | nil:DqK K G [] []
 | cons {k:Key} {v:V} {vs:List (Key×V)} {d:D} {ds:List (Key×D)}:Dq K G v d→DqK K G vs ds→DqK K G ((k,v)::vs) ((k,d)::ds)
inductive DqF (K:PySem.W.Frag) (G:Hp):List (Str×V)→List (Str×D)→Prop
 | nil:DqF K G [] []
 | cons {k:Str} {v:V} {vs:List (Str×V)} {d:D} {ds:List (Str×D)}:Dq K G v d→DqF K G vs ds→DqF K G ((k,v)::vs) ((k,d)::ds)
inductive DqT (K:PySem.W.Frag) (G:Hp):List (List Int×Addr×V)→List (List Int×D)→Prop
 | nil:DqT K G [] []
 | cons {k:List Int} {b:Addr} {v:V} {vs:List (List Int×Addr×V)} {d:D} {ds:List (List Int×D)}:Dq K G v d→DqT K G vs ds→DqT K G ((k,b,v)::vs) ((k,d)::ds)
end
theorem Same.seqN {K:PySem.W.Frag} {H H':Hp} {a:Addr} {xs:List V} (e:Same H H') (h:SqN K H a xs):SqN K H' a xs:=by
 rcases h with ⟨o,h,z⟩ | h
 ·exact .inl ⟨o,e _ _ h,z⟩
 ·exact .inr h
theorem qdz.mono {K:PySem.W.Frag} {G G':Hp} {kas:List (List Int×Addr×V)} (s:Same G G') (h:qdz K G kas):qdz K G' kas:=fun p hp=>Same.seqN s (h p hp)
section
variable {K:PySem.W.Frag} {G G':Hp} (s:Same G G')
include s
mutual
theorem Dq.mono {v:V} {d:D}:Dq K G v d→Dq K G' v d
 | .non=>.non
 | .bl b=>.bl b
 | .int i=>.int i
 | .str x=>.str x
 | .lst h a=>.lst (s _ _ h) (DqA.mono a)
 | .ro h a=>.ro (s.seq h) (DqA.mono a)
 | .tup h a=>.tup (Same.seqN s h) (DqA.mono a)
 | .dct h a=>.dct (s _ _ h) (DqK.mono a)
 | .ins h h2 a=>.ins (s _ _ h) (s _ _ h2) (DqF.mono a)
 | .dcT h h2 a=>.dcT (s _ _ h) (qdz.mono s h2) (DqT.mono a)
theorem DqA.mono {v:List V} {d:List D}:DqA K G v d→DqA K G' v d
 | .nil=>.nil
 | .cons h t=>.cons (Dq.mono h) (DqA.mono t)
theorem DqK.mono {v:List (Key×V)} {d:List (Key×D)}:DqK K G v d→DqK K G' v d
 | .nil=>.nil
 | .cons h t=>.cons (Dq.mono h) (DqK.mono t)
theorem DqF.mono {v:List (Str×V)} {d:List (Str×D)}:DqF K G v d→DqF K G' v d
 | .nil=>.nil
 | .cons h t=>.cons (Dq.mono h) (DqF.mono t)
theorem DqT.mono {v:List (List Int×Addr×V)} {d:List (List Int×D)}:DqT K G v d→DqT K G' v d
 | .nil=>.nil
 | .cons h t=>.cons (Dq.mono h) (DqT.mono t)
end
end
section
variable {K:PySem.W.Frag} {G:Hp}
theorem DqA.length:∀{vs:List V} {ds:List D},DqA K G vs ds→vs.length=ds.length
 | _,_,.nil=>rfl
 | _,_,.cons _ t=>by simp[DqA.length t]
theorem DqA.get:∀{vs:List V} {ds:List D} {i:Nat} {d:D},DqA K G vs ds→ds[i]?=some d→∃v,vs[i]?=some v∧Dq K G v d
 | _,_,_,_,.nil,e=>by simp at e
 | _,_,0,_,.cons r _,e=>by simp at e;subst e;exact⟨_,rfl,r⟩
 | _,_,i+1,d,.cons _ t,e=>by
  obtain⟨u,h1,h2⟩:=DqA.get (i:=i) (d:=d) t (by simpa using e);exact⟨u,by simpa using h1,h2⟩
theorem DqA.append:∀{vs us:List V} {ds es:List D},DqA K G vs ds→DqA K G us es→DqA K G (vs++us) (ds++es)
 | _,_,_,_,.nil,b=>b
 | _,_,_,_,.cons h t,b=>.cons h (DqA.append t b)
theorem DqA.one {v:V} {d:D} (h:Dq K G v d):DqA K G [v] [d]:=.cons h .nil
theorem DqA.take:∀{vs:List V} {ds:List D} (n:Nat),DqA K G vs ds→DqA K G (vs.take n) (ds.take n)
 | _,_,0,_=>by simpa using DqA.nil
 | _,_,_+1,.nil=>.nil
 | _,_,n+1,.cons h t=>.cons h (DqA.take n t)
theorem DqA.drop:∀{vs:List V} {ds:List D} (n:Nat),DqA K G vs ds→DqA K G (vs.drop n) (ds.drop n)
 | _,_,0,h=>by simpa using h
 | _,_,_+1,.nil=>.nil
 | _,_,n+1,.cons _ t=>by simpa using DqA.drop n t
theorem DqA.reverse:∀{vs:List V} {ds:List D},DqA K G vs ds→DqA K G vs.reverse ds.reverse
 | _,_,.nil=>.nil
 | _,_,.cons h t=>by simpa using (DqA.reverse t).append (.one h)
theorem DqA.dropLast {vs:List V} {ds:List D} (h:DqA K G vs ds):DqA K G vs.dropLast ds.dropLast:=by
 rw[List.dropLast_eq_take,List.dropLast_eq_take,h.length];exact h.take _
theorem DqA.set:∀{vs:List V} {ds:List D} {v:V} {d:D} (i:Nat),DqA K G vs ds→Dq K G v d→DqA K G (vs.set i v) (ds.set i d)
 | _,_,_,_,_,.nil,_=>.nil
 | _,_,_,_,0,.cons _ t,h=>.cons h t
 | _,_,_,_,i+1,.cons r t,h=>.cons r (DqA.set i t h)
theorem DqA.eraseIdx:∀{vs:List V} {ds:List D} (i:Nat),DqA K G vs ds→DqA K G (vs.eraseIdx i) (ds.eraseIdx i)
 | _,_,_,.nil=>by simpa using DqA.nil
 | _,_,0,.cons _ t=>t
 | _,_,i+1,.cons r t=>.cons r (DqA.eraseIdx i t)
theorem DqA.ints:∀{vs:List V} {ns:List Int},DqA K G vs (ns.map D.int)→vs=ns.map V.int
 | _,[],h=>by cases h;rfl
 | _,n::r,h=>by
  cases h with
  | cons h t=>
   cases h;rw[DqA.ints t];rfl
theorem DqA.of_ints (ns:List Int):DqA K G (ns.map V.int) (ns.map D.int):=by
 induction ns with
 | nil=>exact .nil
 | cons n r ih=>exact .cons (.int n) ih
end
def Vw (K:PySem.W.Frag) (G H:Hp) (v:V):D→Prop
 | .lst ds=>∃a xs,v=.ref a∧H a=some (.lst xs)∧DqA K G xs ds
 | .dct ds=>∃a kvs,v=.ref a∧H a=some (.dK kvs)∧DqK K G kvs ds
 | .ins C ds=>∃a dx fs,v=.ref a∧H a=some (.ins (cA K C) dx fs)∧G dx=some (.own a)∧DqF K G fs ds
 | .dcT ds=>∃a kas o,v=.ref a∧H a=some (dcI a kas o)∧qdz K G kas∧DqT K G kas ds
 | d=>Dq K G v d
theorem Dq.vw {K:PySem.W.Frag} {G H:Hp} {v:V} {d:D} (s:Same G H) (h:Dq K G v d):Vw K G H v d:=by
 cases h with
 | lst h a=>exact⟨_,_,rfl,s _ _ h,a⟩
 | dct h a=>exact⟨_,_,rfl,s _ _ h,a⟩
 | non=>exact .non
 | bl b=>exact .bl b
 | int i=>exact .int i
 | str x=>exact .str x
 | ro h a=>exact .ro h a
 | tup h a=>exact .tup h a
 | ins h h2 a=>exact⟨_,_,_,rfl,s _ _ h,h2,a⟩
 | dcT h h2 a=>exact⟨_,_,_,rfl,s _ _ h,h2,a⟩
def ExOk (K:PySem.W.Frag) (G:Hp) (c:Value) (d:Option Addr) (e:Exn):Prop:=
 c=.ref (cA K e.cls)∧match e.fs with
  | none=>True
  | some fs=>∃dd vs,d=some dd∧G dd=some (.xd vs)∧DqF K G vs fs
theorem ExOk.mono {K:PySem.W.Frag} {G G':Hp} {c:Value} {d:Option Addr} {e:Exn} (s:Same G G') (h:ExOk K G c d e):ExOk K G' c d e:=by
 refine⟨h.1,?_⟩;have h2:=h.2;split at h2
 ·trivial
 ·obtain⟨dd,vs,h3,h4,h5⟩:=h2;exact⟨dd,vs,h3,s _ _ h4,h5.mono s⟩
def L.ism:L→Bool
 | .m _=>true
 | .p _=>true
 | _=>false
def MOk (K:Kx) (G H:Hp) (v:V):D→Prop
 | .lst ds=>∃a xs,v=.ref a∧G a=none∧H a=some (.lst xs)∧DqA K G xs ds
 | .dct ds=>∃a kvs,v=.ref a∧G a=none∧H a=some (.dK kvs)∧DqK K G kvs ds
 | .ins C ds=>∃a dx fs,v=.ref a∧G a=none∧H a=some (.ins (cA K C) dx fs)∧G dx=some (.own a)∧DqF K G fs ds
 | .dcT ds=>∃a kas o,v=.ref a∧G a=none∧H a=some (dcI a kas o)∧qdz K G kas∧DqT K G kas ds
 | _=>False
def LOk (K:Kx) (G H:Hp) (v:V):L→Prop
 | .d x=>Dq K G v x
 | .m x=>MOk K G H v x
 | .r x=>MOk K G H v x
 | .p x=>MOk K G H v x∧∀y,K.xa=some y→v=.ref y.a
 | .xh=>∀y,K.xa=some y→v=.ref y.a
 | .u _ _=>False
theorem MOk.ref {K:Kx} {G H:Hp} {v:V} {x:D} (h:MOk K G H v x):∃a,v=.ref a∧G a=none∧H a≠none:=by
 cases x<;>first | exact h.elim | skip
 ·obtain⟨a,xs,rfl,h1,h2,_⟩:=h;exact⟨a,rfl,h1,by rw[h2];exact fun z=>nomatch z⟩
 ·obtain⟨a,xs,rfl,h1,h2,_⟩:=h;exact⟨a,rfl,h1,by rw[h2];exact fun z=>nomatch z⟩
 ·obtain⟨a,dx,xs,rfl,h1,h2,_⟩:=h;exact⟨a,rfl,h1,by rw[h2];exact fun z=>nomatch z⟩
 ·obtain⟨a,xs,ob,rfl,h1,h2,_⟩:=h;exact⟨a,rfl,h1,by rw[h2];exact fun z=>nomatch z⟩
theorem MOk.vw {K:Kx} {G H:Hp} {v:V} {x:D} (h:MOk K G H v x):Vw K G H v x:=by
 cases x<;>first | exact h.elim | skip
 ·obtain⟨a,xs,rfl,h1,h2,h3⟩:=h;exact⟨a,xs,rfl,h2,h3⟩
 ·obtain⟨a,xs,rfl,h1,h2,h3⟩:=h;exact⟨a,xs,rfl,h2,h3⟩
 ·obtain⟨a,dx,xs,rfl,h1,h2,h3,h4⟩:=h;exact⟨a,dx,xs,rfl,h2,h3,h4⟩
 ·obtain⟨a,xs,ob,rfl,h1,h2,h3,h4⟩:=h;exact⟨a,xs,ob,rfl,h2,h3,h4⟩
theorem LOk.vw {K:Kx} {G H:Hp} {v:V} {l:L} {x:D} (s:Same G H) (h:LOk K G H v l) (e:l.dat=some x):Vw K G H v x:=by
 cases l with
 | d y=>
  cases Option.some.inj e;exact Dq.vw s h
 | m y=>
  cases Option.some.inj e;exact MOk.vw h
 | r y=>
  cases Option.some.inj e;exact MOk.vw h
 | p y=>
  cases Option.some.inj e;exact MOk.vw h.1
 | xh=>cases e
 | u _ _=>cases e
theorem MOk.mono {K:Kx} {G H G' H':Hp} {v:V} {x:D} (s:Same G G') (h:MOk K G H v x) (k:∀a,v=.ref a→G' a=none∧∀o,H a=some o→H' a=some o):MOk K G' H' v x:=by
 cases x<;>first | exact h.elim | skip
 ·obtain⟨a,xs,rfl,h1,h2,h3⟩:=h;exact⟨a,xs,rfl,(k a rfl).1,(k a rfl).2 _ h2,h3.mono s⟩
 ·obtain⟨a,xs,rfl,h1,h2,h3⟩:=h;exact⟨a,xs,rfl,(k a rfl).1,(k a rfl).2 _ h2,h3.mono s⟩
 ·obtain⟨a,dx,xs,rfl,h1,h2,h3,h4⟩:=h;exact⟨a,dx,xs,rfl,(k a rfl).1,(k a rfl).2 _ h2,s _ _ h3,h4.mono s⟩
 ·obtain⟨a,xs,ob,rfl,h1,h2,h3,h4⟩:=h;exact⟨a,xs,ob,rfl,(k a rfl).1,(k a rfl).2 _ h2,h3.mono s,h4.mono s⟩
structure Rel (K:Kx) (σ:St) (G H:Hp) (ρ:Env):Prop where
 same:Same G H
 len:σ.length=ρ.length
 at_:∀(i:Nat) (l:L),ρ[i]?=some (some l)→∃v,σ[i]?=some (some v)∧LOk K G H v l
 exo:∀y,K.xa=some y→ExOk K G y.c y.d y.e
 sep:∀(i j:Nat) (l l':L) (a:Addr),i≠j→ρ[i]?=some (some l)→ρ[j]?=some (some l')→l.own=true→l'.own=true→σ[i]?=some (some (.ref a))→σ[j]?≠some (some (.ref a))
def Own (σ:St) (ρ:Env) (a:Addr):Prop:=∃(i:Nat) (l:L),ρ[i]?=some (some l)∧l.own=true∧σ[i]?=some (some (.ref a))
def Ss (σ:St) (ρ:Env) (a:Addr):Prop:=∃(i:Nat) (l:L),ρ[i]?=some (some l)∧l.ism=true∧σ[i]?=some (some (.ref a))
theorem Ss.own {σ:St} {ρ:Env} {a:Addr} (h:Ss σ ρ a):Own σ ρ a:=by
 obtain⟨i,l,h1,h2,h3⟩:=h;refine⟨i,l,h1,?_,h3⟩;cases l<;>first | rfl | cases h2
structure Stp (σ:St) (ρ:Env) (G H:Hp) (σ':St) (ρ':Env) (G' H':Hp):Prop where
 g:Same G G'
 gf:∀a o,G' a=some o→G a=some o∨H a=none∨Ss σ ρ a
 fr:∀a o,H a=some o→¬Own σ ρ a→H' a=some o
 hn:∀a,H a≠none→H' a≠none
 ow:∀a,Own σ' ρ' a→Own σ ρ a∨H a=none
 om:∀a,Ss σ' ρ' a→Ss σ ρ a∨H a=none
 pin:∀(i:Nat) (x:D),ρ[i]?=some (some (.r x))→σ'[i]?=σ[i]?∧∃y,ρ'[i]?=some (some (.r y))
theorem Stp.refl (σ:St) (ρ:Env) (G H:Hp):Stp σ ρ G H σ ρ G H:=
 ⟨Same.refl _,fun _ _ h=>.inl h,fun _ _ h _=>h,fun _ h=>h,fun _ h=>.inl h,fun _ h=>.inl h,fun _ x h=>⟨rfl,x,h⟩⟩
theorem Stp.trans {σ σ1 σ2:St} {ρ ρ1 ρ2:Env} {G H G1 H1 G2 H2:Hp} (a:Stp σ ρ G H σ1 ρ1 G1 H1) (b:Stp σ1 ρ1 G1 H1 σ2 ρ2 G2 H2):Stp σ ρ G H σ2 ρ2 G2 H2 where
 g:=a.g.trans b.g
 gf:=fun x o h=>by
  have back:H1 x=none→H x=none:=fun z=>by
   cases e:H x with
   | none=>rfl
   | some u=>exact absurd z (a.hn x (by rw[e];exact fun q=>nomatch q))
  rcases b.gf x o h with h | h | h
  ·exact a.gf x o h
  ·exact .inr (.inl (back h))
  ·rcases a.om x h with h | h
   ·exact .inr (.inr h)
   ·exact .inr (.inl h)
 fr:=fun x o h n=>by
  have h1:=a.fr x o h n;refine b.fr x o h1 fun q=>?_;rcases a.ow x q with q | q
  ·exact n q
  ·rw[h]at q;cases q
 hn:=fun x h=>b.hn x (a.hn x h)
 ow:=fun x h=>by
  rcases b.ow x h with h | h
  ·exact a.ow x h
  ·refine .inr ?_;cases e:H x with
   | none=>rfl
   | some u=>exact absurd h (a.hn x (by rw[e];exact fun q=>nomatch q))
 om:=fun x h=>by
  rcases b.om x h with h | h
  ·exact a.om x h
  ·refine .inr ?_;cases e:H x with
   | none=>rfl
   | some u=>exact absurd h (a.hn x (by rw[e];exact fun q=>nomatch q))
 pin:=fun i x h=>by
  obtain⟨e1,y,h1⟩:=a.pin i x h;obtain⟨e2,z,h2⟩:=b.pin i y h1;exact⟨e2.trans e1,z,h2⟩
structure Gro (G H G' H':Hp):Prop where
 g:Same G G'
 s:Same G' H'
 h:Same H H'
 gf:∀a o,G' a=some o→G a=some o∨H a=none
theorem Gro.refl {G H:Hp} (s:Same G H):Gro G H G H:=⟨Same.refl _,s,Same.refl _,fun _ _ h=>.inl h⟩
theorem Gro.trans {G H G1 H1 G2 H2:Hp} (a:Gro G H G1 H1) (b:Gro G1 H1 G2 H2):Gro G H G2 H2:=by
 refine⟨a.g.trans b.g,b.s,a.h.trans b.h,fun x o h=>?_⟩;rcases b.gf x o h with h | h
 ·exact a.gf x o h
 ·exact .inr (a.h.free h)
theorem Gro.stp {σ:St} {ρ:Env} {G H G' H':Hp} (e:Gro G H G' H'):Stp σ ρ G H σ ρ G' H' where
 g:=e.g
 gf:=fun a o h=>(e.gf a o h).elim .inl fun z=>.inr (.inl z)
 fr:=fun a o h _=>e.h a o h
 hn:=fun a h z=>by
  cases q:H a with
  | none=>exact h q
  | some o=>
   rw[e.h a o q]at z;cases z
 ow:=fun _ h=>.inl h
 om:=fun _ h=>.inl h
 pin:=fun _ x h=>⟨rfl,x,h⟩
theorem LOk.gro {K:Kx} {G H G' H':Hp} {v:V} {l:L} (e:Gro G H G' H') (h:LOk K G H v l):LOk K G' H' v l:=by
 have own:∀x,MOk K G H v x→MOk K G' H' v x:=fun x h=>by
  refine h.mono e.g fun a ea=>?_;obtain⟨b,eb,h1,h2⟩:=h.ref;rw[ea]at eb;cases eb;refine⟨?_,fun o ho=>e.h a o ho⟩;cases q:G' a with
  | none=>rfl
  | some o=>
   rcases e.gf a o q with z | z
   ·rw[h1]at z;cases z
   ·exact absurd z h2
 cases l with
 | d x=>exact Dq.mono e.g h
 | m x=>exact own x h
 | r x=>exact own x h
 | p x=>exact⟨own x h.1,h.2⟩
 | xh=>exact h
 | u _ _=>exact h
theorem Rel.gro {K:Kx} {σ:St} {ρ:Env} {G H G' H':Hp} (R:Rel K σ G H ρ) (e:Gro G H G' H'):Rel K σ G' H' ρ:=
 ⟨e.s,R.len,fun i l h=>let ⟨v,h1,h2⟩:=R.at_ i l h;⟨v,h1,h2.gro e⟩,fun y h=>(R.exo y h).mono e.g,R.sep⟩
theorem Gro.new {G H:Hp} {p:Addr} {o:HO} (s:Same G H) (h:H p=none):Gro G H (upd G p o) (upd H p o):=by
 have hg:G p=none:=s.free h;refine⟨fun b x e=>?_,fun b x e=>?_,fun b x e=>?_,fun b x e=>?_⟩
 ·rw[upd_ne (ne_of_none e hg)];exact e
 ·by_cases q:b=p
  ·subst q;rw[upd_same]at e ⊢;exact e
  ·rw[upd_ne q]at e ⊢;exact s b x e
 ·rw[upd_ne (ne_of_none e h)];exact e
 ·by_cases q:b=p
  ·subst q;exact .inr h
  ·rw[upd_ne q]at e;exact .inl e
theorem Gro.newH {G H:Hp} {p:Addr} {o:HO} (s:Same G H) (h:H p=none):Gro G H G (upd H p o):=
 ⟨Same.refl _,fun b x e=>by rw[upd_ne (ne_of_none e (s.free h))];exact s b x e,fun b x e=>by rw[upd_ne (ne_of_none e h)];exact e,fun _ _ e=>.inl e⟩
end DL
set_option maxHeartbeats 2000000
namespace DL
open PySem L2
abbrev TM:=Env→Res Bool
abbrev AM:=Env→Res (List X)
abbrev FM:=Env→Res D
inductive Fl where
 | nx | bk | ct | rt (l:L)
abbrev SM:=Env→Res Fl
def bindR {α β:Type} (r:Res α) (k:α→Env→Res β):Res β:=match r with
 | .ok a ρ=>k a ρ
 | .ex e ρ=>.ex e ρ
 | .bad=>.bad
def fzs (ρ:Env):List X→Option (List D×Env)
 | []=>some ([],ρ)
 | x::xs=>match fz ρ x with
  | some (d,ρ1)=>match fzs ρ1 xs with
   | some (ds,ρ2)=>some (d::ds,ρ2)
   | none=>none
  | none=>none
def XOk (K:Kx) (σ:St) (G:Hp) (v:V):X→Prop
 | .d x=>Dq K G v x
 | .s i=>σ[i]?=some (some v)
theorem XOk.mono {K:Kx} {σ:St} {G G':Hp} {v:V} {x:X} (s:Same G G') (h:XOk K σ G v x):XOk K σ G' v x:=by
 cases x with
 | d x=>exact Dq.mono s h
 | s i=>exact h
section
variable {K:Kx} {σ:St} {G H:Hp} {ρ:Env}
theorem J5 {v:V} {x:X} {a:D} (R:Rel K σ G H ρ) (h:XOk K σ G v x) (e:look ρ x=some a):Vw K G H v a:=by
 cases x with
 | d x=>
  have e:x=a:=Option.some.inj e;subst e;exact Dq.vw R.same h
 | s i=>
  unfold look at e;simp only at e;split at e
  ·rename_i l hl;obtain⟨u,h1,h2⟩:=R.at_ i l hl;have hv:σ[i]?=some (some v):=h;rw[hv]at h1;have h1:v=u:=Option.some.inj (Option.some.inj h1);subst h1;exact LOk.vw R.same h2 e
  ·cases e
theorem Rel.lt {i:Nat} {l:Option L} (R:Rel K σ G H ρ) (h:ρ[i]?=some l):i < σ.length:=by
 rw[R.len];exact (List.getElem?_eq_some_iff.mp h).1
theorem Xp {α:Type} {xs:List α} {i j:Nat} {a b:α} (h:(xs.set i a)[j]?=some b):(i=j∧a=b)∨(i≠j∧xs[j]?=some b):=by
 by_cases e:i=j
 ·subst e;by_cases hl:i<xs.length
  ·rw[List.getElem?_set_self hl]at h;exact .inl ⟨rfl,Option.some.inj h⟩
  ·rw[List.getElem?_eq_none (by simpa using hl)]at h;cases h
 ·rw[List.getElem?_set_ne e]at h;exact .inr ⟨e,h⟩
theorem qg2 {i:Nat} {x:D} {v:V} (R:Rel K σ G H ρ) (h:ρ[i]?=some (some (.m x))) (hv:σ[i]?=some (some v)) :
  ∃G',Stp σ ρ G H σ (ρ.set i (some (.d x))) G' H∧Rel K σ G' H (ρ.set i (some (.d x)))∧Dq K G' v x:=by
 obtain⟨u,h1,h2⟩:=R.at_ i _ h;rw[hv]at h1;have h1:v=u:=Option.some.inj (Option.some.inj h1);subst h1;have h2:MOk K G H v x:=h2;obtain⟨a,rfl,ga,ha⟩:=h2.ref;obtain⟨o,ho⟩:∃o,H a=some o:=by
  cases q:H a with
  | none=>exact absurd q ha
  | some o=>exact⟨o,rfl⟩
 have hown:Ss σ ρ a:=⟨i,_,h,rfl,hv⟩;have sG:Same G (upd G a o):=fun b u e=>by rw[upd_ne (ne_of_none e ga)];exact e
 have sGH:Same (upd G a o) H:=fun b u e=>by
  by_cases q:b=a
  ·subst q;rw[upd_same]at e;rw[ho,e]
  ·rw[upd_ne q]at e;exact R.same b u e
 have ow:∀b,Own σ (ρ.set i (some (.d x))) b→Own σ ρ b:=fun b ⟨j,l,e1,e2,e3⟩=>by
  rcases Xp e1 with ⟨rfl,e⟩ | ⟨_,e⟩
  ·have e:L.d x=l:=Option.some.inj e;subst e;cases e2
  ·exact⟨j,l,e,e2,e3⟩
 have om:∀b,Ss σ (ρ.set i (some (.d x))) b→Ss σ ρ b:=fun b ⟨j,l,e1,e2,e3⟩=>by
  rcases Xp e1 with ⟨rfl,e⟩ | ⟨_,e⟩
  ·have e:L.d x=l:=Option.some.inj e;subst e;cases e2
  ·exact⟨j,l,e,e2,e3⟩
 have dq:Dq K (upd G a o) (.ref a) x:=by
  cases x<;>first | exact h2.elim | skip
  ·obtain⟨b,xs,e,_,hb,hx⟩:=h2;cases e;rw[ho]at hb;cases hb;exact .lst upd_same (hx.mono sG)
  ·obtain⟨b,xs,e,_,hb,hx⟩:=h2;cases e;rw[ho]at hb;cases hb;exact .dct upd_same (hx.mono sG)
  ·obtain⟨b,dx,xs,e,_,hb,hd,hx⟩:=h2;cases e;rw[ho]at hb;cases hb;exact .ins upd_same (sG _ _ hd) (hx.mono sG)
  ·obtain⟨b,xs,ob,e,_,hb,hk,hx⟩:=h2;cases e;rw[ho]at hb;cases hb;exact .dcT upd_same (hk.mono sG) (hx.mono sG)
 refine⟨upd G a o,⟨sG,fun b u e=>?_,fun b u e _=>e,fun b e=>e,fun b e=>.inl (ow b e),fun b e=>.inl (om b e),fun j y e=>⟨rfl,?_⟩⟩,⟨sGH,?_,fun j l e=>?_,fun y h=>(R.exo y h).mono sG,fun j k l l' b hjk e1 e2 o1 o2=>?_⟩,dq⟩
 ·by_cases q:b=a
  ·subst q;exact .inr (.inr hown)
  ·rw[upd_ne q]at e;exact .inl e
 ·refine⟨y,?_⟩;have hji:i≠j:=fun q=>by
   subst q;rw[h]at e;cases e
  rw[List.getElem?_set_ne hji];exact e
 ·rw[List.length_set];exact R.len
 ·rcases Xp e with ⟨hij,e'⟩ | ⟨hne,e⟩
  ·subst hij;have e':L.d x=l:=Option.some.inj e';subst e';exact⟨_,hv,dq⟩
  ·obtain⟨u,e1,e2⟩:=R.at_ j l e;refine⟨u,e1,?_⟩;have own:∀y,l.own=true→MOk K G H u y→MOk K (upd G a o) H u y:=fun y hlo hm=>by
    refine hm.mono sG fun b eb=>⟨?_,fun o e=>e⟩;subst eb;have nb:b≠a:=fun q=>by
     subst q;exact R.sep i j _ _ b hne h e rfl hlo hv e1
    rw[upd_ne nb];obtain⟨c,ec,hc,_⟩:=hm.ref;cases ec;exact hc
   cases l with
   | d y=>exact Dq.mono sG e2
   | m y=>exact own y rfl e2
   | r y=>exact own y rfl e2
   | p y=>exact⟨own y rfl e2.1,e2.2⟩
   | xh=>exact e2
   | u _ _=>exact e2
 ·rcases Xp e1 with ⟨rfl,e⟩ | ⟨_,e1⟩
  ·have e:L.d x=l:=Option.some.inj e;subst e;cases o1
  ·rcases Xp e2 with ⟨rfl,e⟩ | ⟨_,e2⟩
   ·have e:L.d x=l':=Option.some.inj e;subst e;cases o2
   ·exact R.sep j k l l' b hjk e1 e2 o1 o2
theorem Nn {v:V} {x:X} {d:D} {ρ':Env} (R:Rel K σ G H ρ) (h:XOk K σ G v x) (e:fz ρ x=some (d,ρ')):∃G',Stp σ ρ G H σ ρ' G' H∧Rel K σ G' H ρ'∧Dq K G' v d:=by
 cases x with
 | d x=>
  have e:(x,ρ)=(d,ρ'):=Option.some.inj e;cases e;exact⟨G,Stp.refl _ _ _ _,R,h⟩
 | s i=>
  unfold fz at e;simp only at e;split at e
  ·rename_i y hy;cases Option.some.inj e;exact qg2 R hy h
  ·rename_i y hy;cases Option.some.inj e;obtain⟨u,h1,h2⟩:=R.at_ i _ hy;have h:σ[i]?=some (some v):=h;rw[h]at h1;have h1:v=u:=Option.some.inj (Option.some.inj h1);subst h1;exact⟨G,Stp.refl _ _ _ _,R,h2⟩
  ·cases e
def Nr (K:Kx) (σ:St) (G:Hp):List V→List X→Prop:=Paired (XOk K σ G)
theorem Nr.mono {G':Hp} (s:Same G G'):∀{vs:List V} {xs:List X},Nr K σ G vs xs→Nr K σ G' vs xs
 | _,_,.nil=>.nil
 | _,_,.cons h t=>.cons (XOk.mono s h) (Nr.mono s t)
theorem qcH:∀{xs:List X} {vs:List V} {G:Hp} {ρ:Env} {ds:List D} {ρ':Env},Rel K σ G H ρ→Nr K σ G vs xs→fzs ρ xs=some (ds,ρ')→∃G',Stp σ ρ G H σ ρ' G' H∧Rel K σ G' H ρ'∧DqA K G' vs ds
 | [],_,G,ρ,_,_,R,h,e=>by
  cases h;cases Option.some.inj e;exact⟨G,Stp.refl _ _ _ _,R,.nil⟩
 | x::xs,_,G,ρ,ds,ρ',R,h,e=>by
  cases h with
  | cons hx ht=>
   unfold fzs at e;split at e
   ·rename_i d ρ1 e1;split at e
    ·rename_i es ρ2 e2;cases Option.some.inj e;obtain⟨G1,S1,R1,q1⟩:=Nn R hx e1;obtain⟨G2,S2,R2,q2⟩:=qcH R1 (Nr.mono S1.g ht) e2;exact⟨G2,S1.trans S2,R2,.cons (q1.mono S2.g) q2⟩
    ·cases e
   ·cases e
end
section
variable (K:Kx) (W:WX) (σ:St) (G H:Hp) (ρ:Env)
def Kl (e:Exn) (ρ':Env):Prop:=∀c d G' H',Stp σ ρ G H σ ρ' G' H'→Rel K σ G' H' ρ'→ExOk K G' c d e→W c d σ H'
def EPost (Q:VK):Res X→Prop
 | .ok x ρ'=>∀v G' H',Stp σ ρ G H σ ρ' G' H'→Rel K σ G' H' ρ'→XOk K σ G' v x→Q v H'
 | .ex e ρ'=>Kl K W σ G H ρ e ρ'
 | .bad=>False
def Ld (Q:Bool→Hp→Prop):Res Bool→Prop
 | .ok b ρ'=>∀G' H',Stp σ ρ G H σ ρ' G' H'→Rel K σ G' H' ρ'→Q b H'
 | .ex e ρ'=>Kl K W σ G H ρ e ρ'
 | .bad=>False
def D5 (Q:List V→Hp→Prop):Res (List X)→Prop
 | .ok xs ρ'=>∀vs G' H',Stp σ ρ G H σ ρ' G' H'→Rel K σ G' H' ρ'→Nr K σ G' vs xs→Q vs H'
 | .ex e ρ'=>Kl K W σ G H ρ e ρ'
 | .bad=>False
def Frs (ρ':Env) (G' H':Hp) (v:V) (x:D):Prop:=MOk K G' H' v x∧∀a,v=.ref a→H a=none∧¬Own σ ρ' a
def Mb (Q:VK):Res D→Prop
 | .ok x ρ'=>∀v G' H',Stp σ ρ G H σ ρ' G' H'→Rel K σ G' H' ρ'→Frs K σ H ρ' G' H' v x→Q v H'
 | .ex e ρ'=>Kl K W σ G H ρ e ρ'
 | .bad=>False
end
def Yh (K:Kx) (W:WX) (t:TE) (m:EM):Prop:=∀σ G H ρ,Rel K σ G H ρ→∀Q,EPost K W σ G H ρ Q (m ρ)→t σ H Q
def Ie (K:Kx) (W:WX) (t:TT) (m:TM):Prop:=∀σ G H ρ,Rel K σ G H ρ→∀Q,Ld K W σ G H ρ Q (m ρ)→t σ H Q
def R8 (K:Kx) (W:WX) (t:TA) (m:AM):Prop:=∀σ G H ρ,Rel K σ G H ρ→∀Q,D5 K W σ G H ρ Q (m ρ)→t σ H Q
def yn (K:Kx) (W:WX) (t:TE) (m:FM):Prop:=∀σ G H ρ,Rel K σ G H ρ→∀Q,Mb K W σ G H ρ Q (m ρ)→t σ H Q
section
variable {K:Kx} {W:WX} {σ:St} {G H G1 H1:Hp} {ρ ρ1:Env}
theorem Kl.step {e:Exn} {ρ':Env} (S:Stp σ ρ G H σ ρ1 G1 H1) (h:Kl K W σ G H ρ e ρ'):Kl K W σ G1 H1 ρ1 e ρ':=fun c d G' H' S'=>h c d G' H' (S.trans S')
theorem EPost.step {Q:VK} (S:Stp σ ρ G H σ ρ1 G1 H1):∀{r:Res X},EPost K W σ G H ρ Q r→EPost K W σ G1 H1 ρ1 Q r
 | .ok _ _,h=>fun v G' H' S'=>h v G' H' (S.trans S')
 | .ex _ _,h=>Kl.step S h
 | .bad,h=>h
theorem Ld.step {Q:Bool→Hp→Prop} (S:Stp σ ρ G H σ ρ1 G1 H1):∀{r:Res Bool},Ld K W σ G H ρ Q r→Ld K W σ G1 H1 ρ1 Q r
 | .ok _ _,h=>fun G' H' S'=>h G' H' (S.trans S')
 | .ex _ _,h=>Kl.step S h
 | .bad,h=>h
theorem D5.step {Q:List V→Hp→Prop} (S:Stp σ ρ G H σ ρ1 G1 H1):∀{r:Res (List X)},D5 K W σ G H ρ Q r→D5 K W σ G1 H1 ρ1 Q r
 | .ok _ _,h=>fun v G' H' S'=>h v G' H' (S.trans S')
 | .ex _ _,h=>Kl.step S h
 | .bad,h=>h
theorem Stp.back (S:Stp σ ρ G H σ ρ1 G1 H1) {a:Addr} (h:H1 a=none):H a=none:=by
 cases e:H a with
 | none=>rfl
 | some u=>exact absurd h (S.hn a (by rw[e];exact fun q=>nomatch q))
theorem Mb.step {Q:VK} (S:Stp σ ρ G H σ ρ1 G1 H1):∀{r:Res D},Mb K W σ G H ρ Q r→Mb K W σ G1 H1 ρ1 Q r
 | .ok _ _,h=>fun v G' H' S' R' F=>h v G' H' (S.trans S') R' ⟨F.1,fun a e=>⟨S.back (F.2 a e).1,(F.2 a e).2⟩⟩
 | .ex _ _,h=>Kl.step S h
 | .bad,h=>h
theorem Yh.fst {t:TE} {m:EM} (h:Yh K W t m) (R:Rel K σ G H ρ) {T:VK}
  (k:∀x ρ1,m ρ=.ok x ρ1→∀v G1 H1,Stp σ ρ G H σ ρ1 G1 H1→Rel K σ G1 H1 ρ1→XOk K σ G1 v x→T v H1) (kx:∀e ρ1,m ρ=.ex e ρ1→Kl K W σ G H ρ e ρ1) (kb:m ρ≠.bad):t σ H T:=by
 refine h σ G H ρ R T ?_;cases e:m ρ with
 | ok x ρ1=>exact fun v G1 H1 S R X=>k x ρ1 e v G1 H1 S R X
 | ex e' ρ1=>exact kx e' ρ1 e
 | bad=>exact absurd e kb
theorem R8.fst {t:TA} {m:AM} (h:R8 K W t m) (R:Rel K σ G H ρ) {T:List V→Hp→Prop}
  (k:∀x ρ1,m ρ=.ok x ρ1→∀v G1 H1,Stp σ ρ G H σ ρ1 G1 H1→Rel K σ G1 H1 ρ1→Nr K σ G1 v x→T v H1) (kx:∀e ρ1,m ρ=.ex e ρ1→Kl K W σ G H ρ e ρ1) (kb:m ρ≠.bad):t σ H T:=by
 refine h σ G H ρ R T ?_;cases e:m ρ with
 | ok x ρ1=>exact fun v G1 H1 S R X=>k x ρ1 e v G1 H1 S R X
 | ex e' ρ1=>exact kx e' ρ1 e
 | bad=>exact absurd e kb
theorem Ie.fst {t:TT} {m:TM} (h:Ie K W t m) (R:Rel K σ G H ρ) {T:Bool→Hp→Prop}
  (k:∀x ρ1,m ρ=.ok x ρ1→∀G1 H1,Stp σ ρ G H σ ρ1 G1 H1→Rel K σ G1 H1 ρ1→T x H1) (kx:∀e ρ1,m ρ=.ex e ρ1→Kl K W σ G H ρ e ρ1) (kb:m ρ≠.bad):t σ H T:=by
 refine h σ G H ρ R T ?_;cases e:m ρ with
 | ok x ρ1=>exact fun G1 H1 S R=>k x ρ1 e G1 H1 S R
 | ex e' ρ1=>exact kx e' ρ1 e
 | bad=>exact absurd e kb
theorem yn.fst {t:TE} {m:FM} (h:yn K W t m) (R:Rel K σ G H ρ) {T:VK}
  (k:∀x ρ1,m ρ=.ok x ρ1→∀v G1 H1,Stp σ ρ G H σ ρ1 G1 H1→Rel K σ G1 H1 ρ1→Frs K σ H ρ1 G1 H1 v x→T v H1) (kx:∀e ρ1,m ρ=.ex e ρ1→Kl K W σ G H ρ e ρ1) (kb:m ρ≠.bad):t σ H T:=by
 refine h σ G H ρ R T ?_;cases e:m ρ with
 | ok x ρ1=>exact fun v G1 H1 S R X=>k x ρ1 e v G1 H1 S R X
 | ex e' ρ1=>exact kx e' ρ1 e
 | bad=>exact absurd e kb
theorem Frs.lock {σ:St} {ρ':Env} {G' H':Hp} {v:V} {x:D} (S:Stp σ ρ G H σ ρ' G' H') (R:Rel K σ G' H' ρ') (F:Frs K σ H ρ' G' H' v x):∃G'',Stp σ ρ G H σ ρ' G'' H'∧Rel K σ G'' H' ρ'∧Dq K G'' v x:=by
 obtain⟨hm,hf⟩:=F;obtain⟨a,rfl,ga,ha⟩:=hm.ref;obtain⟨o,ho⟩:∃o,H' a=some o:=by
  cases q:H' a with
  | none=>exact absurd q ha
  | some o=>exact⟨o,rfl⟩
 obtain⟨hna,hno⟩:=hf a rfl;have sG:Same G' (upd G' a o):=fun b u e=>by rw[upd_ne (ne_of_none e ga)];exact e
 have sGH:Same (upd G' a o) H':=fun b u e=>by
  by_cases q:b=a
  ·subst q;rw[upd_same]at e;rw[ho,e]
  ·rw[upd_ne q]at e;exact R.same b u e
 have dq:Dq K (upd G' a o) (.ref a) x:=by
  cases x<;>first | exact hm.elim | skip
  ·obtain⟨b,xs,e,_,hb,hx⟩:=hm;cases e;rw[ho]at hb;cases hb;exact .lst upd_same (hx.mono sG)
  ·obtain⟨b,xs,e,_,hb,hx⟩:=hm;cases e;rw[ho]at hb;cases hb;exact .dct upd_same (hx.mono sG)
  ·obtain⟨b,dx,xs,e,_,hb,hd,hx⟩:=hm;cases e;rw[ho]at hb;cases hb;exact .ins upd_same (sG _ _ hd) (hx.mono sG)
  ·obtain⟨b,xs,ob,e,_,hb,hk,hx⟩:=hm;cases e;rw[ho]at hb;cases hb;exact .dcT upd_same (hk.mono sG) (hx.mono sG)
 refine⟨upd G' a o,⟨S.g.trans sG,fun b u e=>?_,S.fr,S.hn,S.ow,S.om,S.pin⟩,⟨sGH,R.len,fun j l e=>?_,fun y h=>(R.exo y h).mono sG,R.sep⟩,dq⟩
 ·by_cases q:b=a
  ·subst q;exact .inr (.inl hna)
  ·rw[upd_ne q]at e;exact S.gf b u e
 ·obtain⟨u,e1,e2⟩:=R.at_ j l e;refine⟨u,e1,?_⟩;have own:∀y,l.own=true→MOk K G' H' u y→MOk K (upd G' a o) H' u y:=fun y hl hm=>by
   refine hm.mono sG fun b eb=>⟨?_,fun o e=>e⟩;subst eb;have nb:b≠a:=fun q=>by
    subst q;exact hno ⟨j,l,e,hl,e1⟩
   rw[upd_ne nb];obtain⟨c,ec,hc,_⟩:=hm.ref;cases ec;exact hc
  cases l with
  | d y=>exact Dq.mono sG e2
  | m y=>exact own y rfl e2
  | r y=>exact own y rfl e2
  | p y=>exact⟨own y rfl e2.1,e2.2⟩
  | xh=>exact e2
  | u _ _=>exact e2
end
def eF (m:FM):EM:=fun ρ=>bindR (m ρ) fun d ρ'=>.ok (.d d) ρ'
theorem yn.ev {K:Kx} {W:WX} {t:TE} {m:FM} (h:yn K W t m):Yh K W t (eF m):=fun σ G H ρ R Q hq=>by
 unfold eF bindR at hq;refine h.fst R (fun x ρ1 e v G1 H1 S1 R1 F=>?_) (fun e ρ1 q=>by rw[q]at hq;exact hq) (fun q=>by rw[q]at hq;exact hq);rw[e]at hq;obtain⟨G2,S2,R2,q2⟩:=Frs.lock S1 R1 F;exact hq v G2 H1 S2 R2 q2
end DL
set_option maxHeartbeats 2000000
namespace DL
open PySem L2
variable {K:Kx} {W:WX}
def Qi (i:Nat):EM:=fun ρ=>match ρ[i]? with
 | some (some (.d x))=>.ok (.d x) ρ
 | some (some _)=>.ok (.s i) ρ
 | _=>.bad
theorem qkg (i:Nat):Yh K W (tVar i) (Qi i):=fun σ G H ρ R Q h=>by
 unfold Qi at h;split at h
 ·rename_i x hx;obtain⟨v,h1,h2⟩:=R.at_ i _ hx;exact⟨v,h1,h v G H (Stp.refl _ _ _ _) R h2⟩
 ·rename_i l hl _ _;obtain⟨v,h1,h2⟩:=R.at_ i _ (by assumption);exact⟨v,h1,h v G H (Stp.refl _ _ _ _) R h1⟩
 ·exact h.elim
def eC (x:D):EM:=fun ρ=>.ok (.d x) ρ
theorem qks (i:Int):Yh K W (tC (.int i)) (eC (.int i)):=fun σ G H ρ R Q h=>h _ G H (Stp.refl _ _ _ _) R (.int i)
theorem qo3 (b:Bool):Yh K W (tC (.bl b)) (eC (.bl b)):=fun σ G H ρ R Q h=>h _ G H (Stp.refl _ _ _ _) R (.bl b)
theorem qkj (x:Str):Yh K W (tC (.str x)) (eC (.str x)):=fun σ G H ρ R Q h=>h _ G H (Stp.refl _ _ _ _) R (.str x)
theorem qko:Yh K W (tC .non) (eC .non):=fun σ G H ρ R Q h=>h _ G H (Stp.refl _ _ _ _) R .non
def jk (K:PySem.W.Frag) (G H:Hp) (d:D) (Q:VK):Prop:=∀w G' H',Gro G H G' H'→Dq K G' w d→Q w H'
def rD2 (K:PySem.W.Frag) (g:D→D→Option D):R2:=fun x y H Q=>∃G a b d,Same G H∧Vw K G H x a∧Vw K G H y b∧g a b=some d∧jk K G H d Q
def rD1 (K:PySem.W.Frag) (g:D→Option D):V→Hp→VK→Prop:=fun x H Q=>∃G a d,Same G H∧Vw K G H x a∧g a=some d∧jk K G H d Q
def rDn (K:PySem.W.Frag) (g:List D→Option D):List V→Hp→VK→Prop:=fun xs H Q=>∃G as d,Same G H∧Paired (Vw K G H) xs as∧g as=some d∧jk K G H d Q
def oD (r:Option D) (ρ:Env):Res X:=match r with
 | some d=>.ok (.d d) ρ
 | none=>.bad
theorem jk.of {σ:St} {G H:Hp} {ρ:Env} {d:D} {Q:VK} (R:Rel K σ G H ρ) (h:EPost K W σ G H ρ Q (.ok (.d d) ρ)):jk K G H d Q:=fun w G' H' g q=>h w G' H' g.stp (R.gro g) q
def eOp (g:D→D→Option D) (ma mb:EM):EM:=fun ρ=>bindR (ma ρ) fun x ρ1=>bindR (mb ρ1) fun y ρ2=>match look ρ2 x,look ρ2 y with
 | some a,some b=>oD (g a b) ρ2
 | _,_=>.bad
theorem qcQ {g:D→D→Option D} {ta tb:TE} {ma mb:EM} (ha:Yh K W ta ma) (hb:Yh K W tb mb):Yh K W (tOp (rD2 K g) ta tb) (eOp g ma mb):=fun σ G H ρ R Q h=>by
 unfold eOp bindR at h;refine ha.fst R (fun x ρ1 e v G1 H1 S1 R1 x1=>?_) (fun e ρ1 q=>by rw[q]at h;exact h) (fun q=>by rw[q]at h;exact h);rw[e]at h;have h:=EPost.step S1 h;simp only at h;refine hb.fst R1 (fun y ρ2 e2 u G2 H2 S2 R2 x2=>?_) (fun e ρ1 q=>by rw[q]at h;exact h) (fun q=>by rw[q]at h;exact h);rw[e2]at h;have h:=EPost.step S2 h;simp only at h;split at h
 ·rename_i a b ea eb;unfold oD at h;split at h
  ·rename_i d hd;exact⟨G2,a,b,d,R2.same,J5 R2 (x1.mono S2.g) ea,J5 R2 x2 eb,hd,jk.of R2 h⟩
  ·exact h.elim
 ·exact h.elim
def eUn (g:D→Option D) (ma:EM):EM:=fun ρ=>bindR (ma ρ) fun x ρ1=>match look ρ1 x with
 | some a=>oD (g a) ρ1
 | _=>.bad
theorem qkh {g:D→Option D} {ta:TE} {ma:EM} (ha:Yh K W ta ma):Yh K W (tUn (rD1 K g) ta) (eUn g ma):=fun σ G H ρ R Q h=>by
 unfold eUn bindR at h;refine ha.fst R (fun x ρ1 e v G1 H1 S1 R1 x1=>?_) (fun e ρ1 q=>by rw[q]at h;exact h) (fun q=>by rw[q]at h;exact h);rw[e]at h;have h:=EPost.step S1 h;simp only at h;split at h
 ·rename_i a ea;unfold oD at h;split at h
  ·rename_i d hd;exact⟨G1,a,d,R1.same,J5 R1 x1 ea,hd,jk.of R1 h⟩
  ·exact h.elim
 ·exact h.elim
def looks (ρ:Env):List X→Option (List D)
 | []=>some []
 | x::xs=>match look ρ x,looks ρ xs with
  | some a,some as=>some (a::as)
  | _,_=>none
theorem Aq {σ:St} {G H:Hp} {ρ:Env} (R:Rel K σ G H ρ):∀{xs:List X} {vs:List V} {as:List D},Nr K σ G vs xs→looks ρ xs=some as→Paired (Vw K G H) vs as
 | [],_,_,h,e=>by
  cases h;cases Option.some.inj e;exact .nil
 | x::xs,_,_,h,e=>by
  cases h with
  | cons hx ht=>
   unfold looks at e;split at e
   ·rename_i a as e1 e2;cases Option.some.inj e;exact .cons (J5 R hx e1) (Aq R ht e2)
   ·cases e
def eCB (g:List D→Option D) (ma:AM):EM:=fun ρ=>bindR (ma ρ) fun xs ρ1=>match looks ρ1 xs with
 | some as=>oD (g as) ρ1
 | _=>.bad
theorem qkv {g:List D→Option D} {ta:TA} {ma:AM} (ha:R8 K W ta ma):Yh K W (tCB (rDn K g) ta) (eCB g ma):=fun σ G H ρ R Q h=>by
 unfold eCB bindR at h;refine ha.fst R (fun x ρ1 e v G1 H1 S1 R1 x1=>?_) (fun e ρ1 q=>by rw[q]at h;exact h) (fun q=>by rw[q]at h;exact h);rw[e]at h;have h:=EPost.step S1 h;simp only at h;split at h
 ·rename_i a ea;unfold oD at h;split at h
  ·rename_i d hd;exact⟨G1,a,d,R1.same,Aq R1 x1 ea,hd,jk.of R1 h⟩
  ·exact h.elim
 ·exact h.elim
def Qx:AM:=fun ρ=>.ok [] ρ
def Qf (ma:EM) (mr:AM):AM:=fun ρ=>bindR (ma ρ) fun x ρ1=>bindR (mr ρ1) fun xs ρ2=>.ok (x::xs) ρ2
theorem qaw:R8 K W tNil Qx:=fun σ G H ρ R Q h=>h [] G H (Stp.refl _ _ _ _) R .nil
theorem qdk {ta:TE} {tr:TA} {ma:EM} {mr:AM} (ha:Yh K W ta ma) (hr:R8 K W tr mr):R8 K W (tCons ta tr) (Qf ma mr):=fun σ G H ρ R Q h=>by
 unfold Qf bindR at h;refine ha.fst R (fun x ρ1 e v G1 H1 S1 R1 x1=>?_) (fun e ρ1 q=>by rw[q]at h;exact h) (fun q=>by rw[q]at h;exact h);rw[e]at h;have h:=D5.step S1 h;simp only at h;refine hr.fst R1 (fun xs ρ2 e2 us G2 H2 S2 R2 x2=>?_) (fun e ρ1 q=>by rw[q]at h;exact h) (fun q=>by rw[q]at h;exact h);rw[e2]at h;have h:=D5.step S2 h;exact h (v::us) G2 H2 (Stp.refl _ _ _ _) R2 (.cons (x1.mono S2.g) x2)
theorem Xz {n:Nat} (h:n≤mx):n≤sizeLine:=Nat.le_trans h (by decide)
def Gg (ma:AM):EM:=fun ρ=>bindR (ma ρ) fun xs ρ1=>match fzs ρ1 xs with
 | some (ds,ρ2)=>if ds.length≤mx then .ok (.d (.tup ds)) ρ2 else .bad
 | none=>.bad
theorem qki {ta:TA} {ma:AM} (ha:R8 K W ta ma):Yh K W (qif ta) (Gg ma):=fun σ G H ρ R Q h=>by
 unfold Gg bindR at h;refine ha.fst R (fun x ρ1 e v G1 H1 S1 R1 x1=>?_) (fun e ρ1 q=>by rw[q]at h;exact h) (fun q=>by rw[q]at h;exact h);rw[e]at h;have h:=EPost.step S1 h;simp only at h;split at h
 ·rename_i ds ρ2 e2;split at h
  ·rename_i hl;obtain⟨G2,S2,R2,q2⟩:=qcH R1 x1 e2;have h:=EPost.step S2 h;refine⟨by rw[q2.length];exact Xz hl,fun p o ho hp=>?_⟩;have g:=Gro.new (o:=.frz o (.tup v)) R2.same hp;exact h _ _ _ g.stp (R2.gro g) (.tup (.inl ⟨o,upd_same,ho⟩) (q2.mono g.g))
  ·exact h.elim
 ·exact h.elim
def O7 (ma:AM):FM:=fun ρ=>bindR (ma ρ) fun xs ρ1=>match fzs ρ1 xs with
 | some (ds,ρ2)=>if ds.length≤mx then .ok (.lst ds) ρ2 else .bad
 | none=>.bad
theorem Frs.new {σ:St} {G H:Hp} {ρ:Env} {p:Addr} {xs:List V} {ds:List D} (R:Rel K σ G H ρ) (hp:H p=none) (q:DqA K G xs ds):Frs K σ H ρ G (upd H p (.lst xs)) (.ref p) (.lst ds):=by
 refine⟨⟨p,xs,rfl,R.same.free hp,upd_same,q⟩,fun a e=>?_⟩;cases e;refine⟨hp,fun⟨i,l,h1,h2,h3⟩=>?_⟩;obtain⟨v,h4,h5⟩:=R.at_ i l h1;rw[h3]at h4;have h4:V.ref p=v:=Option.some.inj (Option.some.inj h4);subst h4;have own:∀x,MOk K G H (.ref p) x→False:=fun x hm=>by
  obtain⟨a,ea,_,h⟩:=hm.ref;cases ea;exact h hp
 cases l with
 | d x=>cases h2
 | m x=>exact own x h5
 | r x=>exact own x h5
 | p x=>exact own x h5.1
 | xh=>cases h2
 | u _ _=>cases h2
theorem qj5 {ta:TA} {ma:AM} (ha:R8 K W ta ma):yn K W (tLst ta) (O7 ma):=fun σ G H ρ R Q h=>by
 unfold O7 bindR at h;refine ha.fst R (fun x ρ1 e v G1 H1 S1 R1 x1=>?_) (fun e ρ1 q=>by rw[q]at h;exact h) (fun q=>by rw[q]at h;exact h);rw[e]at h;have h:=Mb.step S1 h;simp only at h;split at h
 ·rename_i ds ρ2 e2;split at h
  ·rename_i hl;obtain⟨G2,S2,R2,q2⟩:=qcH R1 x1 e2;have h:=Mb.step S2 h;refine⟨by rw[q2.length];exact Xz hl,fun p hp=>?_⟩;have g:=Gro.newH (o:=.lst v) R2.same hp;exact h _ _ _ g.stp (R2.gro g) (Frs.new R2 hp q2)
  ·exact h.elim
 ·exact h.elim
def qh3 (K:PySem.W.Frag) (G H:Hp) (ds:List D) (Q:VK):Prop:=∀p xs,H p=none→DqA K G xs ds→Q (.ref p) (upd H p (.lst xs))
def rF1 (K:PySem.W.Frag) (g:D→Option (List D)):V→Hp→VK→Prop:=fun x H Q=>∃G a ds,Same G H∧Vw K G H x a∧g a=some ds∧qh3 K G H ds Q
def rFn (K:PySem.W.Frag) (g:List D→Option (List D)):List V→Hp→VK→Prop:=fun xs H Q=>∃G as ds,Same G H∧Paired (Vw K G H) xs as∧g as=some ds∧qh3 K G H ds Q
def oF (r:Option (List D)) (ρ:Env):Res D:=match r with
 | some ds=>.ok (.lst ds) ρ
 | none=>.bad
theorem qh3.of {σ:St} {G H:Hp} {ρ:Env} {ds:List D} {Q:VK} (R:Rel K σ G H ρ) (h:Mb K W σ G H ρ Q (.ok (.lst ds) ρ)):qh3 K G H ds Q:=fun p xs hp q=>by
 have g:=Gro.newH (o:=.lst xs) R.same hp;exact h _ _ _ g.stp (R.gro g) (Frs.new R hp q)
theorem rF1.d {g:D→Option (List D)} {x:V} {H:Hp} {Q:VK} (h:rD1 K (fun a=>(g a).map .lst) x H Q):rF1 K g x H Q:=by
 obtain⟨G,a,d,s,v,e,q⟩:=h;obtain⟨ds,e1,rfl⟩:=Option.map_eq_some_iff.mp e;refine⟨G,a,ds,s,v,e1,fun p xs hp hq=>?_⟩;have g:=Gro.new (o:=.lst xs) s hp;exact q _ _ _ g (.lst upd_same (hq.mono g.g))
def fCB (g:List D→Option (List D)) (ma:AM):FM:=fun ρ=>bindR (ma ρ) fun xs ρ1=>match looks ρ1 xs with
 | some as=>oF (g as) ρ1
 | _=>.bad
theorem qj6 {g:List D→Option (List D)} {ta:TA} {ma:AM} (ha:R8 K W ta ma):yn K W (tCB (rFn K g) ta) (fCB g ma):=fun σ G H ρ R Q h=>by
 unfold fCB bindR at h;refine ha.fst R (fun x ρ1 e v G1 H1 S1 R1 x1=>?_) (fun e ρ1 q=>by rw[q]at h;exact h) (fun q=>by rw[q]at h;exact h);rw[e]at h;have h:=Mb.step S1 h;simp only at h;split at h
 ·rename_i a ea;unfold oF at h;split at h
  ·rename_i d hd;exact⟨G1,a,d,R1.same,Aq R1 x1 ea,hd,qh3.of R1 h⟩
  ·exact h.elim
 ·exact h.elim
abbrev OM:=Env→Res (Option Int)
def qdr (K:Kx) (W:WX) (σ:St) (G H:Hp) (ρ:Env) (Q:Option Int→Hp→Prop):Res (Option Int)→Prop
 | .ok b ρ'=>∀G' H',Stp σ ρ G H σ ρ' G' H'→Rel K σ G' H' ρ'→Q b H'
 | .ex e ρ'=>Kl K W σ G H ρ e ρ'
 | .bad=>False
def qdq (K:Kx) (W:WX) (t:TO) (m:OM):Prop:=∀σ G H ρ,Rel K σ G H ρ→∀Q,qdr K W σ G H ρ Q (m ρ)→t σ H Q
theorem qdr.step {σ:St} {G H G1 H1:Hp} {ρ ρ1:Env} {Q:Option Int→Hp→Prop} (S:Stp σ ρ G H σ ρ1 G1 H1):∀{r:Res (Option Int)},qdr K W σ G H ρ Q r→qdr K W σ G1 H1 ρ1 Q r
 | .ok _ _,h=>fun G' H' S'=>h G' H' (S.trans S')
 | .ex _ _,h=>Kl.step S h
 | .bad,h=>h
theorem qdq.fst {σ:St} {G H:Hp} {ρ:Env} {t:TO} {m:OM} (h:qdq K W t m) (R:Rel K σ G H ρ) {T:Option Int→Hp→Prop}
  (k:∀x ρ1,m ρ=.ok x ρ1→∀G1 H1,Stp σ ρ G H σ ρ1 G1 H1→Rel K σ G1 H1 ρ1→T x H1) (kx:∀e ρ1,m ρ=.ex e ρ1→Kl K W σ G H ρ e ρ1) (kb:m ρ≠.bad):t σ H T:=by
 refine h σ G H ρ R T ?_;cases e:m ρ with
 | ok x ρ1=>exact fun G1 H1 S R=>k x ρ1 e G1 H1 S R
 | ex e' ρ1=>exact kx e' ρ1 e
 | bad=>exact absurd e kb
def xk:OM:=fun ρ=>.ok none ρ
theorem qgq:qdq K W tNoPart xk:=fun σ G H ρ R Q h=>h G H (Stp.refl _ _ _ _) R
def Fc (ma:EM):OM:=fun ρ=>bindR (ma ρ) fun x ρ1=>match x with
 | .d (.int i)=>.ok (some i) ρ1
 | _=>.bad
theorem qgp {ta:TE} {ma:EM} (ha:Yh K W ta ma):qdq K W (tPart ta) (Fc ma):=fun σ G H ρ R Q h=>by
 unfold Fc bindR at h;refine ha.fst R (fun x ρ1 e v G1 H1 S1 R1 x1=>?_) (fun e ρ1 q=>by rw[q]at h;exact h) (fun q=>by rw[q]at h;exact h);rw[e]at h;have h:=qdr.step S1 h;simp only at h;split at h
 ·cases x1 with
  | int=>exact⟨_,rfl,h G1 H1 (Stp.refl _ _ _ _) R1⟩
 ·exact h.elim
def rSl (K:PySem.W.Frag) (g:D→Option Int→Option Int→Option D):V→Option Int→Option Int→Hp→VK→Prop:=fun x lo hi H Q=>∃G a d,Same G H∧Vw K G H x a∧g a lo hi=some d∧jk K G H d Q
def eSl (g:D→Option Int→Option Int→Option D) (ma:EM) (ml mh:OM):EM:=fun ρ=>bindR (ma ρ) fun x ρ1=>bindR (ml ρ1) fun lo ρ2=>bindR (mh ρ2) fun hi ρ3=>match look ρ3 x with
 | some a=>oD (g a lo hi) ρ3
 | none=>.bad
theorem qo2 {g:D→Option Int→Option Int→Option D} {ta:TE} {tl th:TO} {ma:EM} {ml mh:OM} (ha:Yh K W ta ma) (hl:qdq K W tl ml) (hh:qdq K W th mh):Yh K W (tSl (rSl K g) ta tl th) (eSl g ma ml mh):=fun σ G H ρ R Q h=>by
 unfold eSl bindR at h;refine ha.fst R (fun x ρ1 e v G1 H1 S1 R1 x1=>?_) (fun e ρ1 q=>by rw[q]at h;exact h) (fun q=>by rw[q]at h;exact h);rw[e]at h;have h:=EPost.step S1 h;simp only at h;refine hl.fst R1 (fun lo ρ2 e2 G2 H2 S2 R2=>?_) (fun e ρ1 q=>by rw[q]at h;exact h) (fun q=>by rw[q]at h;exact h);rw[e2]at h;have h:=EPost.step S2 h;simp only at h;refine hh.fst R2 (fun hi ρ3 e3 G3 H3 S3 R3=>?_) (fun e ρ1 q=>by rw[q]at h;exact h) (fun q=>by rw[q]at h;exact h);rw[e3]at h;have h:=EPost.step S3 h;simp only at h;split at h
 ·rename_i a ea;unfold oD at h;split at h
  ·rename_i d hd;exact⟨G3,a,d,R3.same,J5 R3 ((x1.mono S2.g).mono S3.g) ea,hd,jk.of R3 h⟩
  ·exact h.elim
 ·exact h.elim
def qs4 (K:PySem.W.Frag) (ta:TE):TT:=fun σ H Q=>ta σ H fun x H'=>∃k,TruV K x H' k∧Q k H'
def tBl (ma:EM):TM:=fun ρ=>bindR (ma ρ) fun x ρ1=>match x with
 | .d (.bl b)=>.ok b ρ1
 | _=>.bad
theorem qfK {ta:TE} {ma:EM} (ha:Yh K W ta ma):Ie K W (tTest ta) (tBl ma):=fun σ G H ρ R Q h=>by
 unfold tBl bindR at h;refine ha.fst R (fun x ρ1 e v G1 H1 S1 R1 x1=>?_) (fun e ρ1 q=>by rw[q]at h;exact h) (fun q=>by rw[q]at h;exact h);rw[e]at h;have h:=Ld.step S1 h;simp only at h;split at h
 ·cases x1 with
  | bl=>exact⟨_,rfl,h G1 H1 (Stp.refl _ _ _ _) R1⟩
 ·exact h.elim
theorem qpR {ta:TE} {ma:EM} (ha:Yh K W ta ma):Ie K W (tB ta) (tBl ma):=fun σ G H ρ R Q h=>by
 unfold tBl bindR at h;refine ha.fst R (fun x ρ1 e v G1 H1 S1 R1 x1=>?_) (fun e ρ1 q=>by rw[q]at h;exact h) (fun q=>by rw[q]at h;exact h);rw[e]at h;have h:=Ld.step S1 h;simp only at h;split at h
 ·cases x1 with
  | bl=>exact⟨_,rfl,h G1 H1 (Stp.refl _ _ _ _) R1⟩
 ·exact h.elim
def qd6 (mt mu:TM):TM:=fun ρ=>bindR (mt ρ) fun b ρ1=>if b=true then mu ρ1 else .ok false ρ1
def mOr (mt mu:TM):TM:=fun ρ=>bindR (mt ρ) fun b ρ1=>if b=true then .ok true ρ1 else mu ρ1
def El (mt:TM):TM:=fun ρ=>bindR (mt ρ) fun b ρ1=>.ok (!b) ρ1
theorem qid {t u:TT} {mt mu:TM} (ht:Ie K W t mt) (hu:Ie K W u mu):Ie K W (tAnd t u) (qd6 mt mu):=fun σ G H ρ R Q h=>by
 unfold qd6 bindR at h;refine ht.fst R (fun b ρ1 e G1 H1 S1 R1=>?_) (fun e ρ1 q=>by rw[q]at h;exact h) (fun q=>by rw[q]at h;exact h);rw[e]at h;have h:=Ld.step S1 h;simp only at h;split at h
 ·rename_i hb;rw[if_pos hb];exact hu _ _ _ _ R1 _ h
 ·rename_i hb;rw[if_neg hb];exact h G1 H1 (Stp.refl _ _ _ _) R1
theorem qmC {t u:TT} {mt mu:TM} (ht:Ie K W t mt) (hu:Ie K W u mu):Ie K W (tOr t u) (mOr mt mu):=fun σ G H ρ R Q h=>by
 unfold mOr bindR at h;refine ht.fst R (fun b ρ1 e G1 H1 S1 R1=>?_) (fun e ρ1 q=>by rw[q]at h;exact h) (fun q=>by rw[q]at h;exact h);rw[e]at h;have h:=Ld.step S1 h;simp only at h;split at h
 ·rename_i hb;rw[if_pos hb];exact h G1 H1 (Stp.refl _ _ _ _) R1
 ·rename_i hb;rw[if_neg hb];exact hu _ _ _ _ R1 _ h
theorem qic {t:TT} {mt:TM} (ht:Ie K W t mt):Ie K W (tNot t) (El mt):=fun σ G H ρ R Q h=>by
 unfold El bindR at h;refine ht.fst R (fun b ρ1 e G1 H1 S1 R1=>?_) (fun e ρ1 q=>by rw[q]at h;exact h) (fun q=>by rw[q]at h;exact h);rw[e]at h;have h:=Ld.step S1 h;exact h G1 H1 (Stp.refl _ _ _ _) R1
def qhW (ma mb:EM):EM:=fun ρ=>bindR (tBl ma ρ) fun b ρ1=>if b=true then mb ρ1 else .ok (.d (.bl false)) ρ1
def qkE (ma:EM):EM:=fun ρ=>bindR (tBl ma ρ) fun b ρ1=>.ok (.d (.bl (!b))) ρ1
theorem qkx {ta tb:TE} {ma mb:EM} (ha:Yh K W ta ma) (hb:Yh K W tb mb):Yh K W (tAndV ta tb) (qhW ma mb):=fun σ G H ρ R Q h=>by
 refine qpR ha σ G H ρ R (fun c H1=>if c=true then tb σ H1 Q else Q (.bl false) H1) ?_;unfold qhW bindR at h;cases e:tBl ma ρ with
 | ok b ρ1=>
  rw[e]at h;intro G1 H1 S1 R1;have h:=EPost.step S1 h;cases b with
  | true=>
   simp only[if_true]at h ⊢;exact hb _ _ _ _ R1 _ h
  | false=>
   simp only[Bool.false_eq_true,if_false]at h ⊢;exact h _ G1 H1 (Stp.refl _ _ _ _) R1 (.bl _)
 | ex x ρ1=>rw[e]at h;exact h
 | bad=>rw[e]at h;exact h
theorem qkn {ta:TE} {ma:EM} (ha:Yh K W ta ma):Yh K W (tNotV ta) (qkE ma):=fun σ G H ρ R Q h=>by
 refine qpR ha σ G H ρ R (fun c H1=>Q (.bl (!c)) H1) ?_;unfold qkE bindR at h;cases e:tBl ma ρ with
 | ok b ρ1=>
  rw[e]at h;intro G1 H1 S1 R1;have h:=EPost.step S1 h;exact h _ G1 H1 (Stp.refl _ _ _ _) R1 (.bl _)
 | ex x ρ1=>rw[e]at h;exact h
 | bad=>rw[e]at h;exact h
variable {K:Kx} {W:WX}
def Lq (ρ:Env) (i:Nat) (l:L):Option Env:=match ρ[i]? with
 | some (some (.r _))=>none
 | some _=>some (ρ.set i (some l))
 | none=>none
section
variable {σ σ1:St} {G H G0 H0:Hp} {ρ ρ0:Env}
theorem Te {i:Nat} {l:L} {ρ':Env} (h:Lq ρ i l=some ρ'):ρ'=ρ.set i (some l)∧i < ρ.length∧∀x,ρ[i]?≠some (some (.r x)):=by
 unfold Lq at h;split at h
 ·cases h
 ·rename_i o hn ho;cases Option.some.inj h;refine⟨rfl,(List.getElem?_eq_some_iff.mp ho).1,fun x e=>?_⟩;rw[ho]at e;exact hn x (Option.some.inj e)
 ·cases h
theorem Bo {i:Nat} {v:V} {x:D} {ρ':Env} (R:Rel K σ G H ρ) (q:Dq K G v x) (h:Lq ρ i (.d x)=some ρ'):Stp σ ρ G H (σ.set i (some v)) ρ' G H∧Rel K (σ.set i (some v)) G H ρ':=by
 obtain⟨rfl,hi,hr⟩:=Te h;have hi':i < σ.length:=by rw[R.len];exact hi
 have own:∀{j:Nat} {l:L} {b:Addr},(ρ.set i (some (.d x)))[j]?=some (some l)→l.own=true→(σ.set i (some v))[j]?=some (some (.ref b))→ρ[j]?=some (some l)∧σ[j]?=some (some (.ref b)):=fun {j l b} e1 o e3=>by
  rcases Xp e1 with ⟨rfl,e⟩ | ⟨hne,e⟩
  ·cases Option.some.inj e;cases o
  ·rw[List.getElem?_set_ne hne]at e3;exact⟨e,e3⟩
 refine⟨⟨Same.refl _,fun _ _ h=>.inl h,fun _ _ h _=>h,fun _ h=>h,fun a ⟨j,l,e1,e2,e3⟩=>?_,fun a ⟨j,l,e1,e2,e3⟩=>?_,fun j y e=>?_⟩,⟨R.same,?_,fun j l e=>?_,R.exo,fun j k l l' b hjk e1 e2 o1 o2 e3 e4=>?_⟩⟩
 ·obtain⟨h1,h2⟩:=own e1 e2 e3;exact .inl ⟨j,l,h1,e2,h2⟩
 ·have o:l.own=true:=by cases l<;>first | rfl | cases e2
  obtain⟨h1,h2⟩:=own e1 o e3;exact .inl ⟨j,l,h1,e2,h2⟩
 ·have hne:i≠j:=fun q=>by subst q;exact hr y e
  rw[List.getElem?_set_ne hne,List.getElem?_set_ne hne];exact⟨rfl,y,e⟩
 ·rw[List.length_set,List.length_set];exact R.len
 ·rcases Xp e with ⟨hij,e'⟩ | ⟨hne,e⟩
  ·subst hij;cases Option.some.inj e';exact⟨v,List.getElem?_set_self hi',q⟩
  ·rw[List.getElem?_set_ne hne];exact R.at_ j l e
 ·have hbk:∃c,(σ.set i (some v))[k]?=some (some (V.ref c)):=⟨b,e4⟩;obtain⟨h1,h2⟩:=own e1 o1 e3;obtain⟨h3,h4⟩:=own e2 o2 e4;exact R.sep j k l l' b hjk h1 h3 o1 o2 h2 h4
theorem qf5 {i:Nat} {v:V} {x:D} {ρ':Env} (S:Stp σ ρ0 G0 H0 σ ρ G H) (R:Rel K σ G H ρ) (F:Frs K σ H0 ρ G H v x) (h:Lq ρ i (.m x)=some ρ'):Stp σ ρ0 G0 H0 (σ.set i (some v)) ρ' G H∧Rel K (σ.set i (some v)) G H ρ':=by
 obtain⟨rfl,hi,hr⟩:=Te h;have hi':i < σ.length:=by rw[R.len];exact hi
 obtain⟨hm,hf⟩:=F;obtain⟨a,rfl,ga,ha⟩:=hm.ref;obtain⟨na,no⟩:=hf a rfl;have own:∀{j:Nat} {l:L} {b:Addr},(ρ.set i (some (.m x)))[j]?=some (some l)→(σ.set i (some (.ref a)))[j]?=some (some (.ref b))→(i=j∧b=a)∨(i≠j∧ρ[j]?=some (some l)∧σ[j]?=some (some (.ref b))):=fun {j l b} e1 e3=>by
  rcases Xp e1 with ⟨hij,e⟩ | ⟨hne,e⟩
  ·subst hij;rw[List.getElem?_set_self hi']at e3;cases Option.some.inj (Option.some.inj e3);exact .inl ⟨rfl,rfl⟩
  ·rw[List.getElem?_set_ne hne]at e3;exact .inr ⟨hne,e,e3⟩
 refine⟨⟨S.g,S.gf,S.fr,S.hn,fun b ⟨j,l,e1,e2,e3⟩=>?_,fun b ⟨j,l,e1,e2,e3⟩=>?_,fun j y e=>?_⟩,⟨R.same,?_,fun j l e=>?_,R.exo,fun j k l l' b hjk e1 e2 o1 o2 e3 e4=>?_⟩⟩
 ·rcases own e1 e3 with ⟨_,rfl⟩ | ⟨_,h1,h2⟩
  ·exact .inr na
  ·exact S.ow b ⟨j,l,h1,e2,h2⟩
 ·rcases own e1 e3 with ⟨_,rfl⟩ | ⟨_,h1,h2⟩
  ·exact .inr na
  ·exact S.om b ⟨j,l,h1,e2,h2⟩
 ·obtain⟨p1,z,p2⟩:=S.pin j y e;have hne:i≠j:=fun q=>by subst q;exact hr z p2
  rw[List.getElem?_set_ne hne,List.getElem?_set_ne hne];exact⟨p1,z,p2⟩
 ·rw[List.length_set,List.length_set];exact R.len
 ·rcases Xp e with ⟨hij,e'⟩ | ⟨hne,e⟩
  ·subst hij;cases Option.some.inj e';exact⟨_,List.getElem?_set_self hi',hm⟩
  ·rw[List.getElem?_set_ne hne];exact R.at_ j l e
 ·rcases own e1 e3 with ⟨q1,rfl⟩ | ⟨_,h1,h2⟩
  ·rcases own e2 e4 with ⟨q2,_⟩ | ⟨_,h3,h4⟩
   ·exact hjk (q1.symm.trans q2)
   ·exact no ⟨k,l',h3,o2,h4⟩
  ·rcases own e2 e4 with ⟨q2,rfl⟩ | ⟨_,h3,h4⟩
   ·exact no ⟨j,l,h1,o1,h2⟩
   ·exact R.sep j k l l' b hjk h1 h3 o1 o2 h2 h4
theorem L.qbL (l:L) (x:D):(l.put x).ism=l.ism:=by cases l<;>rfl
theorem E7 {i:Nat} {l:L} {a:Addr} {o:HO} {x':D} (R:Rel K σ G H ρ) (hl:ρ[i]?=some (some l)) (ho:l.own=true) (hv:σ[i]?=some (some (.ref a))) (hm:MOk K G (upd H a o) (.ref a) x') :
  Stp σ ρ G H σ (ρ.set i (some (l.put x'))) G (upd H a o)∧Rel K σ G (upd H a o) (ρ.set i (some (l.put x'))):=by
 have hi:i < ρ.length:=(List.getElem?_eq_some_iff.mp hl).1;obtain⟨b,eb,ga,_⟩:=hm.ref;cases eb;have own:∀{j:Nat} {l':L} {b:Addr},(ρ.set i (some (l.put x')))[j]?=some (some l')→σ[j]?=some (some (.ref b))→(i=j∧l'=l.put x'∧b=a)∨(i≠j∧ρ[j]?=some (some l')):=fun {j l' b} e1 e3=>by
  rcases Xp e1 with ⟨hij,e⟩ | ⟨hne,e⟩
  ·subst hij;rw[hv]at e3;cases Option.some.inj (Option.some.inj e3);exact .inl ⟨rfl,(Option.some.inj e).symm,rfl⟩
  ·exact .inr ⟨hne,e⟩
 refine⟨⟨Same.refl _,fun _ _ h=>.inl h,fun b u e n=>?_,fun b e=>?_,fun b ⟨j,l',e1,e2,e3⟩=>?_,fun b ⟨j,l',e1,e2,e3⟩=>?_,fun j y e=>?_⟩,⟨fun b u e=>?_,?_,fun j l' e=>?_,R.exo,fun j k l1 l2 b hjk e1 e2 o1 o2 e3 e4=>?_⟩⟩
 ·have nb:b≠a:=fun q=>by subst q;exact n ⟨i,l,hl,ho,hv⟩
  rw[upd_ne nb];exact e
 ·by_cases q:b=a
  ·subst q;rw[upd_same];exact fun z=>nomatch z
  ·rw[upd_ne q];exact e
 ·rcases own e1 e3 with ⟨rfl,rfl,rfl⟩ | ⟨_,h1⟩
  ·exact .inl ⟨i,l,hl,ho,hv⟩
  ·exact .inl ⟨j,l',h1,e2,e3⟩
 ·rcases own e1 e3 with ⟨rfl,rfl,rfl⟩ | ⟨_,h1⟩
  ·rw[L.qbL]at e2;exact .inl ⟨i,l,hl,e2,hv⟩
  ·exact .inl ⟨j,l',h1,e2,e3⟩
 ·refine⟨rfl,?_⟩;by_cases q:i=j
  ·subst q;rw[hl]at e;cases Option.some.inj (Option.some.inj e);exact⟨x',List.getElem?_set_self hi⟩
  ·rw[List.getElem?_set_ne q];exact⟨y,e⟩
 ·by_cases q:b=a
  ·subst q;rw[ga]at e;cases e
  ·rw[upd_ne q];exact R.same b u e
 ·rw[List.length_set];exact R.len
 ·rcases Xp e with ⟨hij,e'⟩ | ⟨hne,e⟩
  ·subst hij;cases Option.some.inj e';refine⟨_,hv,?_⟩;cases l with
   | d _=>cases ho
   | m _=>exact hm
   | r _=>exact hm
   | p _=>
    obtain⟨u,e1,e2⟩:=R.at_ i _ hl;rw[hv]at e1;cases Option.some.inj (Option.some.inj e1);exact⟨hm,e2.2⟩
   | xh=>cases ho
   | u _ _=>cases ho
  ·obtain⟨u,e1,e2⟩:=R.at_ j l' e;refine⟨u,e1,?_⟩;have ow:∀y,l'.own=true→MOk K G H u y→MOk K G (upd H a o) u y:=fun y ol hm=>by
    refine hm.mono (Same.refl _) fun c ec=>?_;subst ec;obtain⟨c',ec',gc,_⟩:=hm.ref;cases ec';refine⟨gc,fun u eu=>?_⟩;have nc:c≠a:=fun q=>by
     subst q;exact R.sep i j _ _ c hne hl e ho ol hv e1
    rw[upd_ne nc];exact eu
   cases l' with
   | d y=>exact e2
   | m y=>exact ow y rfl e2
   | r y=>exact ow y rfl e2
   | p y=>exact⟨ow y rfl e2.1,e2.2⟩
   | xh=>exact e2
   | u _ _=>exact e2
 ·rcases own e1 e3 with ⟨q1,rfl,rfl⟩ | ⟨h0,h1⟩
  ·rcases own e2 e4 with ⟨q2,_,_⟩ | ⟨h2,h3⟩
   ·exact hjk (q1.symm.trans q2)
   ·exact R.sep i k l l2 b h2 hl h3 ho o2 hv e4
  ·rcases own e2 e4 with ⟨q2,rfl,rfl⟩ | ⟨h2,h3⟩
   ·exact R.sep i j l l1 b h0 hl h1 ho o1 hv e3
   ·exact R.sep j k l1 l2 b hjk h1 h3 o1 o2 e3 e4
theorem zr {i:Nat} (R:Rel K σ G H ρ) (hr:∀x,ρ[i]?≠some (some (.r x))):Stp σ ρ G H σ (ρ.set i none) G H∧Rel K σ G H (ρ.set i none):=by
 have own:∀{j:Nat} {l:L},(ρ.set i none)[j]?=some (some l)→ρ[j]?=some (some l):=fun {j l} e1=>by
  rcases Xp e1 with ⟨_,e⟩ | ⟨_,e⟩
  ·cases e
  ·exact e
 refine⟨⟨Same.refl _,fun _ _ h=>.inl h,fun _ _ h _=>h,fun _ h=>h,fun a ⟨j,l,e1,e2,e3⟩=>.inl ⟨j,l,own e1,e2,e3⟩,fun a ⟨j,l,e1,e2,e3⟩=>.inl ⟨j,l,own e1,e2,e3⟩,fun j y e=>⟨rfl,y,?_⟩⟩,⟨R.same,by rw[List.length_set];exact R.len,fun j l e=>R.at_ j l (own e),R.exo,fun j k l l' b hjk e1 e2 o1 o2=>R.sep j k l l' b hjk (own e1) (own e2) o1 o2⟩⟩;have hne:i≠j:=fun q=>by subst q;exact hr y e
 rw[List.getElem?_set_ne hne];exact e
end
def uN:D→Bool
 | .ro _=>false
 | _=>true
def qpH (d:D) (va vb:V):List V:=if uN d=true then [va,vb] else [vb,va]
def qmB:D→D
 | .ro [d]=>d
 | d=>d
def qfC (K:Kx) (σ:St) (ρ:Env) (H G' H':Hp) (v:V):L→Prop
 | .d x=>Dq K G' v x
 | .m x=>MOk K G' H' v x∧∀a,v=.ref a→H a=none∨Ss σ ρ a
 | .u d x=>∃t va vb,v=.ref t∧SqN K.k G' t (qpH d va vb)∧Dq K.k G' va (qmB d)∧MOk K G' H' vb x∧∀a,vb=.ref a→H a=none∨Ss σ ρ a
 | _=>False
def Z6 (K:Kx) (W:WX) (σ:St) (G H:Hp) (ρ:Env) (D:Ends):Res Fl→Prop
 | .ok .nx ρ'=>∀σ' G' H',Stp σ ρ G H σ' ρ' G' H'→Rel K σ' G' H' ρ'→D.nx σ' H'
 | .ok .bk ρ'=>∀σ' G' H',Stp σ ρ G H σ' ρ' G' H'→Rel K σ' G' H' ρ'→D.bk σ' H'
 | .ok .ct ρ'=>∀σ' G' H',Stp σ ρ G H σ' ρ' G' H'→Rel K σ' G' H' ρ'→D.ct σ' H'
 | .ok (.rt l) ρ'=>∀σ' v G' H',Stp σ ρ G H σ' ρ' G' H'→Rel K σ' G' H' ρ'→qfC K σ ρ H G' H' v l→D.rt v H'
 | .ex e ρ'=>∀c d σ' G' H',Stp σ ρ G H σ' ρ' G' H'→Rel K σ' G' H' ρ'→ExOk K G' c d e→W c d σ' H'
 | .bad=>False
def Nt (K:Kx) (W:WX) (t:TS) (m:SM):Prop:=∀σ G H ρ,Rel K σ G H ρ→∀D,Z6 K W σ G H ρ D (m ρ)→t D σ H
section
variable {σ σ1:St} {G H G1 H1:Hp} {ρ ρ1:Env} {D:Ends}
theorem Stp.backS (S:Stp σ ρ G H σ1 ρ1 G1 H1) {a:Addr} (h:H1 a=none):H a=none:=by
 cases e:H a with
 | none=>rfl
 | some u=>exact absurd h (S.hn a (by rw[e];exact fun q=>nomatch q))
theorem qfC.step {G' H':Hp} {v:V} (S:Stp σ ρ G H σ1 ρ1 G1 H1):∀{l:L},qfC K σ1 ρ1 H1 G' H' v l→qfC K σ ρ H G' H' v l
 | .d _,h=>h
 | .m _,h=>⟨h.1,fun a e=>(h.2 a e).elim (fun z=>.inl (S.backS z)) fun z=>(S.om a z).elim .inr .inl⟩
 | .r _,h=>h
 | .p _,h=>h
 | .xh,h=>h
 | .u _ _,⟨t,va,vb,h1,h2,h3,h4,h5⟩=>⟨t,va,vb,h1,h2,h3,h4,fun a e=>(h5 a e).elim (fun z=>.inl (S.backS z)) fun z=>(S.om a z).elim .inr .inl⟩
theorem Z6.step (S:Stp σ ρ G H σ1 ρ1 G1 H1):∀{r:Res Fl},Z6 K W σ G H ρ D r→Z6 K W σ1 G1 H1 ρ1 D r
 | .ok .nx _,h=>fun σ' G' H' S'=>h σ' G' H' (S.trans S')
 | .ok .bk _,h=>fun σ' G' H' S'=>h σ' G' H' (S.trans S')
 | .ok .ct _,h=>fun σ' G' H' S'=>h σ' G' H' (S.trans S')
 | .ok (.rt _) _,h=>fun σ' v G' H' S' R' q=>h σ' v G' H' (S.trans S') R' (qfC.step S q)
 | .ex _ _,h=>fun c d σ' G' H' S'=>h c d σ' G' H' (S.trans S')
 | .bad,h=>h
theorem Z6.x {e:Exn} {ρ':Env} (h:Z6 K W σ G H ρ D (.ex e ρ')):Kl K W σ G H ρ e ρ':=fun c d G' H' S R q=>h c d σ G' H' S R q
end
def Qw:SM:=fun ρ=>.ok .nx ρ
theorem qil:Nt K W tNext Qw:=fun σ G H ρ R D h=>h σ G H (Stp.refl _ _ _ _) R
def qlk:SM:=fun ρ=>.ok .bk ρ
theorem qio:Nt K W tBreak qlk:=fun σ G H ρ R D h=>h σ G H (Stp.refl _ _ _ _) R
def Ql (m n:SM):SM:=fun ρ=>match m ρ with
 | .ok .nx ρ1=>n ρ1
 | r=>r
theorem qeV {t u:TS} {m n:SM} (ht:Nt K W t m) (hu:Nt K W u n):Nt K W (tSeq t u) (Ql m n):=fun σ G H ρ R D h=>by
 refine ht σ G H ρ R { D with nx:=u D } ?_;unfold Ql at h;cases e:m ρ with
 | bad=>rw[e]at h;exact h
 | ex x ρ1=>rw[e]at h;exact h
 | ok f ρ1=>
  rw[e]at h;cases f with
  | nx=>exact fun σ' G' H' S' R'=>hu σ' G' H' ρ1 R' D (Z6.step S' h)
  | bk=>exact h
  | ct=>exact h
  | rt l=>exact h
def sIf (c:TM) (m n:SM):SM:=fun ρ=>bindR (c ρ) fun b ρ1=>if b=true then m ρ1 else n ρ1
theorem qmI {tc:TT} {t u:TS} {c:TM} {m n:SM} (hc:Ie K W tc c) (ht:Nt K W t m) (hu:Nt K W u n):Nt K W (tIfS tc t u) (sIf c m n):=fun σ G H ρ R D h=>by
 unfold sIf bindR at h;refine hc.fst R (fun b ρ1 e G1 H1 S1 R1=>?_) (fun e ρ1 q=>by rw[q]at h;exact Z6.x h) (fun q=>by rw[q]at h;exact h);rw[e]at h;have h:=Z6.step S1 h;simp only at h;split at h
 ·rename_i hb;rw[if_pos hb];exact ht _ _ _ _ R1 _ h
 ·rename_i hb;rw[if_neg hb];exact hu _ _ _ _ R1 _ h
def Kj (m:EM):SM:=fun ρ=>bindR (m ρ) fun _ ρ1=>.ok .nx ρ1
theorem qf0 {t:TE} {m:EM} (ht:Yh K W t m):Nt K W (tDrop t) (Kj m):=fun σ G H ρ R D h=>by
 unfold Kj bindR at h;refine ht.fst R (fun b ρ1 e v G1 H1 S1 R1 x1=>?_) (fun e ρ1 q=>by rw[q]at h;exact Z6.x h) (fun q=>by rw[q]at h;exact h);rw[e]at h;have h:=Z6.step S1 h;exact h σ G1 H1 (Stp.refl _ _ _ _) R1
def J3 (m:EM):SM:=fun ρ=>bindR (m ρ) fun x ρ1=>match x with
 | .d x=>.ok (.rt (.d x)) ρ1
 | .s i=>match ρ1[i]? with
  | some (some (.m x))=>.ok (.rt (.m x)) (ρ1.set i none)
  | some (some (.d x))=>.ok (.rt (.d x)) ρ1
  | _=>.bad
theorem qik {t:TE} {m:EM} (ht:Yh K W t m):Nt K W (tRet t) (J3 m):=fun σ G H ρ R D h=>by
 unfold J3 bindR at h;refine ht.fst R (fun b ρ1 e v G1 H1 S1 R1 x1=>?_) (fun e ρ1 q=>by rw[q]at h;exact Z6.x h) (fun q=>by rw[q]at h;exact h);rw[e]at h;have h:=Z6.step S1 h;cases b with
 | d y=>exact h σ v G1 H1 (Stp.refl _ _ _ _) R1 x1
 | s i=>
  have hv:σ[i]?=some (some v):=x1;simp only at h;split at h
  ·rename_i x hx;obtain⟨u,h1,h2⟩:=R1.at_ i _ hx;rw[hv]at h1;cases Option.some.inj (Option.some.inj h1);obtain⟨S2,R2⟩:=zr (i:=i) R1 fun y q=>by rw[hx]at q;cases q
   refine h σ v G1 H1 S2 R2 ⟨h2,fun a ea=>?_⟩;subst ea;exact .inr ⟨i,_,hx,rfl,hv⟩
  ·rename_i x hx;obtain⟨u,h1,h2⟩:=R1.at_ i _ hx;rw[hv]at h1;cases Option.some.inj (Option.some.inj h1);exact h σ v G1 H1 (Stp.refl _ _ _ _) R1 h2
  ·exact h.elim
def Iy (m:FM):SM:=fun ρ=>bindR (m ρ) fun x ρ1=>.ok (.rt (.m x)) ρ1
theorem qfY {t:TE} {m:FM} (ht:yn K W t m):Nt K W (tRet t) (Iy m):=fun σ G H ρ R D h=>by
 unfold Iy bindR at h;refine ht.fst R (fun b ρ1 e v G1 H1 S1 R1 F=>?_) (fun e ρ1 q=>by rw[q]at h;exact Z6.x h) (fun q=>by rw[q]at h;exact h);rw[e]at h;exact h σ v G1 H1 S1 R1 ⟨F.1,fun a ea=>.inl (F.2 a ea).1⟩
abbrev GM:=D→Env→Option Env
structure Tg (js:List Nat) (σ σ':St) (ρ ρ':Env):Prop where
 len:σ'.length=σ.length
 out:∀i,i∉js→σ'[i]?=σ[i]?
 oue:∀i,i∉js→ρ'[i]?=ρ[i]?
 own:∀(i:Nat) (l:L),ρ'[i]?=some (some l)→l.own=true→ρ[i]?=some (some l)
theorem Tg.refl (js:List Nat) (σ:St) (ρ:Env):Tg js σ σ ρ ρ:=⟨rfl,fun _ _=>rfl,fun _ _=>rfl,fun _ _ h _=>h⟩
theorem Tg.trans {js ks:List Nat} {σ σ1 σ2:St} {ρ ρ1 ρ2:Env} (a:Tg js σ σ1 ρ ρ1) (b:Tg ks σ1 σ2 ρ1 ρ2):Tg (js++ks) σ σ2 ρ ρ2:=
 ⟨b.len.trans a.len,fun i h=>(b.out i fun z=>h (List.mem_append_right _ z)).trans (a.out i fun z=>h (List.mem_append_left _ z)),
  fun i h=>(b.oue i fun z=>h (List.mem_append_right _ z)).trans (a.oue i fun z=>h (List.mem_append_left _ z)),fun i l h o=>a.own i l (b.own i l h o) o⟩
def GOk (K:Kx) (js:List Nat) (g:TG) (gm:GM):Prop:=∀σ G H ρ v d ρ',Rel K σ G H ρ→Dq K G v d→gm d ρ=some ρ'→
 ∀Q:St→Hp→Prop,(∀σ',Tg js σ σ' ρ ρ'→Stp σ ρ G H σ' ρ' G H→Rel K σ' G H ρ'→Q σ' H)→g v σ H Q
def Qg (i:Nat):GM:=fun d ρ=>Lq ρ i (.d d)
theorem Vm (i:Nat):GOk K [i] (gName i) (Qg i):=fun σ G H ρ v d ρ' R q e Q h=>by
 obtain⟨S,R'⟩:=Bo R q e;obtain⟨e',_,hr⟩:=Te e;refine h _ ⟨List.length_set,fun j hj=>List.getElem?_set_ne (fun z=>hj (by rw[z];exact List.mem_singleton.mpr rfl)),fun j hj=>?_,fun j l hj ho=>?_⟩ S R'
 ·rw[e'];exact List.getElem?_set_ne (fun z=>hj (by rw[z];exact List.mem_singleton.mpr rfl))
 ·rw[e']at hj;rcases Xp hj with ⟨_,e⟩ | ⟨_,e⟩
  ·cases Option.some.inj e;cases ho
  ·exact e
abbrev GMs:=List D→Env→Option Env
def qk9 (K:Kx) (js:List Nat) (g:TGs) (gm:GMs):Prop:=∀σ G H ρ vs ds ρ',Rel K σ G H ρ→DqA K G vs ds→gm ds ρ=some ρ'→
 ∀Q:St→Hp→Prop,(∀σ',Tg js σ σ' ρ ρ'→Stp σ ρ G H σ' ρ' G H→Rel K σ' G H ρ'→Q σ' H)→g vs σ H Q
def Mq:GMs:=fun ds ρ=>match ds with
 | []=>some ρ
 | _=>none
def Zv (g:GM) (gs:GMs):GMs:=fun ds ρ=>match ds with
 | d::ds=>(match g d ρ with
  | some ρ1=>gs ds ρ1
  | none=>none)
 | []=>none
theorem qfj:qk9 K [] gNil Mq:=fun σ G H ρ vs ds ρ' R q e Q h=>by
 cases q with
 | nil=>
  cases Option.some.inj e;exact⟨rfl,h σ (Tg.refl _ _ _) (Stp.refl _ _ _ _) R⟩
 | cons _ _=>cases e
theorem xx {js ks:List Nat} {g:TG} {gs:TGs} {gm:GM} {gms:GMs} (hg:GOk K js g gm) (hs:qk9 K ks gs gms):qk9 K (js++ks) (gCons g gs) (Zv gm gms):=fun σ G H ρ vs ds ρ' R q e Q h=>by
 cases q with
 | nil=>cases e
 | cons q1 q2=>
  unfold Zv at e;simp only at e;split at e
  ·rename_i ρ1 e1;refine⟨_,_,rfl,hg _ _ _ _ _ _ _ R q1 e1 _ fun σ1 T1 S1 R1=>?_⟩;refine hs _ _ _ _ _ _ _ R1 q2 e _ fun σ2 T2 S2 R2=>?_;exact h σ2 (T1.trans T2) (S1.trans S2) R2
  ·cases e
def P0 (n:Nat) (gs:GMs):GM:=fun d ρ=>match d with
 | .tup ds=>if ds.length=n then gs ds ρ else none
 | _=>none
theorem qfk {js:List Nat} {n:Nat} {gs:TGs} {gms:GMs} (hs:qk9 K js gs gms):GOk K js (gTup K n gs) (P0 n gms):=fun σ G H ρ v d ρ' R q e Q h=>by
 unfold P0 at e;split at e
 ·rename_i ds;split at e
  ·rename_i hl;cases q with
   | tup hq qa=>
    exact⟨_,_,rfl,(Same.seqN R.same hq).sq,by rw[qa.length];exact hl,hs _ _ _ _ _ _ _ R qa e Q h⟩
  ·cases e
 ·cases e
def Xl (gm:GM) (m:EM):SM:=fun ρ=>bindR (m ρ) fun x ρ1=>match fz ρ1 x with
 | some (d,ρ2)=>(match gm d ρ2 with
  | some ρ3=>.ok .nx ρ3
  | none=>.bad)
 | none=>.bad
theorem y5 {js:List Nat} {t:TE} {g:TG} {m:EM} {gm:GM} (ht:Yh K W t m) (hg:GOk K js g gm):Nt K W (tAsg t g) (Xl gm m):=fun σ G H ρ R D h=>by
 unfold Xl bindR at h;refine ht.fst R (fun x ρ1 e v G1 H1 S1 R1 x1=>?_) (fun e ρ1 q=>by rw[q]at h;exact Z6.x h) (fun q=>by rw[q]at h;exact h);rw[e]at h;have h:=Z6.step S1 h;simp only at h;split at h
 ·rename_i d ρ2 e2;obtain⟨G2,S2,R2,q2⟩:=Nn R1 x1 e2;have h:=Z6.step S2 h;split at h
  ·rename_i ρ3 e3;exact hg _ _ _ _ _ _ _ R2 q2 e3 _ fun σ' T S R'=>h σ' G2 H1 S R'
  ·exact h.elim
 ·exact h.elim
def Pw (i:Nat) (m:FM):SM:=fun ρ=>bindR (m ρ) fun x ρ1=>match Lq ρ1 i (.m x) with
 | some ρ2=>.ok .nx ρ2
 | none=>.bad
theorem qf1 {i:Nat} {t:TE} {m:FM} (ht:yn K W t m):Nt K W (tAsg t (gName i)) (Pw i m):=fun σ G H ρ R D h=>by
 unfold Pw bindR at h;refine ht.fst R (fun x ρ1 e v G1 H1 S1 R1 F=>?_) (fun e ρ1 q=>by rw[q]at h;exact Z6.x h) (fun q=>by rw[q]at h;exact h);rw[e]at h;simp only at h;split at h
 ·rename_i ρ2 e2;obtain⟨S2,R2⟩:=qf5 S1 R1 F e2;exact h _ G1 H1 S2 R2
 ·exact h.elim
def qeY (i:Nat) (g:D→D→Option D) (m:EM):SM:=fun ρ=>match ρ[i]? with
 | some (some (.d a))=>bindR (m ρ) fun y ρ1=>(match look ρ1 y with
  | some b=>(match g a b with
   | some d=>(match Lq ρ1 i (.d d) with
    | some ρ2=>.ok .nx ρ2
    | none=>.bad)
   | none=>.bad)
  | none=>.bad)
 | _=>.bad
theorem qip {i:Nat} {g:D→D→Option D} {t:TE} {m:EM} (ht:Yh K W t m):Nt K W (tAug i t (rD2 K g)) (qeY i g m):=fun σ G H ρ R D h=>by
 unfold qeY at h;split at h
 ·rename_i a ha;obtain⟨v,h1,h2⟩:=R.at_ i _ ha;have h2:Dq K G v a:=h2;refine⟨v,h1,?_⟩;unfold bindR at h;refine ht.fst R (fun x ρ1 e u G1 H1 S1 R1 x1=>?_) (fun e ρ1 q=>by rw[q]at h;exact Z6.x h) (fun q=>by rw[q]at h;exact h);rw[e]at h;have h:=Z6.step S1 h;simp only at h;split at h
  ·rename_i b eb;split at h
   ·rename_i d hd;refine⟨G1,a,b,d,R1.same,Dq.vw R1.same (h2.mono S1.g),J5 R1 x1 eb,hd,fun w G' H' g q=>?_⟩;have h:=Z6.step (g.stp (σ:=σ) (ρ:=ρ1)) h;split at h
    ·rename_i ρ2 e2;obtain⟨S3,R3⟩:=Bo (R1.gro g) q e2;exact h _ _ _ S3 R3
    ·exact h.elim
   ·exact h.elim
  ·exact h.elim
 ·exact h.elim
def qaQ (ρ:Env) (i:Nat):Option (L×List D):=match ρ[i]? with
 | some (some (.m (.lst ds)))=>some (.m (.lst ds),ds)
 | some (some (.r (.lst ds)))=>some (.r (.lst ds),ds)
 | some (some (.p (.lst ds)))=>some (.p (.lst ds),ds)
 | _=>none
theorem B2 {σ:St} {G H:Hp} {ρ:Env} {i:Nat} {l:L} {ds:List D} (R:Rel K σ G H ρ) (h:qaQ ρ i=some (l,ds)) :
  ρ[i]?=some (some l)∧l.own=true∧∃a xs,σ[i]?=some (some (.ref a))∧G a=none∧H a=some (.lst xs)∧DqA K G xs ds:=by
 unfold qaQ at h;split at h
 ·rename_i es he;cases Option.some.inj h;obtain⟨v,h1,h2⟩:=R.at_ i _ he;obtain⟨a,xs,rfl,h3,h4,h5⟩:=(show MOk K G H v (.lst ds) from h2);exact⟨he,rfl,a,xs,h1,h3,h4,h5⟩
 ·rename_i es he;cases Option.some.inj h;obtain⟨v,h1,h2⟩:=R.at_ i _ he;obtain⟨a,xs,rfl,h3,h4,h5⟩:=(show MOk K G H v (.lst ds) from h2);exact⟨he,rfl,a,xs,h1,h3,h4,h5⟩
 ·rename_i es he;cases Option.some.inj h;obtain⟨v,h1,h2⟩:=R.at_ i _ he;obtain⟨a,xs,rfl,h3,h4,h5⟩:=(show MOk K G H v (.lst ds) from h2.1);exact⟨he,rfl,a,xs,h1,h3,h4,h5⟩
 ·cases h
theorem Gp {n:Nat} (h:n<mx):n<sizeLine:=Nat.lt_of_lt_of_le h (by decide)
def D2 (i:Nat) (m:EM):EM:=fun ρ=>if (qaQ ρ i).isSome=true then bindR (m ρ) fun x ρ1=>match fz ρ1 x with
 | some (d,ρ2)=>(match qaQ ρ2 i with
  | some (l,ds)=>if ds.length<mx then .ok (.d .non) (ρ2.set i (some (l.put (.lst (ds++[d]))))) else .bad
  | none=>.bad)
 | none=>.bad
 else .bad
theorem ty_list {a:Addr} {xs:List V} {H:Hp} (h:H a=some (.lst xs)):tyV K "list" (.ref a) H:=.inl ⟨rfl,xs,.inl (.inl h)⟩
theorem qkw {i:Nat} {t:TE} {m:EM} (ht:Yh K W t m):Yh K W (tBM K "list" rAppend (tVar i) (tCons t tNil)) (D2 i m):=fun σ G H ρ R Q h=>by
 unfold D2 at h;split at h
 ·rename_i hh;obtain⟨⟨l0,ds0⟩,hl0⟩:=Option.isSome_iff_exists.mp hh;obtain⟨_,_,a,xs,hv,_,hH,_⟩:=B2 R hl0;refine⟨_,hv,ty_list hH,?_⟩;unfold bindR at h;refine ht.fst R (fun x ρ1 e v G1 H1 S1 R1 x1=>?_) (fun e ρ1 q=>by rw[q]at h;exact h) (fun q=>by rw[q]at h;exact h);rw[e]at h;have h:=EPost.step S1 h;simp only at h;split at h
  ·rename_i d ρ2 e2;obtain⟨G2,S2,R2,q2⟩:=Nn R1 x1 e2;have h:=EPost.step S2 h;split at h
   ·rename_i l ds hl;split at h
    ·rename_i hz;obtain⟨k1,k2,b,ys,kv,kG,kH,kq⟩:=B2 R2 hl;rw[hv]at kv;cases Option.some.inj (Option.some.inj kv);refine⟨a,ys,v,rfl,rfl,kH,by rw[kq.length];exact Gp hz,?_⟩;obtain⟨S3,R3⟩:=E7 (x':=.lst (ds++[d])) (o:=.lst (ys++[v])) R2 k1 k2 hv ⟨a,_,rfl,kG,upd_same,kq.append (.one q2)⟩;exact h _ _ _ S3 R3 .non
    ·exact h.elim
   ·exact h.elim
  ·exact h.elim
 ·exact h.elim
def qc2 (i:Nat):EM:=fun ρ=>match qaQ ρ i with
 | some (l,ds)=>(match ds.getLast? with
  | some d=>.ok (.d d) (ρ.set i (some (l.put (.lst ds.dropLast))))
  | none=>.bad)
 | none=>.bad
theorem qkl {i:Nat}:Yh K W (tBM0 K "list" rPop (tVar i)) (qc2 i):=fun σ G H ρ R Q h=>by
 unfold qc2 at h;split at h
 ·rename_i l ds hl;obtain⟨k1,k2,a,ys,hv,kG,kH,kq⟩:=B2 R hl;split at h
  ·rename_i d hd;rw[List.getLast?_eq_getElem?]at hd;obtain⟨v,h1,h2⟩:=kq.get hd;refine⟨_,hv,ty_list kH,a,ys,v,rfl,rfl,kH,by rw[kq.length];exact h1,?_⟩;obtain⟨S3,R3⟩:=E7 (x':=.lst ds.dropLast) (o:=.lst ys.dropLast) R k1 k2 hv ⟨a,_,rfl,kG,upd_same,kq.dropLast⟩;exact h _ _ _ S3 R3 h2
  ·exact h.elim
 ·exact h.elim
def qsx (i:Nat) (m:EM):EM:=fun ρ=>if (qaQ ρ i).isSome=true then bindR (m ρ) fun x ρ1=>match x,qaQ ρ1 i with
 | .d (.int j),some (l,ds)=>if -(2 ^ 63)≤j∧j<2 ^ 63 then (match seqIndex? j ds.length with
  | some k=>(match ds[k]? with
   | some d=>.ok (.d d) (ρ1.set i (some (l.put (.lst (ds.eraseIdx k)))))
   | none=>.bad)
  | none=>.bad) else .bad
 | _,_=>.bad
 else .bad
def Iw (i:Nat) (mi mv:EM):SM:=fun ρ=>bindR (mv ρ) fun x ρ1=>match fz ρ1 x with
 | some (d,ρ2)=>if (qaQ ρ2 i).isSome=true then bindR (mi ρ2) fun y ρ3=>(match y,qaQ ρ3 i with
  | .d (.int j),some (l,ds)=>(match ixN ds.length j with
   | some k=>.ok .nx (ρ3.set i (some (l.put (.lst (ds.set k d)))))
   | none=>.bad)
  | _,_=>.bad) else .bad
 | none=>.bad
theorem qfU {i:Nat} {tv ti:TE} {mv mi:EM} (hv:Yh K W tv mv) (hi:Yh K W ti mi):Nt K W (tAsg tv (gSub (tVar i) ti rSetL)) (Iw i mi mv):=fun σ G H ρ R D h=>by
 unfold Iw bindR at h;refine hv.fst R (fun x ρ1 e v G1 H1 S1 R1 x1=>?_) (fun e ρ1 q=>by rw[q]at h;exact Z6.x h) (fun q=>by rw[q]at h;exact h);rw[e]at h;have h:=Z6.step S1 h;simp only at h;split at h
 ·rename_i d ρ2 e2;obtain⟨G2,S2,R2,q2⟩:=Nn R1 x1 e2;have h:=Z6.step S2 h;split at h
  ·rename_i hh;obtain⟨⟨l0,ds0⟩,hl0⟩:=Option.isSome_iff_exists.mp hh;obtain⟨_,_,a,xs,hv,_,_,_⟩:=B2 R2 hl0;refine⟨_,hv,?_⟩;refine hi.fst R2 (fun y ρ3 e3 u G3 H3 S3 R3 x3=>?_) (fun e ρ1 q=>by rw[q]at h;exact Z6.x h) (fun q=>by rw[q]at h;exact h);rw[e3]at h;have h:=Z6.step S3 h;simp only at h;rcases hl:qaQ ρ3 i with _ | ⟨l,ds⟩
   ·rw[hl]at h;cases y with
    | s _=>exact h.elim
    | d z=>cases z<;>exact h.elim
   rw[hl]at h;cases y with
   | s _=>exact h.elim
   | d z=>
    cases z<;>first | exact h.elim | skip
    simp only at h;split at h
    ·rename_i k hk;obtain⟨k1,k2,b,ys,kv,kG,kH,kq⟩:=B2 R3 hl;rw[hv]at kv;cases Option.some.inj (Option.some.inj kv);cases x3;refine⟨a,ys,_,k,rfl,rfl,kH,by rw[kq.length];exact hk,?_⟩;obtain⟨S4,R4⟩:=E7 (x':=.lst (ds.set k d)) (o:=.lst (ys.set k v)) R3 k1 k2 hv ⟨a,_,rfl,kG,upd_same,kq.set k (q2.mono S3.g)⟩;exact h _ _ _ S4 R4
    ·exact h.elim
  ·exact h.elim
 ·exact h.elim
end DL
namespace L2
open PySem PySem.Spec PyProof.Rows
theorem qch {P:Program} {w:World} {K:PySem.W.Frag} {tg:Expr} (it:Addr) (lo:Int) (n:Nat):Turn P w K tg (Itr lo n) [it] it (fun i g=>IsLongIter g it (lo+(i:Nat)*1) ((n:Int)-(i:Nat)) 1) where
 mem:=List.mem_singleton.mpr rfl
 obj:=fun i g st b hb=>by
  cases List.mem_singleton.mp hb;exact⟨_,st,fun v z=>by
   have z':Data.fields _=Data.cell v:=z;cases z'⟩
 keep:=fun i g g' st k=>k it (List.mem_singleton.mpr rfl) _ st
 item:=by
  intro X hP hw hK hc i pins s σ H E I hf st hg;subst hP hw hK;have hf1:=hf it (List.mem_singleton.mpr rfl);have W:=Walks.longrange (prog:=X.prog) (w:=X.w) (I.ok.hd hc) it lo 1 n;refine W.item i s _ _ hg st fun v g' tk hv st' kk=>?_;obtain⟨t,rfl⟩:=hv;have I1:Inv X pins σ H { s with heap:=g',toks:=tk }:=I.turned (fun b o hb e=>kk b o (fun z=>hb (List.mem_singleton.mp z)) e) hf1.1 hf1.2.1 hf1.2.2.2.1 hf1.2.2.2.2.1 hf1.2.2.2.2.2;refine⟨_,rfl,go_of (s:={ s with heap:=g',toks:=tk }) (n:="longrange_iterator") st' rfl rfl (by decide) ⟨.int (lo+i),H,I1,⟨t,?_⟩,⟨rfl,rfl⟩,st',fun b hb=>(hf b hb).1⟩⟩;rw[Int.mul_one]
 done:=by
  intro X hP hw hK hc i pins s σ H E I hf st hg;subst hP hw hK;have hf1:=hf it (List.mem_singleton.mpr rfl);exact wpAny_pyNext_long_end (I.ok.hd hc) st (by have:n≤i:=hg;omega) fun g' eb=>⟨rfl,I.turned (t':=s.toks) (fun b o hb e=>eb b o hb e) hf1.1 hf1.2.1 hf1.2.2.2.1 hf1.2.2.2.2.1 hf1.2.2.2.2.2⟩
 self:=fun _ _ _ _ _ st q=>wpAny_pyIter_longiter st q
section
variable {X:Cx} {tg:Expr}
theorem qiw {pins:List (Addr×Obj)} {σ:St} {H:Hp} {s:Shared} {R:It→Hp→Prop} {E:Value→Shared→Prop} {lo hi:Int} {t u v:Tok} {tk:Nat} (I:Inv X pins σ H s) (q:R (Itr lo (hi-lo).toNat) H) :
  wpAny (model X.prog X.w) X.A (pyIter (.ref s.heap.objs.size)) (PIE X pins σ tg R) E { s with heap:=s.heap.push { cls:=.type "range",data:=.fields #[.int lo t,.int hi u,.int 1 v] },toks:=tk }:=by
 have I1:Inv X pins σ H { s with heap:=s.heap.push { cls:=.type "range",data:=.fields #[.int lo t,.int hi u,.int 1 v] },toks:=tk }:=I.kept fun b o e=>Heap.get?_push_of_some _ e;have e1:lo+((0:Nat):Int)*1=lo:=by omega
 have e2:(((hi-lo).toNat:Nat):Int)-((0:Nat):Int)=Builtin.Range.rangeSize lo hi 1:=by rw[rangeSize_one];split<;>omega
 cases hs:Builtin.Range.small lo hi 1 with
 | true=>
  refine wpAny_pyIter_range (IsRange.new ..) hs ?_;refine⟨_,[_],_,_,H,rfl,I1.kept (t':=tk) fun b o e=>Heap.get?_push_of_some _ e,turn_range _ lo (hi-lo).toNat,?_,fun b hb=>?_,q⟩
  ·show IsRangeIter _ _ (lo+((0:Nat):Int)*1) ((((hi-lo).toNat:Nat):Int)-((0:Nat):Int)) 1;rw[e1,e2];exact Heap.get?_push_size _ rfl
  ·cases List.mem_singleton.mp hb;exact I1.fpOk (Nat.le_refl _) (I1.hok.fresh (Nat.le_refl _))
 | false=>
  refine wpAny_pyIter_longrange (IsRange.new ..) hs ?_;refine⟨_,[_],_,_,H,rfl,I1.kept (t':=tk) fun b o e=>Heap.get?_push_of_some _ e,qch _ lo (hi-lo).toNat,?_,fun b hb=>?_,q⟩
  ·show IsLongIter _ _ (lo+((0:Nat):Int)*1) ((((hi-lo).toNat:Nat):Int)-((0:Nat):Int)) 1;rw[e1,e2];exact Heap.get?_push_size _ rfl
  ·cases List.mem_singleton.mp hb;exact I1.fpOk (Nat.le_refl _) (I1.hok.fresh (Nat.le_refl _))
def qjV (ta:TA):TI:=fun σ H R=>ta σ H fun vs H1=>∃j:Int,vs=[.int j]∧R (Itr 0 j.toNat) H1
def qjU (ta:TA):TI:=fun σ H R=>ta σ H fun vs H1=>∃i j:Int,vs=[.int i,.int j]∧R (Itr i (j-i).toNat) H1
theorem qbR {a:Expr} {ta:TA} {p pos:Pos} (hg:Gl X "range") (hm:X.mg "range"=none) (ha:PA X [a] ta) (hs:starEach [a] X.env=[(false,eval a X.env)]:=by rfl):PI X tg (.Call (.Name "range" p) [a] [] pos) (qjV ta):=by
 refine⟨fun pins s σ H R I g=>?_⟩;refine Call_ (ld_blt I hg hm boot_range (PyProof.Rows.callWith_type1 (thn (ha.run pos pins s σ H _ I g) fun us s1 ⟨vs,H1,I1,r1,j,e,q⟩=>?_) hs rfl));subst e;cases r1 with
 | cons r rr=>
  cases rr;obtain⟨t,rfl⟩:=r;exact call_range_1 (qiw I1 (by simpa using q))
theorem qbQ {a b:Expr} {ta:TA} {p pos:Pos} (hg:Gl X "range") (hm:X.mg "range"=none) (ha:PA X [a,b] ta) (hs:starEach [a,b] X.env=[(false,eval a X.env),(false,eval b X.env)]:=by rfl) (hs2:starEach [b] X.env=[(false,eval b X.env)]:=by rfl) :
  PI X tg (.Call (.Name "range" p) [a,b] [] pos) (qjU ta):=by
 refine⟨fun pins s σ H R I g=>?_⟩;refine Call_ (ld_blt I hg hm boot_range (PyProof.Rows.callWith_type1 (thn (ha.run pos pins s σ H _ I g) fun us s1 ⟨vs,H1,I1,r1,i,j,e,q⟩=>?_) (by rw[hs,hs2]) (by rw[hs2];rfl)));subst e;cases r1 with
 | cons r rr=>
  cases rr with
  | cons r' rr=>
   cases rr;obtain⟨t,rfl⟩:=r;obtain⟨t',rfl⟩:=r';exact call_range_2 (qiw I1 q)
end
end L2
namespace DL
open PySem L2
variable {K:Kx} {W:WX}
abbrev IM:=Env→Res (List D)
def Walk (K:Kx) (G:Hp) (J:It) (ds:List D):Prop:=∀G1 H1,Same G G1→Same G1 H1→
 (∀i d,ds[i]?=some d→J.go i H1∧∀x H',J.yld i H1 x H'→∃G2,Gro G1 H1 G2 H'∧Dq K G2 x d)∧J.stop ds.length H1
def Ry (K:Kx) (W:WX) (σ:St) (G H:Hp) (ρ:Env) (Q:It→Hp→Prop):Res (List D)→Prop
 | .ok ds ρ'=>∀J G' H',Stp σ ρ G H σ ρ' G' H'→Rel K σ G' H' ρ'→Walk K G' J ds→Q J H'
 | .ex e ρ'=>Kl K W σ G H ρ e ρ'
 | .bad=>False
def qds (K:Kx) (W:WX) (t:TI) (m:IM):Prop:=∀σ G H ρ,Rel K σ G H ρ→∀Q,Ry K W σ G H ρ Q (m ρ)→t σ H Q
theorem Ry.step {σ:St} {G H G1 H1:Hp} {ρ ρ1:Env} {Q:It→Hp→Prop} (S:Stp σ ρ G H σ ρ1 G1 H1):∀{r:Res (List D)},Ry K W σ G H ρ Q r→Ry K W σ G1 H1 ρ1 Q r
 | .ok _ _,h=>fun J G' H' S'=>h J G' H' (S.trans S')
 | .ex _ _,h=>Kl.step S h
 | .bad,h=>h
theorem qds.fst {σ:St} {G H:Hp} {ρ:Env} {t:TI} {m:IM} (h:qds K W t m) (R:Rel K σ G H ρ) {T:It→Hp→Prop}
  (k:∀x ρ1,m ρ=.ok x ρ1→∀J G1 H1,Stp σ ρ G H σ ρ1 G1 H1→Rel K σ G1 H1 ρ1→Walk K G1 J x→T J H1) (kx:∀e ρ1,m ρ=.ex e ρ1→Kl K W σ G H ρ e ρ1) (kb:m ρ≠.bad):t σ H T:=by
 refine h σ G H ρ R T ?_;cases e:m ρ with
 | ok x ρ1=>exact fun J G1 H1 S R X=>k x ρ1 e J G1 H1 S R X
 | ex e' ρ1=>exact kx e' ρ1 e
 | bad=>exact absurd e kb
def qsa (K:PySem.W.Frag) (tl:TE):TI:=fun σ H R=>tl σ H fun x H1=>(∃a,x=.ref a∧(∃xs,SqL K H1 a xs)∧R (Itl K a) H1)∨(∃a,x=.ref a∧(∃xs,SqT K H1 a xs)∧R (Itt K a) H1)
theorem qiM {X:Cx} {tg l:Expr} {tl:TE} (hl:PE X l tl):PI X tg l (qsa X.K tl):=by
 refine⟨fun pins s σ H R I h=>?_⟩;refine thn (hl.run pins s σ H _ I h) fun v s1 ⟨x,H1,I1,r1,q1⟩=>?_;rcases q1 with ⟨a,e,⟨xs,hq⟩,q⟩ | ⟨a,e,⟨xs,hq⟩,q⟩
 ·subst e;cases r1;obtain⟨its,rv,p,hz⟩:=I1.list hq;refine wpAny_pyIter_list p.isList ?_;refine⟨s1.heap.objs.size,[s1.heap.objs.size],_,_,H1,rfl,I1.kept (t':=s1.toks) fun b o e=>Heap.get?_push_of_some _ e,turn_list a _,⟨_,Heap.get?_push_size _ rfl,rfl,rfl⟩,fun b hb=>?_,q⟩;have e:b=s1.heap.objs.size:=by simpa using hb
  subst e;exact I1.fpOk (Nat.le_refl _) (I1.hok.fresh (Nat.le_refl _))
 ·subst e;cases r1;obtain⟨its,rv,p,hz⟩:=I1.tuple hq;refine wpAny_pyIter_tuple (show s1.heap.IsTuple a its.toArray from p) ?_;refine⟨s1.heap.objs.size,[s1.heap.objs.size],_,_,H1,rfl,I1.kept (t':=s1.toks) fun b o e=>Heap.get?_push_of_some _ e,turn_tuple a _,⟨_,Heap.get?_push_size _ rfl,rfl,rfl⟩,fun b hb=>?_,q⟩;have e:b=s1.heap.objs.size:=by simpa using hb
  subst e;exact I1.fpOk (Nat.le_refl _) (I1.hok.fresh (Nat.le_refl _))
def Ge (m:EM):IM:=fun ρ=>bindR (m ρ) fun x ρ1=>match fz ρ1 x with
 | some (.lst ds,ρ2)=>.ok ds ρ2
 | some (.ro ds,ρ2)=>.ok ds ρ2
 | some (.tup ds,ρ2)=>.ok ds ρ2
 | _=>.bad
theorem qjX {t:TE} {m:EM} (ht:Yh K W t m):qds K W (qsa K t) (Ge m):=fun σ G H ρ R Q h=>by
 unfold Ge bindR at h;refine ht.fst R (fun x ρ1 e v G1 H1 S1 R1 x1=>?_) (fun e ρ1 q=>by rw[q]at h;exact h) (fun q=>by rw[q]at h;exact h);rw[e]at h;have h:=Ry.step S1 h;simp only at h;split at h
 ·rename_i ds ρ2 e2;obtain⟨G2,S2,R2,q2⟩:=Nn R1 x1 e2;have h:=Ry.step S2 h;cases q2 with
  | lst hq' ha=>
   rename_i a xs;have hq:SqL K.k G2 a xs:=.inl (.inl hq');refine .inl ⟨a,rfl,⟨xs,R2.same.seq hq⟩,h _ G2 H1 (Stp.refl _ _ _ _) R2 fun G3 H3 s1 s2=>⟨fun i d hd=>?_,?_⟩⟩
   ·obtain⟨u,h1,h2⟩:=ha.get hd;refine⟨⟨xs,u,s2.seq (s1.seq hq),h1⟩,fun y H' ⟨e1,e2⟩=>?_⟩;subst e1;have e3:=e2 xs (s2.seq (s1.seq hq));rw[h1]at e3;cases Option.some.inj e3;exact⟨G3,Gro.refl s2,h2.mono s1⟩
   ·exact⟨xs,s2.seq (s1.seq hq),by rw[ha.length];exact Nat.le_refl _⟩
 ·rename_i ds ρ2 e2;obtain⟨G2,S2,R2,q2⟩:=Nn R1 x1 e2;have h:=Ry.step S2 h;cases q2 with
  | ro hq ha=>
   rename_i a xs;refine .inl ⟨a,rfl,⟨xs,R2.same.seq hq⟩,h _ G2 H1 (Stp.refl _ _ _ _) R2 fun G3 H3 s1 s2=>⟨fun i d hd=>?_,?_⟩⟩
   ·obtain⟨u,h1,h2⟩:=ha.get hd;refine⟨⟨xs,u,s2.seq (s1.seq hq),h1⟩,fun y H' ⟨e1,e2⟩=>?_⟩;subst e1;have e3:=e2 xs (s2.seq (s1.seq hq));rw[h1]at e3;cases Option.some.inj e3;exact⟨G3,Gro.refl s2,h2.mono s1⟩
   ·exact⟨xs,s2.seq (s1.seq hq),by rw[ha.length];exact Nat.le_refl _⟩
 ·rename_i ds ρ2 e2;obtain⟨G2,S2,R2,q2⟩:=Nn R1 x1 e2;have h:=Ry.step S2 h;cases q2 with
  | tup hq ha=>
   rename_i a xs;refine .inr ⟨a,rfl,⟨xs,(Same.seqN R2.same hq).sq⟩,h _ G2 H1 (Stp.refl _ _ _ _) R2 fun G3 H3 s1 s2=>⟨fun i d hd=>?_,?_⟩⟩
   ·obtain⟨u,h1,h2⟩:=ha.get hd;refine⟨⟨xs,u,(Same.seqN s2 (Same.seqN s1 hq)).sq,h1⟩,fun y H' ⟨e1,e2⟩=>?_⟩;subst e1;have e3:=e2 xs ((Same.seqN s2 (Same.seqN s1 hq)).sq);rw[h1]at e3;cases Option.some.inj e3;exact⟨G3,Gro.refl s2,h2.mono s1⟩
   ·exact⟨xs,(Same.seqN s2 (Same.seqN s1 hq)).sq,by rw[ha.length];exact Nat.le_refl _⟩
 ·exact h.elim
def Z4 (lo:Int) (n:Nat):List D:=(List.range n).map fun (k:Nat)=>D.int (lo+(k:Int))
theorem Ol {G:Hp} (lo:Int) (n:Nat):Walk K G (Itr lo n) (Z4 lo n):=fun G1 H1 _ s2=>by
 refine⟨fun i d hd=>?_,?_⟩
 ·unfold Z4 at hd;rw[List.getElem?_map]at hd;by_cases hi:i<n
  ·rw[List.getElem?_range hi]at hd;cases Option.some.inj hd;refine⟨hi,fun x H' ⟨e1,e2⟩=>?_⟩;subst e1;subst e2;exact⟨G1,Gro.refl s2,.int _⟩
  ·rw[List.getElem?_eq_none (by simpa using hi)]at hd;cases hd
 ·show n≤(Z4 lo n).length;unfold Z4;simp
def qbI (j:Int):Prop:=j=j
instance (j:Int):Decidable (qbI j):=inferInstanceAs (Decidable (_=_))
def Dx (ma:AM):IM:=fun ρ=>bindR (ma ρ) fun xs ρ1=>match xs with
 | [.d (.int j)]=>if qbI j then .ok (Z4 0 j.toNat) ρ1 else .bad
 | _=>.bad
theorem qgX {t:TA} {m:AM} (ht:R8 K W t m):qds K W (qjV t) (Dx m):=fun σ G H ρ R Q h=>by
 unfold Dx bindR at h;refine ht.fst R (fun x ρ1 e v G1 H1 S1 R1 x1=>?_) (fun e ρ1 q=>by rw[q]at h;exact h) (fun q=>by rw[q]at h;exact h);rw[e]at h;have h:=Ry.step S1 h;simp only at h;split at h
 ·split at h
  ·rename_i hz;cases x1 with
   | cons y1 y2=>
    cases y2;cases y1;exact⟨_,rfl,h _ G1 H1 (Stp.refl _ _ _ _) R1 (Ol _ _)⟩
  ·exact h.elim
 ·exact h.elim
def qaY (ma:AM):IM:=fun ρ=>bindR (ma ρ) fun xs ρ1=>match xs with
 | [.d (.int i),.d (.int j)]=>if qbI i∧qbI j then .ok (Z4 i (j-i).toNat) ρ1 else .bad
 | _=>.bad
theorem qgW {t:TA} {m:AM} (ht:R8 K W t m):qds K W (qjU t) (qaY m):=fun σ G H ρ R Q h=>by
 unfold qaY bindR at h;refine ht.fst R (fun x ρ1 e v G1 H1 S1 R1 x1=>?_) (fun e ρ1 q=>by rw[q]at h;exact h) (fun q=>by rw[q]at h;exact h);rw[e]at h;have h:=Ry.step S1 h;simp only at h;split at h
 ·split at h
  ·rename_i hz;cases x1 with
   | cons y1 y2=>
    cases y2 with
    | cons y2 y3=>
     cases y3;cases y1;cases y2;exact⟨_,_,rfl,h _ G1 H1 (Stp.refl _ _ _ _) R1 (Ol _ _)⟩
  ·exact h.elim
 ·exact h.elim
def Zy (gm:GM) (b:SM):List D→SM
 | []=>fun ρ=>.ok .nx ρ
 | d::ds=>fun ρ=>match gm d ρ with
  | none=>.bad
  | some ρ1=>(match b ρ1 with
   | .ok .nx ρ2=>Zy gm b ds ρ2
   | .ok .ct ρ2=>Zy gm b ds ρ2
   | .ok .bk ρ2=>.ok .nx ρ2
   | r=>r)
def N7 (im:IM) (gm:GM) (b:SM):SM:=fun ρ=>bindR (im ρ) fun ds ρ1=>Zy gm b ds ρ1
theorem Bb {α:Type} {xs:List α} {i:Nat} {x:α} (h:xs[i]?=some x):xs.drop i=x::xs.drop (i+1):=by
 obtain⟨hi,e⟩:=List.getElem?_eq_some_iff.mp h;rw[List.drop_eq_getElem_cons hi,e]
theorem qim {js:List Nat} {wi:TI} {g:TG} {tb:TS} {im:IM} {gm:GM} {b:SM} (hi:qds K W wi im) (hg:GOk K js g gm) (hb:Nt K W tb b):Nt K W (tFor wi g tb) (N7 im gm b):=fun σ G H ρ R D h=>by
 unfold N7 bindR at h;refine hi.fst R (fun ds ρ1 e J G1 H1 S1 R1 wk=>?_) (fun e ρ1 q=>by rw[q]at h;exact Z6.x h) (fun q=>by rw[q]at h;exact h);rw[e]at h;have h:=Z6.step S1 h;simp only at h;refine⟨fun i m σ' H'=>m=ds.length-i∧i≤ds.length∧∃G' ρ',Same G1 G'∧Rel K σ' G' H' ρ'∧Z6 K W σ' G' H' ρ' D (Zy gm b (ds.drop i) ρ'),⟨ds.length,by simp,Nat.zero_le _,G1,ρ1,Same.refl _,R1,by simpa using h⟩,?_⟩;rintro i m σ' H' ⟨rfl,hi,G',ρ',sG,R',h'⟩;obtain⟨go,stop⟩:=wk G' H' sG R'.same;by_cases hlt:i<ds.length
 ·obtain⟨d,hd⟩:∃d,ds[i]?=some d:=⟨ds[i],List.getElem?_eq_getElem hlt⟩;obtain⟨hgo,hy⟩:=go i d hd;refine .inr ⟨hgo,fun σ2 H2=>∃G2 ρ2,Same G1 G2∧Rel K σ2 G2 H2 ρ2∧Z6 K W σ2 G2 H2 ρ2 D (Zy gm b (ds.drop (i+1)) ρ2),fun σ2 H2 ⟨G2,ρ2,s2,R2,h2⟩=>⟨ds.length-(i+1),by omega,rfl,hlt,G2,ρ2,s2,R2,h2⟩,fun x H2 y=>?_⟩;obtain⟨G2,gr,q2⟩:=hy x H2 y;rw[Bb hd]at h';unfold Zy at h';have h':=Z6.step gr.stp h';have R2:=R'.gro gr;split at h'
  ·exact h'.elim
  ·rename_i ρ2 e2;refine hg _ _ _ _ _ _ _ R2 q2 e2 _ fun σ2 T S3 R3=>?_;have h':=Z6.step S3 h';refine hb σ2 G2 H2 ρ2 R3 _ ?_;have sg:Same G1 G2:=sG.trans gr.g;cases eb:b ρ2 with
   | bad=>rw[eb]at h';exact h'
   | ex x ρ3=>rw[eb]at h';exact h'
   | ok f ρ3=>
    rw[eb]at h';cases f with
    | nx=>exact fun σ4 G4 H4 S4 R4=>⟨G4,ρ3,sg.trans S4.g,R4,Z6.step S4 h'⟩
    | ct=>exact fun σ4 G4 H4 S4 R4=>⟨G4,ρ3,sg.trans S4.g,R4,Z6.step S4 h'⟩
    | bk=>exact fun σ4 G4 H4 S4 R4=>h' σ4 G4 H4 S4 R4
    | rt l=>exact h'
 ·have ei:i=ds.length:=by omega
  subst ei;rw[List.drop_length]at h';exact .inl ⟨stop,h' σ' G' H' (Stp.refl _ _ _ _) R'⟩
def Vb (ρ:Env):List Nat→Env
 | []=>ρ
 | j::js=>(Vb ρ js).set j none
def J4 (ρ0 ρ:Env):List Nat→Env
 | []=>ρ
 | j::js=>match ρ0[j]? with
  | some o=>(J4 ρ0 ρ js).set j o
  | none=>J4 ρ0 ρ js
def clean (ρ:Env):List Nat→Bool
 | []=>true
 | j::js=>(match ρ[j]? with
  | some none=>true
  | some (some (.d _))=>true
  | _=>false) && clean ρ js
def qbl (js:List Nat) (gm:GM) (mt:TM) (me:EM) (ρ0:Env):List D→List D→Env→Res (List D)
 | [],acc,ρ=>.ok acc ρ
 | d::ds,acc,ρ=>match gm d (Vb ρ js) with
  | none=>.bad
  | some ρ1=>bindR (mt ρ1) fun t ρ2=>if t=true then bindR (me ρ2) fun x ρ3=>(match fz ρ3 x with
    | some (y,ρ4)=>if acc.length<mx then qbl js gm mt me ρ0 ds (acc++[y]) (J4 ρ0 ρ4 js) else .bad
    | none=>.bad)
   else qbl js gm mt me ρ0 ds acc (J4 ρ0 ρ2 js)
def fLc (im:IM) (js:List Nat) (gm:GM) (mt:TM) (me:EM):FM:=fun ρ=>bindR (im ρ) fun ds ρ1=>if clean ρ1 js=true then (match qbl js gm mt me ρ1 ds [] ρ1 with
  | .ok acc ρ2=>.ok (.lst acc) ρ2
  | _=>.bad) else .bad
theorem Er {ρ:Env} {i:Nat}:∀{js:List Nat},i∉js→(Vb ρ js)[i]?=ρ[i]?
 | [],_=>rfl
 | j::js,h=>by
  unfold Vb;rw[List.getElem?_set_ne (fun z=>h (by rw[z];exact List.mem_cons_self))];exact Er fun z=>h (List.mem_cons_of_mem _ z)
theorem Ep {ρ:Env}:∀{js:List Nat},(Vb ρ js).length=ρ.length
 | []=>rfl
 | j::js=>by unfold Vb;rw[List.length_set,Ep]
theorem Km {ρ:Env} {i:Nat} {l:L}:∀{js:List Nat},(Vb ρ js)[i]?=some (some l)→ρ[i]?=some (some l)∧i∉js
 | [],h=>⟨h,by simp⟩
 | j::js,h=>by
  unfold Vb at h;rcases Xp h with ⟨_,e⟩ | ⟨hne,e⟩
  ·cases e
  ·obtain⟨h1,h2⟩:=Km e;exact⟨h1,by simp only[List.mem_cons,not_or];exact⟨fun e=>hne e.symm,h2⟩⟩
theorem Wo {σ:St} {i:Nat}:∀{js:List Nat},i∉js→(wipe σ js)[i]?=σ[i]?
 | [],_=>rfl
 | j::js,h=>by
  unfold wipe;rw[List.getElem?_set_ne (fun z=>h (by rw[z];exact List.mem_cons_self))];exact Wo fun z=>h (List.mem_cons_of_mem _ z)
theorem jo {σ:St} {i:Nat}:∀{js:List Nat},i∈js→i < σ.length→(wipe σ js)[i]?=some none
 | [],h,_=>by cases h
 | j::js,h,hl=>by
  unfold wipe;by_cases e:j=i
  ·subst e;rw[List.getElem?_set_self (by rw[wipe_length];exact hl)]
  ·rw[List.getElem?_set_ne e];rcases List.mem_cons.mp h with q | q
   ·exact absurd q.symm e
   ·exact jo q hl
theorem Ip {σ σ':St} {js:List Nat} (hl:σ'.length=σ.length) (h:∀i,i∉js→σ'[i]?=σ[i]?):wipe σ' js=wipe σ js:=by
 apply List.ext_getElem?;intro i;by_cases hi:i∈js
 ·by_cases hlt:i < σ.length
  ·rw[jo hi hlt,jo hi (by rw[hl];exact hlt)]
  ·rw[List.getElem?_eq_none (by rw[wipe_length,hl];omega),List.getElem?_eq_none (by rw[wipe_length];omega)]
 ·rw[Wo hi,Wo hi,h i hi]
theorem V6 {ρ0 ρ:Env}:∀{js:List Nat},(J4 ρ0 ρ js).length=ρ.length
 | []=>rfl
 | j::js=>by
  unfold J4;split
  ·rw[List.length_set,V6]
  ·exact V6
theorem Ml {ρ0 ρ:Env} {i:Nat}:∀{js:List Nat},i∉js→(J4 ρ0 ρ js)[i]?=ρ[i]?
 | [],_=>rfl
 | j::js,h=>by
  have h2:i∉js:=fun z=>h (List.mem_cons_of_mem _ z);unfold J4;split
  ·rw[List.getElem?_set_ne (fun z=>h (by rw[z];exact List.mem_cons_self))];exact Ml h2
  ·exact Ml h2
theorem U0 {ρ0 ρ:Env} {i:Nat} (hl:ρ.length=ρ0.length):∀{js:List Nat},i∈js→(J4 ρ0 ρ js)[i]?=ρ0[i]?
 | [],h=>by cases h
 | j::js,h=>by
  unfold J4;by_cases e:j=i
  ·subst e;split
   ·rename_i o ho;rw[List.getElem?_set_self (by rw[V6,hl];exact (List.getElem?_eq_some_iff.mp ho).1),ho]
   ·rename_i ho;rw[ho,List.getElem?_eq_none (by rw[V6,hl];exact List.getElem?_eq_none_iff.mp ho)]
  ·have h2:i∈js:=by
    rcases List.mem_cons.mp h with q | q
    ·exact absurd q.symm e
    ·exact q
   split
   ·rw[List.getElem?_set_ne e];exact U0 hl h2
   ·exact U0 hl h2
theorem Bf {ρ:Env} {i:Nat} {l:L}:∀{js:List Nat},clean ρ js=true→i∈js→ρ[i]?=some (some l)→l.own=false
 | [],_,h,_=>by cases h
 | j::js,hc,h,hl=>by
  unfold clean at hc;rw[Bool.and_eq_true]at hc;rcases List.mem_cons.mp h with q | q
  ·subst q;rw[hl]at hc;cases l with
   | d _=>rfl
   | m _=>exact absurd hc.1 (by simp)
   | r _=>exact absurd hc.1 (by simp)
   | p _=>exact absurd hc.1 (by simp)
   | xh=>rfl
   | u _ _=>rfl
  ·exact Bf hc.2 q hl
theorem Rel.block {σ:St} {G H:Hp} {ρ:Env} (R:Rel K σ G H ρ) (js:List Nat):Rel K (wipe σ js) G H (Vb ρ js):=by
 refine⟨R.same,by rw[wipe_length,Ep];exact R.len,fun i l e=>?_,R.exo,fun i j l l' a hij e1 e2 o1 o2 e3 e4=>?_⟩
 ·obtain⟨e1,h⟩:=Km e;rw[Wo h];exact R.at_ i l e1
 ·obtain⟨f1,h1⟩:=Km e1;obtain⟨f2,h2⟩:=Km e2;rw[Wo h1]at e3;rw[Wo h2]at e4;exact R.sep i j l l' a hij f1 f2 o1 o2 e3 e4
theorem Rel.turn {σ σ2:St} {G H G3 H3:Hp} {ρ0 ρ ρ2 ρ3:Env} {js:List Nat} (R:Rel K σ G H ρ) (hz:ρ.length=ρ0.length) (h0:∀i∈js,ρ[i]?=ρ0[i]?) (hc:clean ρ0 js=true)
  (ks:List Nat) (hks:∀i∈ks,i∈js) (T:Tg ks (wipe σ js) σ2 (Vb ρ js) ρ2) (S:Stp σ2 ρ2 G H σ2 ρ3 G3 H3) (R3:Rel K σ2 G3 H3 ρ3) :
  Stp σ ρ G H σ (J4 ρ0 ρ3 js) G3 H3∧Rel K σ G3 H3 (J4 ρ0 ρ3 js):=by
 have l3:ρ3.length=ρ0.length:=by
  have e1:=R3.len;have e2:=T.len;rw[wipe_length]at e2;have e3:=R.len;omega
 have out:∀{i:Nat},i∉js→σ2[i]?=σ[i]?:=fun {i} h=>by
  rw[T.out i fun z=>h (hks i z),Wo h]
 have cl:∀{i:Nat} {l:L},(J4 ρ0 ρ3 js)[i]?=some (some l)→l.own=true→i∉js∧ρ3[i]?=some (some l):=fun {i l} e o=>by
  by_cases hi:i∈js
  ·rw[U0 l3 hi]at e;rw[Bf hc hi e]at o;cases o
  ·rw[Ml hi]at e;exact⟨hi,e⟩
 have ow:∀a,Own σ2 ρ2 a→Own σ ρ a:=fun a ⟨i,l,e1,o,e3⟩=>by
  obtain⟨e4,hi⟩:=Km (T.own i l e1 o);rw[out hi]at e3;exact⟨i,l,e4,o,e3⟩
 have om:∀a,Ss σ2 ρ2 a→Ss σ ρ a:=fun a ⟨i,l,e1,o,e3⟩=>by
  have o':l.own=true:=by cases l<;>first | rfl | cases o
  obtain⟨e4,hi⟩:=Km (T.own i l e1 o');rw[out hi]at e3;exact⟨i,l,e4,o,e3⟩
 refine⟨⟨S.g,fun a o e=>?_,fun a o e n=>S.fr a o e fun z=>n (ow a z),S.hn,fun a ⟨i,l,e1,o,e3⟩=>?_,fun a ⟨i,l,e1,o,e3⟩=>?_,fun i x e=>?_⟩,⟨R3.same,?_,fun i l e=>?_,R3.exo,fun i j l l' a hij e1 e2 o1 o2 e3 e4=>?_⟩⟩
 ·rcases S.gf a o e with h | h | h
  ·exact .inl h
  ·exact .inr (.inl h)
  ·exact .inr (.inr (om a h))
 ·obtain⟨hi,e⟩:=cl e1 o;rcases S.ow a ⟨i,l,e,o,by rw[out hi];exact e3⟩ with h | h
  ·exact .inl (ow a h)
  ·exact .inr h
 ·have o':l.own=true:=by cases l<;>first | rfl | cases o
  obtain⟨hi,e⟩:=cl e1 o';rcases S.om a ⟨i,l,e,o,by rw[out hi];exact e3⟩ with h | h
  ·exact .inl (om a h)
  ·exact .inr h
 ·refine⟨rfl,?_⟩;have hi:i∉js:=fun z=>by
   have e':=e;rw[h0 i z]at e';have q:=Bf hc z e';cases q
  rw[Ml hi];have e2:ρ2[i]?=some (some (.r x)):=by
   rw[T.oue i fun z=>hi (hks i z),Er hi];exact e
  exact (S.pin i x e2).2
 ·rw[V6];have e1:=R3.len;have e2:=T.len;rw[wipe_length]at e2;omega
 ·by_cases hi:i∈js
  ·rw[U0 l3 hi]at e;have o:=Bf hc hi e;rw[← h0 i hi]at e;obtain⟨v,e1,e2⟩:=R.at_ i l e;refine⟨v,e1,?_⟩;cases l with
   | d x=>exact Dq.mono S.g e2
   | m x=>cases o
   | r x=>cases o
   | p x=>cases o
   | xh=>exact e2
   | u _ _=>exact e2
  ·rw[Ml hi]at e;rw[← out hi];exact R3.at_ i l e
 ·obtain⟨h1,f1⟩:=cl e1 o1;obtain⟨h2,f2⟩:=cl e2 o2;rw[← out h1]at e3;rw[← out h2]at e4;exact R3.sep i j l l' a hij f1 f2 o1 o2 e3 e4
theorem Rel.side {σ:St} {G H:Hp} {ρ:Env} {D:Addr} {o:HO} (R:Rel K σ G H ρ) (g:G D=none) (n:¬Own σ ρ D):Rel K σ G (upd H D o) ρ:=by
 refine⟨fun b u e=>?_,R.len,fun i l e=>?_,R.exo,R.sep⟩
 ·rw[upd_ne (ne_of_none e g)];exact R.same b u e
 ·obtain⟨v,e1,e2⟩:=R.at_ i l e;refine⟨v,e1,?_⟩;have ow:∀y,l.own=true→MOk K G H v y→MOk K G (upd H D o) v y:=fun y ol hm=>by
   refine hm.mono (Same.refl _) fun c ec=>?_;subst ec;obtain⟨c',ec',gc,_⟩:=hm.ref;cases ec';refine⟨gc,fun u eu=>?_⟩;have nc:c≠D:=fun q=>by
    subst q;exact n ⟨i,l,e,ol,e1⟩
   rw[upd_ne nc];exact eu
  cases l with
  | d y=>exact e2
  | m y=>exact ow y rfl e2
  | r y=>exact ow y rfl e2
  | p y=>exact⟨ow y rfl e2.1,e2.2⟩
  | xh=>exact e2
  | u _ _=>exact e2
theorem Stp.side {σ σ':St} {G H G' H':Hp} {ρ ρ':Env} {D:Addr} {o:HO} (S:Stp σ ρ G H σ' ρ' G' H') (h:H D=none):Stp σ ρ G H σ' ρ' G' (upd H' D o):=by
 refine⟨S.g,S.gf,fun a u e n=>?_,fun a e=>?_,S.ow,S.om,S.pin⟩
 ·rw[upd_ne (ne_of_none e h)];exact S.fr a u e n
 ·by_cases q:a=D
  ·subst q;exact absurd h e
  ·rw[upd_ne q];exact S.hn a e
theorem qep {js ks:List Nat} {wi:TI} {g:TG} {tt:TT} {te:TE} {im:IM} {gm:GM} {mt:TM} {me:EM} (hi:qds K W wi im) (hg:GOk K ks g gm) (hks:∀i∈ks,i∈js)
  (ht:Ie K (fun _ _ _ _=>False) tt mt) (he:Yh K (fun _ _ _ _=>False) te me):yn K W (tLc wi g tt te js) (fLc im js gm mt me):=fun σ G H ρ R Q h=>by
 unfold fLc bindR at h;refine hi.fst R (fun ds ρ1 e J G1 H1 S1 R1 wk=>?_) (fun e ρ1 q=>by rw[q]at h;exact h) (fun q=>by rw[q]at h;exact h);rw[e]at h;have h:=Mb.step S1 h;simp only at h;split at h
 ·rename_i hcl;intro D hD;have g1:G1 D=none:=R1.same.free hD;have notOwn:∀{σ':St} {ρ':Env} {G' H':Hp},Stp σ ρ1 G1 H1 σ' ρ' G' H'→¬Own σ ρ1 D:=fun _ ⟨i,l,e1,o,e3⟩=>by
   obtain⟨v,e4,e5⟩:=R1.at_ i l e1;rw[e3]at e4;cases Option.some.inj (Option.some.inj e4);have:∀y,MOk K G1 H1 (.ref D) y→False:=fun y hm=>by
    obtain⟨a,ea,_,hn⟩:=hm.ref;cases ea;exact hn hD
   cases l with
   | d y=>cases o
   | m y=>exact this y e5
   | r y=>exact this y e5
   | p y=>exact this y e5.1
   | xh=>cases o
   | u _ _=>cases o
  have nD1:¬Own σ ρ1 D:=notOwn (Stp.refl _ _ _ _);refine⟨fun i m H'=>m=ds.length-i∧i≤ds.length∧∃G' ρ' acc accV,Stp σ ρ1 G1 H1 σ ρ' G' H'∧Rel K σ G' H' ρ'∧H' D=some (.lst accV)∧G' D=none∧¬Own σ ρ' D∧DqA K G' accV acc∧ρ'.length=ρ1.length∧(∀i∈js,ρ'[i]?=ρ1[i]?)∧
    Mb K W σ G1 H1 ρ1 Q (match qbl js gm mt me ρ1 (ds.drop i) acc ρ' with | .ok acc ρ2=>.ok (.lst acc) ρ2 | _=>.bad),⟨ds.length,?_⟩,?_⟩
  ·refine⟨by simp,Nat.zero_le _,G1,ρ1,[],[],(Stp.refl _ _ _ _).side hD,R1.side g1 nD1,upd_same,g1,nD1,.nil,rfl,fun _ _=>rfl,by simpa using h⟩
  ·rintro i m H' ⟨rfl,hil,G',ρ',acc,accV,S',R',hH,gD,nO,qa,hlen,hsame,h'⟩;obtain⟨go,stop⟩:=wk G' H' S'.g R'.same;by_cases hlt:i<ds.length
   ·obtain⟨d,hd⟩:∃d,ds[i]?=some d:=⟨ds[i],List.getElem?_eq_getElem hlt⟩;obtain⟨hgo,hy⟩:=go i d hd;rw[Bb hd]at h';refine .inr ⟨hgo,fun H2=>∃G2 ρ2 qsT qk2,Stp σ ρ1 G1 H1 σ ρ2 G2 H2∧Rel K σ G2 H2 ρ2∧H2 D=some (.lst qk2)∧G2 D=none∧¬Own σ ρ2 D∧DqA K G2 qk2 qsT∧ρ2.length=ρ1.length∧(∀i∈js,ρ2[i]?=ρ1[i]?)∧
     Mb K W σ G1 H1 ρ1 Q (match qbl js gm mt me ρ1 (ds.drop (i+1)) qsT ρ2 with | .ok acc ρ2=>.ok (.lst acc) ρ2 | _=>.bad),fun H2 z=>⟨ds.length-(i+1),by omega,rfl,hlt,z⟩,fun x H2 y=>?_⟩
    obtain⟨G2,gr,q2⟩:=hy x H2 y;have R2:=R'.gro gr;have S2:=S'.trans (gr.stp (σ:=σ) (ρ:=ρ'));have hH2:H2 D=some (.lst accV):=gr.h D _ hH;have gD2:G2 D=none:=by
     cases q:G2 D with
     | none=>rfl
     | some o=>
      rcases gr.gf D o q with z | z
      ·rw[gD]at z;cases z
      ·rw[hH]at z;cases z
    unfold qbl at h';split at h'
    ·rename_i e2;split at e2
     ·cases e2
     ·rename_i ρ2 e3;refine hg _ _ _ _ _ _ _ (R2.block js) q2 e3 _ fun σ2 T S3 R3=>?_;have wEq:wipe σ2 js=wipe σ js:=by
       rw[Ip (σ:=wipe σ js) T.len fun i hi=>T.out i fun z=>hi (hks i z)];exact Ip (wipe_length _ _) fun i hi=>Wo hi
      refine⟨wEq,?_⟩;have leave:∀{ρ3:Env} {G3 H3:Hp},Stp σ2 ρ2 G2 H2 σ2 ρ3 G3 H3→Rel K σ2 G3 H3 ρ3→Stp σ ρ1 G1 H1 σ (J4 ρ1 ρ3 js) G3 H3∧Rel K σ G3 H3 (J4 ρ1 ρ3 js)∧H3 D=some (.lst accV)∧G3 D=none∧¬Own σ (J4 ρ1 ρ3 js) D∧DqA K G3 accV acc∧(J4 ρ1 ρ3 js).length=ρ1.length∧(∀i∈js,(J4 ρ1 ρ3 js)[i]?=ρ1[i]?):=fun {ρ3 G3 H3} S4 R4=>by
       obtain⟨S5,R5⟩:=Rel.turn R2 hlen hsame hcl ks hks T S4 R4;have l3:ρ3.length=ρ1.length:=by
        have e1:=R4.len;have e2:=T.len;rw[wipe_length]at e2;have e3:=R2.len;omega
       refine⟨S2.trans S5,R5,S5.fr D _ hH2 nO,?_,fun z=>?_,(qa.mono gr.g).mono S5.g,by rw[V6];exact l3,fun i hi=>U0 l3 hi⟩
       ·cases q:G3 D with
        | none=>rfl
        | some o=>
         rcases S5.gf D o q with z | z | z
         ·rw[gD2]at z;cases z
         ·rw[hH2]at z;cases z
         ·exact absurd z.own nO
       ·rcases S5.ow D z with z | z
        ·exact nO z
        ·rw[hH2]at z;cases z
      refine ht σ2 G2 H2 ρ2 R3 _ ?_;unfold bindR at e2;cases et:mt ρ2 with
      | bad=>rw[et]at e2;cases e2
      | ex x ρ3=>rw[et]at e2;cases e2
      | ok t ρ3=>
       rw[et]at e2;intro G3 H3 S4 R4;cases t with
       | false=>
        simp only[Bool.false_eq_true,if_false]at e2 ⊢;obtain⟨a1,a2,a3,a4,a5,a6,a7,a8⟩:=leave S4 R4;exact⟨G3,_,acc,accV,a1,a2,a3,a4,a5,a6,a7,a8,by rw[e2];exact h'⟩
       | true=>
        simp only[if_true]at e2 ⊢;refine he σ2 G3 H3 ρ3 R4 _ ?_;cases ee:me ρ3 with
        | bad=>rw[ee]at e2;cases e2
        | ex x ρ3=>rw[ee]at e2;cases e2
        | ok z ρ4=>
         rw[ee]at e2;intro v G4 H4 S5 R5 x5;simp only at e2;split at e2
         ·rename_i y' ρ5 e5;obtain⟨G5,S6,R6,q6⟩:=Nn R5 x5 e5;split at e2
          ·rename_i hz;obtain⟨a1,a2,a3,a4,a5,a6,a7,a8⟩:=leave ((S4.trans S5).trans S6) R6;refine⟨accV,a3,by rw[a6.length];exact Gp hz,G5,_,acc++[y'],accV++[v],a1.side hD,a2.side a4 a5,upd_same,a4,a5,a6.append (.one q6),a7,a8,by rw[e2];exact h'⟩
          ·cases e2
         ·cases e2
    ·exact h'.elim
   ·have ei:i=ds.length:=by omega
    subst ei;rw[List.drop_length]at h';refine .inl ⟨stop,h' _ G' H' S' R' ⟨⟨D,accV,rfl,gD,hH,qa⟩,fun a ea=>?_⟩⟩;cases ea;exact⟨hD,nO⟩
 ·exact h.elim
end DL
namespace DL
open PySem PySem.Spec PyProof.Rows L2
def qeP (K:Kx) (H G' H':Hp) (v:V):L→Prop
 | .d x=>Dq K G' v x
 | .m x=>MOk K G' H' v x∧∀a,v=.ref a→H a=none
 | .u d x=>∃t va vb,v=.ref t∧SqN K.k G' t (qpH d va vb)∧Dq K.k G' va (qmB d)∧MOk K G' H' vb x∧∀a,vb=.ref a→H a=none
 | _=>False
def yp (K:Kx) (G H:Hp) (vs:List V) (as:List L):Prop:=Rel K (vs.map some) G H (as.map some)∧∀l∈as,l.ism=false
def qfF (K:Kx) (vs:List V) (as:List L) (G H:Hp) (Q:VK) (E:XK):FRes→Prop
 | .ok l as'=>∀v G' H',Stp (vs.map some) (as.map some) G H (vs.map some) (as'.map some) G' H'→Rel K (vs.map some) G' H' (as'.map some)→qeP K H G' H' v l→Q v H'
 | .ex e as'=>∀c d G' H',Stp (vs.map some) (as.map some) G H (vs.map some) (as'.map some) G' H'→Rel K (vs.map some) G' H' (as'.map some)→ExOk K G' c d e→E c d H'
 | .bad=>False
def spF (K:PySem.W.Frag) (n:Nat) (F:List L→FRes):Sp:=fun vs H Q E=>vs.length=n∧∃G as,yp ⟨K,none⟩ G H vs as∧qfF ⟨K,none⟩ vs as G H Q E (F as)
def qbh (a:L) (o:Option (Option L)):L:=match a,o with
 | .r _,some (some l)=>l
 | a,_=>a
def Ux (ρ':Env):Nat→List L→List L
 | _,[]=>[]
 | i,a::as=>qbh a ρ'[i]?::Ux ρ' (i+1) as
def Q7 (n:Nat) (body:SM) (as:List L):FRes:=match body (as.map some++List.replicate (n-as.length) none) with
 | .ok .nx ρ'=>.ok (.d .non) (Ux ρ' 0 as)
 | .ok (.rt l) ρ'=>.ok l (Ux ρ' 0 as)
 | .ex e ρ'=>.ex e (Ux ρ' 0 as)
 | _=>.bad
theorem La {ρ':Env} {i:Nat}:∀{k:Nat} {as:List L},(Ux ρ' k as)[i]?=(as[i]?).map fun a=>qbh a ρ'[k+i]?
 | k,[]=>by simp[Ux]
 | k,a::as=>by
  unfold Ux;cases i with
  | zero=>simp
  | succ i=>
   rw[List.getElem?_cons_succ,List.getElem?_cons_succ,La];rw[show k+1+i=k+(i+1) by omega]
theorem jd {ρ':Env}:∀{k:Nat} {as:List L},(Ux ρ' k as).length=as.length
 | k,[]=>rfl
 | k,a::as=>by unfold Ux;rw[List.length_cons,List.length_cons,jd]
section
variable {K:Kx} {G H G' H':Hp} {vs:List V} {as:List L} {n:Nat} {σ':L2.St} {ρ':Env}
theorem Wl {α:Type} {xs:List α} {i:Nat} {o:Option α} (h:(xs.map some)[i]?=some o):∃x,xs[i]?=some x∧o=some x:=by
 rw[List.getElem?_map]at h;cases e:xs[i]? with
 | none=>rw[e]at h;cases h
 | some x=>rw[e]at h;exact⟨x,rfl,(Option.some.inj h).symm⟩
theorem get_map {α:Type} {xs:List α} {i:Nat} {x:α} (h:xs[i]?=some x):(xs.map some)[i]?=some (some x):=by
 rw[List.getElem?_map,h];rfl
theorem Vl {α:Type} {xs:List α} {i m:Nat} {x:α} (h:(xs.map some++List.replicate m none)[i]?=some (some x)):xs[i]?=some x:=by
 by_cases hi:i<xs.length
 ·rw[List.getElem?_append_left (by simpa using hi)]at h;obtain⟨y,e1,e2⟩:=Wl h;cases Option.some.inj e2;exact e1
 ·rw[List.getElem?_append_right (by simpa using hi)]at h;rw[List.getElem?_replicate]at h;split at h
  ·cases Option.some.inj h
  ·cases h
theorem vd {α:Type} {xs:List α} {i m:Nat} {x:α} (h:xs[i]?=some x):(xs.map some++List.replicate m none)[i]?=some (some x):=by
 rw[List.getElem?_append_left (by simpa using (List.getElem?_eq_some_iff.mp h).1)];exact get_map h
theorem Rel.enter (A:yp K G H vs as):Rel K (vs.map some++List.replicate n none) G H (as.map some++List.replicate n none):=by
 obtain⟨R,_⟩:=A;refine⟨R.same,?_,fun i l e=>?_,R.exo,fun i j l l' a hij e1 e2 o1 o2 e3 e4=>?_⟩
 ·rw[List.length_append,List.length_append,R.len,List.length_replicate,List.length_replicate]
 ·obtain⟨v,h1,h2⟩:=R.at_ i l (get_map (Vl e));obtain⟨u,e1,e2⟩:=Wl h1;cases Option.some.inj e2;exact⟨v,vd e1,h2⟩
 ·exact R.sep i j l l' a hij (get_map (Vl e1)) (get_map (Vl e2)) o1 o2 (get_map (Vl e3)) (get_map (Vl e4))
theorem qgm {l:L} (h:l.own=true) (h2:l.ism=false):∃x,l=.r x:=by
 cases l with
 | d _=>cases h
 | m _=>cases h2
 | r x=>exact⟨x,rfl⟩
 | p _=>cases h2
 | xh=>cases h
 | u _ _=>cases h
theorem Rel.leave (A:yp K G H vs as) (S:Stp (vs.map some++List.replicate n none) (as.map some++List.replicate n none) G H σ' ρ' G' H') (R:Rel K σ' G' H' ρ') :
  Stp (vs.map some) (as.map some) G H (vs.map some) ((Ux ρ' 0 as).map some) G' H'∧Rel K (vs.map some) G' H' ((Ux ρ' 0 as).map some):=by
 obtain⟨R0,hm⟩:=A;have om0:∀a,¬Ss (vs.map some++List.replicate n none) (as.map some++List.replicate n none) a:=fun a ⟨i,l,e1,o,_⟩=>by
  have:=hm l (List.mem_of_getElem? (Vl e1));rw[o]at this;cases this
 have owU:∀a,Own (vs.map some++List.replicate n none) (as.map some++List.replicate n none) a→Own (vs.map some) (as.map some) a:=fun a ⟨i,l,e1,o,e3⟩=>⟨i,l,get_map (Vl e1),o,get_map (Vl e3)⟩;have at':∀{i:Nat} {l:L},((Ux ρ' 0 as).map some)[i]?=some (some l)→(∃x y,as[i]?=some (.r x)∧l=.r y∧ρ'[i]?=some (some (.r y))∧σ'[i]?=(vs.map some)[i]?)∨(as[i]?=some l∧∀x,l≠.r x):=fun {i l} e=>by
  obtain⟨l',e1,e2⟩:=Wl e;cases Option.some.inj e2;rw[La]at e1;cases ea:as[i]? with
  | none=>rw[ea]at e1;cases e1
  | some a=>
   rw[ea]at e1;have e1:qbh a ρ'[0+i]?=l:=Option.some.inj e1;rw[Nat.zero_add]at e1;cases a with
   | r x=>
    obtain⟨h1,y,h2⟩:=S.pin i x (vd ea);rw[h2]at e1;refine .inl ⟨x,y,rfl,e1.symm,h2,?_⟩;rw[h1];obtain⟨v,h3,_⟩:=R0.at_ i _ (get_map ea);obtain⟨u,h4,h5⟩:=Wl h3;rw[vd h4,get_map h4]
   | d x=>exact .inr ⟨by rw[← e1];rfl,fun y=>by rw[← e1];exact fun z=>nomatch z⟩
   | m x=>exact .inr ⟨by rw[← e1];rfl,fun y=>by rw[← e1];exact fun z=>nomatch z⟩
   | p x=>exact .inr ⟨by rw[← e1];rfl,fun y=>by rw[← e1];exact fun z=>nomatch z⟩
   | xh=>exact .inr ⟨by rw[← e1];rfl,fun y=>by rw[← e1];exact fun z=>nomatch z⟩
   | u _ _=>exact .inr ⟨by rw[← e1];rfl,fun y=>by rw[← e1];exact fun z=>nomatch z⟩
 have own':∀{i:Nat} {l:L},((Ux ρ' 0 as).map some)[i]?=some (some l)→l.own=true→(∃x,as[i]?=some (.r x))∧ρ'[i]?=some (some l)∧σ'[i]?=(vs.map some)[i]?∧l.ism=false:=fun {i l} e o=>by
  rcases at' e with ⟨x,y,h1,rfl,h2,h3⟩ | ⟨h1,h2⟩
  ·exact⟨⟨x,h1⟩,h2,h3,rfl⟩
  ·obtain⟨x,rfl⟩:=qgm o (hm l (List.mem_of_getElem? h1));exact absurd rfl (h2 x)
 refine⟨⟨S.g,fun a o e=>?_,fun a o e nn=>S.fr a o e fun z=>nn (owU a z),S.hn,fun a ⟨i,l,e1,o,e3⟩=>?_,fun a ⟨i,l,e1,o,e3⟩=>?_,fun i x e=>?_⟩,⟨R.same,?_,fun i l e=>?_,R.exo,fun i j l l' a hij e1 e2 o1 o2 e3 e4=>?_⟩⟩
 ·rcases S.gf a o e with h | h | h
  ·exact .inl h
  ·exact .inr (.inl h)
  ·exact absurd h (om0 a)
 ·obtain⟨⟨x,h1⟩,h2,h3,_⟩:=own' e1 o;exact .inl ⟨i,_,get_map h1,rfl,e3⟩
 ·have o':l.own=true:=by cases l<;>first | rfl | cases o
  obtain⟨_,_,_,h⟩:=own' e1 o';rw[o]at h;cases h
 ·refine⟨rfl,?_⟩;obtain⟨l,e1,e2⟩:=Wl e;cases Option.some.inj e2;obtain⟨_,y,h2⟩:=S.pin i x (vd e1);refine⟨y,get_map ?_⟩;rw[La,e1,Nat.zero_add,h2];rfl
 ·rw[List.length_map,List.length_map,jd];simpa using R0.len
 ·rcases at' e with ⟨x,y,h1,rfl,h2,h3⟩ | ⟨h1,h2⟩
  ·rw[← h3];exact R.at_ i _ h2
  ·obtain⟨v,h3,h4⟩:=R0.at_ i l (get_map h1);refine⟨v,h3,?_⟩;have hm1:=hm l (List.mem_of_getElem? h1);cases l with
   | d x=>exact Dq.mono S.g h4
   | m x=>cases hm1
   | r x=>exact absurd rfl (h2 x)
   | p x=>cases hm1
   | xh=>exact h4
   | u _ _=>exact h4
 ·obtain⟨_,f1,g1,_⟩:=own' e1 o1;obtain⟨_,f2,g2,_⟩:=own' e2 o2;rw[← g1]at e3;rw[← g2]at e4;exact R.sep i j l l' a hij f1 f2 o1 o2 e3 e4
end
def JSs (X:Cx) (xa:Option XA) (W:WX) (st:List Stmt) (m:SM):Prop:=∃t,PSs X st t∧Nt ⟨X.K,xa⟩ W t m
theorem fn_ok {P:Program} {w:World} {K:PySem.W.Frag} {mg:Str→Option Value} {base:Heap} {x qual:Str} {st:Stmt} {f:Addr} {fd:FuncData} {N ps:List Str} {k:Nat} {body:SM} (F:Fun K x qual st f fd) (S:FnScope N ps (defScope st))
  (hb:∀(cdv:Value) (A:Around) (outer:List PySem.Env) (s:Shared) (H:Hp) (E:XK),Room k (A.deeper (envOfC qual (defScope st) s.heap.objs.size f cdv))→
   JSs (cxOf (L2.CX P w) P w K mg base N qual (defScope st) f cdv A outer s H E) none (fun cls d _ H=>E cls d H) (defBody st) body) :
  FnOk P w K mg base (L2.CX P w) (k+1) f fd ps (spF K ps.length (Q7 N.length body)):=by
 refine F.okX S (fun vs H Q E h=>h.1) (fun cdv A outer s H vs Q E hr h=>?_);obtain⟨hl,G,as,Aok,hp⟩:=h;obtain⟨t,h1,h2⟩:=hb cdv A outer s H E hr;refine⟨t,h1,?_⟩;have len:as.length=vs.length:=by
  have:=Aok.1.len;simpa using this.symm
 have est:L2.start N vs=vs.map some++List.replicate (N.length-as.length) none:=by
  unfold L2.start;rw[len]
 rw[est];refine h2 _ G H (as.map some++List.replicate (N.length-as.length) none) (Rel.enter Aok) _ ?_;unfold Q7 at hp;cases e:body (as.map some++List.replicate (N.length-as.length) none) with
 | bad=>rw[e]at hp;exact hp
 | ex x ρ'=>
  rw[e]at hp;intro c d σ' G' H' S' R' q;obtain⟨a,b⟩:=Rel.leave Aok S' R';exact hp c d G' H' a b q
 | ok fl ρ'=>
  rw[e]at hp;cases fl with
  | nx=>
   intro σ' G' H' S' R';obtain⟨a,b⟩:=Rel.leave Aok S' R';exact hp _ G' H' a b .non
  | bk=>exact hp.elim
  | ct=>exact hp.elim
  | rt l=>
   intro σ' v G' H' S' R' q;obtain⟨a,b⟩:=Rel.leave Aok S' R';refine hp v G' H' a b ?_;cases l with
   | d x=>exact q
   | r x=>exact q.elim
   | p x=>exact q.elim
   | xh=>exact q.elim
   | u _ _=>
    obtain⟨t,va,vb,h1,h2,h3,h4,h5⟩:=q;refine⟨t,va,vb,h1,h2,h3,h4,fun b eb=>?_⟩;rcases h5 b eb with h | ⟨i,l,e1,o,_⟩
    ·exact h
    ·have:=Aok.2 l (List.mem_of_getElem? (Vl e1));rw[o]at this;cases this
   | m x=>
    refine⟨q.1,fun b eb=>?_⟩;rcases q.2 b eb with h | ⟨i,l,e1,o,_⟩
    ·exact h
    ·have:=Aok.2 l (List.mem_of_getElem? (Vl e1));rw[o]at this;cases this
def mkArg (ρ:Env):X→Option L
 | .d x=>some (.d x)
 | .s i=>match ρ[i]? with
  | some (some (.m x))=>some (.r x)
  | some (some (.r x))=>some (.r x)
  | some (some (.d x))=>some (.d x)
  | _=>none
def Jx (ρ:Env):List X→Option (List L)
 | []=>some []
 | x::xs=>match mkArg ρ x,Jx ρ xs with
  | some a,some as=>some (a::as)
  | _,_=>none
theorem Cm {ρ:Env}:∀{xs:List X} {as:List L},Jx ρ xs=some as→as.length=xs.length∧∀(k:Nat) (x:X),xs[k]?=some x→∃a,as[k]?=some a∧mkArg ρ x=some a
 | [],as,e=>by
  cases Option.some.inj e;exact⟨rfl,fun k x h=>by simp at h⟩
 | x::xs,as,e=>by
  unfold Jx at e;split at e
  ·rename_i a as' e1 e2;cases Option.some.inj e;obtain⟨h1,h2⟩:=Cm e2;refine⟨by rw[List.length_cons,List.length_cons,h1],fun k y h=>?_⟩;cases k with
   | zero=>
    cases Option.some.inj h;exact⟨a,rfl,e1⟩
   | succ k=>exact h2 k y h
  ·cases e
theorem Bn {xs:List X} {i:Nat}:i∈slots xs↔∃k:Nat,xs[k]?=some (X.s i):=by
 induction xs with
 | nil=>simp[slots]
 | cons x xs ih=>
  cases x with
  | d y=>
   show i∈slots xs↔_;rw[ih];constructor
   ·rintro⟨k,h⟩;exact⟨k+1,h⟩
   ·rintro⟨k,h⟩;cases k with
    | zero=>cases Option.some.inj h
    | succ k=>exact⟨k,h⟩
  | s j=>
   show i∈j::slots xs↔_;rw[List.mem_cons,ih];constructor
   ·rintro (rfl | ⟨k,h⟩)
    ·exact⟨0,rfl⟩
    ·exact⟨k+1,h⟩
   ·rintro⟨k,h⟩;cases k with
    | zero=>
     cases Option.some.inj h;exact .inl rfl
    | succ k=>exact .inr ⟨k,h⟩
theorem qbz {xs:List X} (hn:(slots xs).Nodup) {k k' i:Nat} (h:xs[k]?=some (.s i)) (h':xs[k']?=some (.s i)):k=k':=by
 induction xs generalizing k k' with
 | nil=>simp at h
 | cons x xs ih=>
  cases x with
  | d y=>
   cases k with
   | zero=>cases Option.some.inj h
   | succ k=>
    cases k' with
    | zero=>cases Option.some.inj h'
    | succ k'=>rw[ih hn h h']
  | s j=>
   have hn:(j::slots xs).Nodup:=hn;rw[List.nodup_cons]at hn;cases k with
   | zero=>
    cases Option.some.inj h;cases k' with
    | zero=>rfl
    | succ k'=>exact absurd (Bn.mpr ⟨k',h'⟩) hn.1
   | succ k=>
    cases k' with
    | zero=>
     cases Option.some.inj h';exact absurd (Bn.mpr ⟨k,h⟩) hn.1
    | succ k'=>rw[ih hn.2 h h']
theorem putS_get {ρ:Env} {i j:Nat} {y:D}:(putS ρ i y)[j]?=if i=j then (ρ[j]?).map (fun o=>o.map fun l=>l.put y) else ρ[j]?:=by
 unfold putS;by_cases e:i=j
 ·subst e;rw[if_pos rfl];split
  ·rename_i l hl;rw[List.getElem?_set_self (List.getElem?_eq_some_iff.mp hl).1,hl];rfl
  ·rename_i hn;cases h:ρ[i]? with
   | none=>rfl
   | some o=>
    cases o with
    | none=>rfl
    | some l=>exact absurd h (hn l)
 ·rw[if_neg e];split
  ·rw[List.getElem?_set_ne e]
  ·rfl
theorem Tv {j:Nat}:∀{xs:List X} {as bs:List L} {ρ:Env},(slots xs).Nodup→as.length=xs.length→bs.length=xs.length→
  (∃(k:Nat) (x y:D),xs[k]?=some (X.s j)∧as[k]?=some (.r x)∧bs[k]?=some (.r y)∧(Yd ρ xs as bs)[j]?=(ρ[j]?).map (fun o=>o.map fun l=>l.put y))∨
  ((∀(k:Nat) (x y:D),xs[k]?=some (X.s j)→as[k]?=some (.r x)→bs[k]?≠some (.r y))∧(Yd ρ xs as bs)[j]?=ρ[j]?)
 | [],as,bs,ρ,_,_,_=>.inr ⟨fun k x y h=>by simp at h,by unfold Yd;rfl⟩
 | x::xs,[],_,_,_,h,_=>by cases h
 | x::xs,_::_,[],_,_,_,h=>by cases h
 | x::xs,a::as,b::bs,ρ,hn,ha,hb=>by
  have ha':as.length=xs.length:=Nat.succ.inj ha;have hb':bs.length=xs.length:=Nat.succ.inj hb;have hn':(slots xs).Nodup:=by
   cases x with
   | d _=>exact hn
   | s i=>exact (List.nodup_cons.mp (show (i::slots xs).Nodup from hn)).2
  have skip:(∀x' y,x=.s j→a=.r x'→b≠.r y)→Yd ρ (x::xs) (a::as) (b::bs)=Yd ρ xs as bs→
    (∃(k:Nat) (x' y:D),(x::xs)[k]?=some (.s j)∧(a::as)[k]?=some (.r x')∧(b::bs)[k]?=some (.r y)∧(Yd ρ (x::xs) (a::as) (b::bs))[j]?=(ρ[j]?).map (fun o=>o.map fun l=>l.put y))∨
    ((∀(k:Nat) (x' y:D),(x::xs)[k]?=some (.s j)→(a::as)[k]?=some (.r x')→(b::bs)[k]?≠some (.r y))∧(Yd ρ (x::xs) (a::as) (b::bs))[j]?=ρ[j]?):=fun h0 h1=>by
   rw[h1];rcases Tv (j:=j) (ρ:=ρ) hn' ha' hb' with ⟨k,x',y,e1,e2,e3,e4⟩ | ⟨e1,e2⟩
   ·exact .inl ⟨k+1,x',y,e1,e2,e3,e4⟩
   ·refine .inr ⟨fun k x' y f1 f2 f3=>?_,e2⟩;cases k with
    | zero=>exact h0 x' y (Option.some.inj f1) (Option.some.inj f2) (Option.some.inj f3)
    | succ k=>exact e1 k x' y f1 f2 f3
  cases x with
  | d z=>exact skip (fun _ _ q=>nomatch q) (by cases a<;>cases b<;>rfl)
  | s i=>
   cases a with
   | r u=>
    cases b with
    | r y=>
     have e0:Yd ρ (.s i::xs) (.r u::as) (.r y::bs)=Yd (putS ρ i y) xs as bs:=rfl;rw[e0];have hni:=(List.nodup_cons.mp (show (i::slots xs).Nodup from hn)).1;by_cases e:i=j
     ·subst e;rcases Tv (j:=i) (ρ:=putS ρ i y) hn' ha' hb' with ⟨k,x',y',e1,e2,e3,e4⟩ | ⟨e1,e2⟩
      ·exact absurd (Bn.mpr ⟨k,e1⟩) hni
      ·refine .inl ⟨0,u,y,rfl,rfl,rfl,?_⟩;rw[e2,putS_get,if_pos rfl]
     ·rcases Tv (j:=j) (ρ:=putS ρ i y) hn' ha' hb' with ⟨k,x',y',e1,e2,e3,e4⟩ | ⟨e1,e2⟩
      ·refine .inl ⟨k+1,x',y',e1,e2,e3,?_⟩;rw[e4,putS_get,if_neg e]
      ·refine .inr ⟨fun k x' y f1 f2 f3=>?_,?_⟩
       ·cases k with
        | zero=>
         cases Option.some.inj f1;exact e rfl
        | succ k=>exact e1 k x' y f1 f2 f3
       ·rw[e2,putS_get,if_neg e]
    | d _=>exact skip (fun _ _ _ _ q=>nomatch q) rfl
    | m _=>exact skip (fun _ _ _ _ q=>nomatch q) rfl
    | p _=>exact skip (fun _ _ _ _ q=>nomatch q) rfl
    | xh=>exact skip (fun _ _ _ _ q=>nomatch q) rfl
    | u _ _=>exact skip (fun _ _ _ _ q=>nomatch q) rfl
   | d _=>exact skip (fun _ _ _ q=>nomatch q) (by cases b<;>rfl)
   | m _=>exact skip (fun _ _ _ q=>nomatch q) (by cases b<;>rfl)
   | p _=>exact skip (fun _ _ _ q=>nomatch q) (by cases b<;>rfl)
   | xh=>exact skip (fun _ _ _ q=>nomatch q) (by cases b<;>rfl)
   | u _ _=>exact skip (fun _ _ _ q=>nomatch q) (by cases b<;>rfl)
section
variable {K:Kx} {σ:L2.St} {G H G' H':Hp} {ρ:Env} {vs:List V} {xs:List X} {as bs:List L}
theorem Nr.get:∀{xs:List X} {vs:List V} {k:Nat} {x:X},Nr K σ G vs xs→xs[k]?=some x→∃v,vs[k]?=some v∧XOk K σ G v x
 | _,_,_,_,.nil,e=>by simp at e
 | _,_,0,_,.cons h _,e=>by cases Option.some.inj e;exact⟨_,rfl,h⟩
 | _,_,k+1,x,.cons _ t,e=>Nr.get (k:=k) t e
theorem Nr.len:∀{xs:List X} {vs:List V},Nr K σ G vs xs→vs.length=xs.length
 | _,_,.nil=>rfl
 | _,_,.cons _ t=>by rw[List.length_cons,List.length_cons,Nr.len t]
theorem T3 {v:V} {x:X} {a:L} (R:Rel K σ G H ρ) (h:XOk K σ G v x) (e:mkArg ρ x=some a) :
  LOk K G H v a∧a.ism=false∧(a.own=true→∃i l,x=.s i∧ρ[i]?=some (some l)∧l.own=true∧σ[i]?=some (some v)):=by
 cases x with
 | d y=>
  cases Option.some.inj e;exact⟨h,rfl,fun z=>nomatch z⟩
 | s i=>
  have hv:σ[i]?=some (some v):=h;unfold mkArg at e;simp only at e;split at e
  ·rename_i y hy;cases Option.some.inj e;obtain⟨u,h1,h2⟩:=R.at_ i _ hy;rw[hv]at h1;cases Option.some.inj (Option.some.inj h1);exact⟨h2,rfl,fun _=>⟨i,_,rfl,hy,rfl,hv⟩⟩
  ·rename_i y hy;cases Option.some.inj e;obtain⟨u,h1,h2⟩:=R.at_ i _ hy;rw[hv]at h1;cases Option.some.inj (Option.some.inj h1);exact⟨h2,rfl,fun _=>⟨i,_,rfl,hy,rfl,hv⟩⟩
  ·rename_i y hy;cases Option.some.inj e;obtain⟨u,h1,h2⟩:=R.at_ i _ hy;rw[hv]at h1;cases Option.some.inj (Option.some.inj h1);exact⟨h2,rfl,fun z=>nomatch z⟩
  ·cases e
theorem E3 (R:Rel K σ G H ρ) (X1:Nr K σ G vs xs) (e:Jx ρ xs=some as) (hn:(slots xs).Nodup):yp ⟨K.k,none⟩ G H vs as:=by
 obtain⟨hl,hg⟩:=Cm e;have at':∀{k:Nat} {a:L},as[k]?=some a→∃x v,xs[k]?=some x∧vs[k]?=some v∧XOk K σ G v x∧mkArg ρ x=some a:=fun {k a} ha=>by
  have hk:k<xs.length:=by rw[← hl];exact (List.getElem?_eq_some_iff.mp ha).1
  obtain⟨a',h1,h2⟩:=hg k xs[k] (List.getElem?_eq_getElem hk);rw[ha]at h1;cases Option.some.inj h1;obtain⟨v,h3,h4⟩:=X1.get (List.getElem?_eq_getElem hk);exact⟨_,v,List.getElem?_eq_getElem hk,h3,h4,h2⟩
 refine⟨⟨R.same,?_,fun k a e1=>?_,(fun y h=>nomatch h),fun k k' a a' b hkk e1 e2 o1 o2 e3 e4=>?_⟩,fun a ha=>?_⟩
 ·rw[List.length_map,List.length_map,X1.len,hl]
 ·obtain⟨a',e2,e3⟩:=Wl e1;cases Option.some.inj e3;obtain⟨x,v,h1,h2,h3,h4⟩:=at' e2;obtain⟨q,q2,_⟩:=T3 R h3 h4;refine⟨v,get_map h2,?_⟩;cases a with
  | d x=>exact q
  | m x=>exact q
  | r x=>exact q
  | p x=>exact⟨q.1,fun y e=>nomatch e⟩
  | xh=>
   unfold mkArg at h4;split at h4
   ·cases h4
   ·split at h4<;>cases h4
  | u _ _=>
   unfold mkArg at h4;split at h4
   ·cases h4
   ·split at h4<;>cases h4
 ·obtain⟨c,f1,f2⟩:=Wl e1;cases Option.some.inj f2;obtain⟨c',g1,g2⟩:=Wl e2;cases Option.some.inj g2;obtain⟨x,v,h1,h2,h3,h4⟩:=at' f1;obtain⟨x',v',h1',h2',h3',h4'⟩:=at' g1;obtain⟨_,_,q⟩:=T3 R h3 h4;obtain⟨_,_,q'⟩:=T3 R h3' h4';obtain⟨i,l,rfl,p1,p2,p3⟩:=q o1;obtain⟨i',l',rfl,p1',p2',p3'⟩:=q' o2;have hii:i≠i':=fun z=>by
   subst z;exact hkk (qbz hn h1 h1')
  rw[get_map h2]at e3;cases Option.some.inj (Option.some.inj e3);rw[get_map h2']at e4;cases Option.some.inj (Option.some.inj e4);exact R.sep i i' l l' b hii p1 p1' p2 p2' p3 p3'
 ·obtain⟨k,hk⟩:=List.getElem?_of_mem ha;obtain⟨x,v,h1,h2,h3,h4⟩:=at' hk;exact (T3 R h3 h4).2.1
theorem Bj (R:Rel K σ G H ρ) (X1:Nr K σ G vs xs) (e:Jx ρ xs=some as) (hn:(slots xs).Nodup)
  (S:Stp (vs.map some) (as.map some) G H (vs.map some) (bs.map some) G' H') (R':Rel ⟨K.k,none⟩ (vs.map some) G' H' (bs.map some)):Stp σ ρ G H σ (Yd ρ xs as bs) G' H'∧Rel K σ G' H' (Yd ρ xs as bs)∧∀a,Own σ (Yd ρ xs as bs) a→Own σ ρ a:=by
 obtain⟨hl,hg⟩:=Cm e;have hb:bs.length=xs.length:=by
  have:=R'.len;rw[List.length_map,List.length_map,X1.len]at this;exact this.symm
 have arg:∀{k:Nat} {x:D},as[k]?=some (.r x)→∃i l v,xs[k]?=some (.s i)∧vs[k]?=some v∧ρ[i]?=some (some l)∧l.own=true∧σ[i]?=some (some v):=fun {k x} ha=>by
  have hk:k<xs.length:=by rw[← hl];exact (List.getElem?_eq_some_iff.mp ha).1
  obtain⟨a',h1,h2⟩:=hg k xs[k] (List.getElem?_eq_getElem hk);rw[ha]at h1;cases Option.some.inj h1;obtain⟨v,h3,h4⟩:=X1.get (List.getElem?_eq_getElem hk);obtain⟨i,l,e1,e2,e3,e4⟩:=(T3 R h4 h2).2.2 rfl;exact⟨i,l,v,by rw[List.getElem?_eq_getElem hk,e1],h3,e2,e3,e4⟩
 have asm:∀a∈as,a.ism=false:=(E3 R X1 e hn).2;have ow0:∀a,Own (vs.map some) (as.map some) a→Own σ ρ a:=fun a ⟨k,l,e1,o,e3⟩=>by
  obtain⟨l',f1,f2⟩:=Wl e1;cases Option.some.inj f2;obtain⟨x,rfl⟩:=qgm o (asm l (List.mem_of_getElem? f1));obtain⟨i,l2,v,h1,h2,h3,h4,h5⟩:=arg f1;rw[get_map h2]at e3;cases Option.some.inj (Option.some.inj e3);exact⟨i,l2,h3,h4,h5⟩
 have om0:∀a,¬Ss (vs.map some) (as.map some) a:=fun a ⟨k,l,e1,o,e3⟩=>by
  obtain⟨l',f1,f2⟩:=Wl e1;cases Option.some.inj f2;rw[asm l (List.mem_of_getElem? f1)]at o;cases o
 have at':∀{j:Nat} {l:L},(Yd ρ xs as bs)[j]?=some (some l)→(∃(k:Nat) (x y:D) (l0:L) (v:V),xs[k]?=some (X.s j)∧as[k]?=some (.r x)∧bs[k]?=some (.r y)∧ρ[j]?=some (some l0)∧l0.own=true∧l=l0.put y∧vs[k]?=some v∧σ[j]?=some (some v))∨
   (ρ[j]?=some (some l)∧∀(k:Nat) (x y:D),xs[k]?=some (X.s j)→as[k]?=some (.r x)→bs[k]?≠some (.r y)):=fun {j l} hj=>by
  rcases Tv (j:=j) (ρ:=ρ) hn hl hb with ⟨k,x,y,e1,e2,e3,e4⟩ | ⟨e1,e2⟩
  ·rw[e4]at hj;obtain⟨i,l0,v,h1,h2,h3,h4,h5⟩:=arg e2;rw[e1]at h1;cases Option.some.inj h1;rw[h3]at hj;exact .inl ⟨k,x,y,l0,v,e1,e2,e3,h3,h4,(Option.some.inj (Option.some.inj hj)).symm,h2,h5⟩
  ·rw[e2]at hj;exact .inr ⟨hj,e1⟩
 have own':∀{j:Nat} {l:L},(Yd ρ xs as bs)[j]?=some (some l)→l.own=true→∃l0,ρ[j]?=some (some l0)∧l0.own=true∧l0.ism=l.ism:=fun {j l} hj o=>by
  rcases at' hj with ⟨k,x,y,l0,v,_,_,_,h4,h5,rfl,_⟩ | ⟨h,_⟩
  ·exact⟨l0,h4,h5,(L.qbL l0 y).symm⟩
  ·exact⟨l,h,o,rfl⟩
 have apart:∀{j:Nat} {l:L} {a:Addr},ρ[j]?=some (some l)→l.own=true→σ[j]?=some (some (.ref a))→(∀(k:Nat) (x y:D),xs[k]?=some (X.s j)→as[k]?=some (.r x)→bs[k]?≠some (.r y))→¬Own (vs.map some) (as.map some) a:=fun {j l a} h1 h2 h3 h4 ⟨k,l',e1,o,e3⟩=>by
  obtain⟨l'',f1,f2⟩:=Wl e1;cases Option.some.inj f2;obtain⟨x,rfl⟩:=qgm o (asm l' (List.mem_of_getElem? f1));obtain⟨i,l2,v,g1,g2,g3,g4,g5⟩:=arg f1;rw[get_map g2]at e3;cases Option.some.inj (Option.some.inj e3);by_cases q:i=j
  ·subst q;obtain⟨_,y,p2⟩:=S.pin k x e1;obtain⟨z,p3,p4⟩:=Wl p2;cases Option.some.inj p4;exact h4 k x y g1 f1 p3
  ·exact R.sep i j l2 l a q g3 h1 g4 h2 g5 h3
 refine⟨⟨S.g,fun a o h=>?_,fun a o h n=>S.fr a o h fun z=>n (ow0 a z),S.hn,fun a ⟨j,l,e1,o,e3⟩=>?_,fun a ⟨j,l,e1,o,e3⟩=>?_,fun j x h=>?_⟩,⟨R'.same,?_,fun j l h=>?_,fun y h=>(R.exo y h).mono S.g,fun j j' l l' a hjj e1 e2 o1 o2 e3 e4=>?_⟩,fun a ⟨j,l,e1,o,e3⟩=>?_⟩
 ·rcases S.gf a o h with h | h | h
  ·exact .inl h
  ·exact .inr (.inl h)
  ·exact absurd h (om0 a)
 ·obtain⟨l0,h1,h2,_⟩:=own' e1 o;exact .inl ⟨j,l0,h1,h2,e3⟩
 ·have o':l.own=true:=by cases l<;>first | rfl | cases o
  obtain⟨l0,h1,h2,h3⟩:=own' e1 o';exact .inl ⟨j,l0,h1,by rw[h3];exact o,e3⟩
 ·refine⟨rfl,?_⟩;rcases Tv (j:=j) (ρ:=ρ) hn hl hb with ⟨k,x',y,_,_,_,e4⟩ | ⟨_,e2⟩
  ·rw[e4,h];exact⟨y,rfl⟩
  ·rw[e2];exact⟨x,h⟩
 ·have:∀{xs:List X} {as bs:List L} {ρ:Env},(Yd ρ xs as bs).length=ρ.length:=fun {xs}=>by
   induction xs with
   | nil=>intro as bs ρ;unfold Yd;rfl
   | cons x xs ih=>
    intro as bs ρ;have lp:∀{ρ:Env} {i:Nat} {y:D},(putS ρ i y).length=ρ.length:=fun {ρ i y}=>by
     unfold putS;split
     ·rw[List.length_set]
     ·rfl
    cases as with
    | nil=>cases x<;>rfl
    | cons a as=>
     cases bs with
     | nil=>cases x<;>cases a<;>rfl
     | cons b bs=>
      cases x with
      | d _=>exact (show (Yd ρ xs as bs).length=_ from ih)
      | s i=>
       cases a with
       | r u=>
        cases b with
        | r y=>exact (show (Yd (putS ρ i y) xs as bs).length=_ from ih.trans lp)
        | d _=>exact (show (Yd ρ xs as bs).length=_ from ih)
        | m _=>exact (show (Yd ρ xs as bs).length=_ from ih)
        | p _=>exact (show (Yd ρ xs as bs).length=_ from ih)
        | xh=>exact (show (Yd ρ xs as bs).length=_ from ih)
        | u _ _=>exact (show (Yd ρ xs as bs).length=_ from ih)
       | d _=>exact (show (Yd ρ xs as bs).length=_ from by cases b<;>exact ih)
       | m _=>exact (show (Yd ρ xs as bs).length=_ from by cases b<;>exact ih)
       | p _=>exact (show (Yd ρ xs as bs).length=_ from by cases b<;>exact ih)
       | xh=>exact (show (Yd ρ xs as bs).length=_ from by cases b<;>exact ih)
       | u _ _=>exact (show (Yd ρ xs as bs).length=_ from by cases b<;>exact ih)
  rw[this];exact R.len
 ·rcases at' h with ⟨k,x,y,l0,v,h1,h2,h3,h4,h5,rfl,h7,h8⟩ | ⟨h1,h2⟩
  ·obtain⟨u,q1,q2⟩:=R'.at_ k _ (get_map h3);rw[get_map h7]at q1;cases Option.some.inj (Option.some.inj q1);refine⟨v,h8,?_⟩;cases l0 with
   | d _=>cases h5
   | p _=>
    obtain⟨u',z1,z2⟩:=R.at_ _ _ h4;rw[h8]at z1;cases Option.some.inj (Option.some.inj z1);exact⟨q2,z2.2⟩
   | xh=>cases h5
   | u _ _=>cases h5
   | m _=>exact q2
   | r _=>exact q2
  ·obtain⟨v,q1,q2⟩:=R.at_ j l h1;refine⟨v,q1,?_⟩;have ow:∀y,l.own=true→MOk K G H v y→MOk K G' H' v y:=fun y ol hm=>by
    refine hm.mono S.g fun a ea=>?_;subst ea;obtain⟨a',ea',ga,ha⟩:=hm.ref;cases ea';have np:=apart h1 ol q1 h2;refine⟨?_,fun o ho=>S.fr a o ho np⟩;cases q:G' a with
    | none=>rfl
    | some o=>
     rcases S.gf a o q with z | z | z
     ·rw[ga]at z;cases z
     ·exact absurd z ha
     ·exact absurd z (om0 a)
   cases l with
   | d y=>exact Dq.mono S.g q2
   | m y=>exact ow y rfl q2
   | r y=>exact ow y rfl q2
   | p y=>exact⟨ow y rfl q2.1,q2.2⟩
   | xh=>exact q2
   | u _ _=>exact q2
 ·obtain⟨l0,h1,h2,_⟩:=own' e1 o1;obtain⟨l0',h1',h2',_⟩:=own' e2 o2;exact R.sep j j' l0 l0' a hjj h1 h1' h2 h2' e3 e4
 ·obtain⟨l0,h1,h2,_⟩:=own' e1 o;exact⟨j,l0,h1,h2,e3⟩
end
def Q9 (n:Nat) (F:List L→FRes) (ma:AM):EM:=fun ρ=>bindR (ma ρ) fun xs ρ1=>match Jx ρ1 xs with
 | none=>.bad
 | some as=>if xs.length=n∧(slots xs).Nodup then (match F as with
  | .ok (.d x) bs=>.ok (.d x) (Yd ρ1 xs as bs)
  | .ok (.m x) bs=>.ok (.d x) (Yd ρ1 xs as bs)
  | .ok _ _=>.bad
  | .ex e bs=>.ex e (Yd ρ1 xs as bs)
  | .bad=>.bad) else .bad
def x8 (n:Nat) (F:List L→FRes) (ma:AM):FM:=fun ρ=>bindR (ma ρ) fun xs ρ1=>match Jx ρ1 xs with
 | none=>.bad
 | some as=>if xs.length=n∧(slots xs).Nodup then (match F as with
  | .ok (.m x) bs=>.ok x (Yd ρ1 xs as bs)
  | .ok _ _=>.bad
  | .ex e bs=>.ex e (Yd ρ1 xs as bs)
  | .bad=>.bad) else .bad
def qh1 (ma:AM) (ds:List D):AM:=fun ρ=>bindR (ma ρ) fun xs ρ1=>.ok (xs++ds.map .d) ρ1
def qp0 (t:TA) (dvs:List V):TA:=fun σ H Q=>t σ H fun vs H1=>Q (vs++dvs) H1
theorem DqA.xs {K:Kx} {σ:L2.St} {G:Hp}:∀{vs:List V} {ds:List D},DqA K G vs ds→Nr K σ G vs (ds.map .d)
 | _,_,.nil=>.nil
 | _,_,.cons h t=>.cons h (DqA.xs t)
theorem Nr.app {K:Kx} {σ:L2.St} {G:Hp}:∀{vs us:List V} {xs ys:List X},Nr K σ G vs xs→Nr K σ G us ys→Nr K σ G (vs++us) (xs++ys)
 | _,_,_,_,.nil,h=>h
 | _,_,_,_,.cons h t,u=>.cons h (Nr.app t u)
theorem qkY {K:Kx} {W:WX} {t:TA} {ma:AM} {dvs:List V} {ds:List D} (ht:R8 K W t ma) (hd:∀G,DqA K G dvs ds):R8 K W (qp0 t dvs) (qh1 ma ds):=fun σ G H ρ R Q h=>by
 unfold qh1 bindR at h;refine ht.fst R (fun x ρ1 e v G1 H1 S1 R1 x1=>?_) (fun e ρ1 q=>by rw[q]at h;exact h) (fun q=>by rw[q]at h;exact h);rw[e]at h;have h:=D5.step S1 h;exact h _ G1 H1 (Stp.refl _ _ _ _) R1 (x1.app (hd G1).xs)
theorem Own.there {K:Kx} {σ:L2.St} {G H:Hp} {ρ:Env} {a:Addr} (R:Rel K σ G H ρ) (h:Own σ ρ a):H a≠none:=by
 obtain⟨i,l,h1,h2,h3⟩:=h;obtain⟨v,h4,h5⟩:=R.at_ i l h1;rw[h3]at h4;cases Option.some.inj (Option.some.inj h4);have own:∀x,MOk K G H (.ref a) x→H a≠none:=fun x hm=>by
  obtain⟨b,eb,_,h⟩:=hm.ref;cases eb;exact h
 cases l with
 | d x=>cases h2
 | m x=>exact own x h5
 | r x=>exact own x h5
 | p x=>exact own x h5.1
 | xh=>cases h2
 | u _ _=>cases h2
variable {K:Kx} {W:WX}
theorem qcR {n:Nat} {F:List L→FRes} {t:TA} {ma:AM} (ht:R8 K W t ma):Yh K W (tCallSD (spF K.k n F) [] (WE W) t) (Q9 n F ma):=fun σ G H ρ R Q h=>by
 unfold Q9 bindR at h;refine ht.fst R (fun xs ρ1 e vs G1 H1 S1 R1 x1=>?_) (fun e ρ1 q=>by rw[q]at h;exact h) (fun q=>by rw[q]at h;exact h);rw[e]at h;have h:=EPost.step S1 h;simp only at h;split at h
 ·exact h.elim
 ·rename_i as ea;split at h
  ·rename_i hnn;have hnd:=hnn.2;have A:=E3 R1 x1 ea hnd;rw[List.append_nil];refine⟨x1.len.trans hnn.1,G1,as,A,?_⟩;cases eF:F as with
   | bad=>rw[eF]at h;exact h
   | ex x bs=>
    rw[eF]at h;intro c d G' H' S' R' q;obtain⟨a,b,_⟩:=Bj R1 x1 ea hnd S' R';exact h c d G' H' a b q
   | ok l bs=>
    rw[eF]at h;intro v G' H' S' R' q;obtain⟨a,b,o⟩:=Bj R1 x1 ea hnd S' R';cases l with
    | d x=>exact h v G' H' a b q
    | m x=>
     have F:Frs K σ H1 (Yd ρ1 xs as bs) G' H' v x:=⟨q.1,fun a ea=>⟨q.2 a ea,fun z=>Own.there R1 (o a z) (q.2 a ea)⟩⟩;obtain⟨G2,S2,R2,q2⟩:=Frs.lock a b F;exact h v G2 H' S2 R2 q2
    | r x=>exact h.elim
    | p x=>exact h.elim
    | xh=>exact h.elim
    | u _ _=>exact h.elim
  ·exact h.elim
theorem qg3 {n:Nat} {F:List L→FRes} {t:TA} {ma:AM} (ht:R8 K W t ma):yn K W (tCallSD (spF K.k n F) [] (WE W) t) (x8 n F ma):=fun σ G H ρ R Q h=>by
 unfold x8 bindR at h;refine ht.fst R (fun xs ρ1 e vs G1 H1 S1 R1 x1=>?_) (fun e ρ1 q=>by rw[q]at h;exact h) (fun q=>by rw[q]at h;exact h);rw[e]at h;have h:=Mb.step S1 h;simp only at h;split at h
 ·exact h.elim
 ·rename_i as ea;split at h
  ·rename_i hnn;have hnd:=hnn.2;have A:=E3 R1 x1 ea hnd;rw[List.append_nil];refine⟨x1.len.trans hnn.1,G1,as,A,?_⟩;cases eF:F as with
   | bad=>rw[eF]at h;exact h
   | ex x bs=>
    rw[eF]at h;intro c d G' H' S' R' q;obtain⟨a,b,_⟩:=Bj R1 x1 ea hnd S' R';exact h c d G' H' a b q
   | ok l bs=>
    rw[eF]at h;intro v G' H' S' R' q;obtain⟨a,b,o⟩:=Bj R1 x1 ea hnd S' R';cases l with
    | m x=>exact h v G' H' a b ⟨q.1,fun a ea=>⟨q.2 a ea,fun z=>Own.there R1 (o a z) (q.2 a ea)⟩⟩
    | d x=>exact h.elim
    | r x=>exact h.elim
    | p x=>exact h.elim
    | xh=>exact h.elim
    | u _ _=>exact h.elim
  ·exact h.elim
variable {X:Cx}
section
variable {K:PySem.W.Frag} {G H:Hp} {v:V}
theorem Vw.int {i:Int} (h:Vw K G H v (.int i)):v=.int i:=by cases h;rfl
theorem Vw.bl {i:Bool} (h:Vw K G H v (.bl i)):v=.bl i:=by cases h;rfl
theorem Vw.str {i:Str} (h:Vw K G H v (.str i)):v=.str i:=by cases h;rfl
theorem Vw.non (h:Vw K G H v .non):v=.non:=by cases h;rfl
theorem Vw.tup {ds:List D} (h:Vw K G H v (.tup ds)):∃p xs,v=.ref p∧SqN K G p xs∧DqA K G xs ds:=by
 cases h with
 | tup h a=>exact⟨_,_,rfl,h,a⟩
theorem Vw.lst {ds:List D} (h:Vw K G H v (.lst ds)):∃p xs,v=.ref p∧H p=some (.lst xs)∧DqA K G xs ds:=h
theorem qdy {d:D} {Q:VK} {w:V} (s:Same G H) (h:jk K G H d Q) (q:Dq K G w d):Q w H:=h w G H (Gro.refl s) q
theorem Xa {i:Int} {Q:VK} (s:Same G H) (h:jk K G H (.int i) Q):Q (.int i) H:=qdy s h (.int i)
theorem Mu {b:Bool} {Q:VK} (s:Same G H) (h:jk K G H (.bl b) Q):Q (.bl b) H:=qdy s h (.bl b)
theorem qeG {b:Str} {Q:VK} (s:Same G H) (h:jk K G H (.str b) Q):Q (.str b) H:=qdy s h (.str b)
theorem Bc {ds:List D} {xs:List V} {Q:VK} {p:Addr} (s:Same G H) (hp:H p=none) (q:DqA K G xs ds) (h:jk K G H (.lst ds) Q):Q (.ref p) (upd H p (.lst xs)):=by
 have g:=Gro.new (o:=.lst xs) s hp;exact h _ _ _ g (.lst upd_same (q.mono g.g))
theorem Sd {ds:List D} {xs:List V} {Q:VK} (s:Same G H) (q:DqA K G xs ds) (h:jk K G H (.tup ds) Q):qh2 H xs Q:=fun p o ho hp=>by
 have g:=Gro.new (o:=.frz o (.tup xs)) s hp;exact h _ _ _ g (.tup (.inl ⟨o,upd_same,ho⟩) (q.mono g.g))
def qdv:D→Option (List D)
 | .lst ds=>some ds
 | .ro ds=>some ds
 | _=>none
def qaE:D→Option (List D)
 | .lst ds=>some ds
 | .ro ds=>some ds
 | .tup ds=>some ds
 | _=>none
theorem Gq {a:D} {ds:List D} (s:Same G H) (h:Vw K G H v a) (e:qdv a=some ds):∃p xs,v=.ref p∧SqL K H p xs∧DqA K G xs ds:=by
 cases a with
 | lst es=>
  cases Option.some.inj e;obtain⟨p,xs,e,h,q⟩:=h;exact⟨p,xs,e,.inl (.inl h),q⟩
 | ro es=>
  cases Option.some.inj e;cases h with
  | ro h a=>exact⟨_,_,rfl,s.seq h,a⟩
 | _=>cases e
theorem Bp {a:D} {ds:List D} (s:Same G H) (h:Vw K G H v a) (e:qaE a=some ds):∃p xs,v=.ref p∧(SqL K H p xs∨SqT K H p xs)∧DqA K G xs ds:=by
 cases a with
 | lst es=>
  obtain⟨p,xs,h1,h2,h3⟩:=Gq s h (show qdv (.lst es)=some ds from e);exact⟨p,xs,h1,.inl h2,h3⟩
 | ro es=>
  obtain⟨p,xs,h1,h2,h3⟩:=Gq s h (show qdv (.ro es)=some ds from e);exact⟨p,xs,h1,.inl h2,h3⟩
 | tup es=>
  cases Option.some.inj e;obtain⟨p,xs,h1,h2,h3⟩:=Vw.tup h;exact⟨p,xs,h1,.inr (Same.seqN s h2).sq,h3⟩
 | _=>cases e
theorem DqA.isNil {xs:List V} {ds:List D} (q:DqA K G xs ds):xs=[]↔ds=[]:=by
 cases q with
 | nil=>simp
 | cons _ _=>simp
end
def Kk:D→D→Option D
 | .int i,.int j=>some (.int (i+j))
 | .str x,.str y=>if x.length+y.length≤mx then some (.str (x++y)) else none
 | .lst x,.lst y=>if x.length+y.length≤mx then some (.lst (x++y)) else none
 | .tup x,.tup y=>if x.length+y.length≤mx then some (.tup (x++y)) else none
 | _,_=>none
theorem Q2:OpR X (binaryOp .Add) (rD2 X.K Kk):=by
 intro pins s σ H x y v u Q I rx ry h;obtain⟨G,a,b,d,sG,va,vb,e,q⟩:=h;unfold Kk at e;split at e
 ·cases Option.some.inj e;rw[va.int]at rx;rw[vb.int]at ry;exact op_add pins s σ H _ _ v u Q I rx ry ⟨_,_,rfl,rfl,Xa sG q⟩
 ·split at e
  ·rename_i hz;cases Option.some.inj e;rw[va.str]at rx;rw[vb.str]at ry;exact op_add_str pins s σ H _ _ v u Q I rx ry ⟨_,_,rfl,rfl,Xz hz,qeG sG q⟩
  ·cases e
 ·split at e
  ·rename_i hz;cases Option.some.inj e;obtain⟨p,xs,rfl,h1,h2⟩:=va.lst;obtain⟨p',ys,rfl,h1',h2'⟩:=vb.lst;exact op_cat pins s σ H _ _ v u Q I rx ry ⟨p,p',xs,ys,rfl,rfl,h1,h1',by rw[h2.length,h2'.length];exact Xz hz,fun r hr=>Bc sG hr (h2.append h2') q⟩
  ·cases e
 ·split at e
  ·rename_i hz;cases Option.some.inj e;obtain⟨p,xs,rfl,h1,h2⟩:=va.tup;obtain⟨p',ys,rfl,h1',h2'⟩:=vb.tup;refine qgs pins s σ H _ _ v u Q I rx ry ⟨p,p',xs,ys,rfl,rfl,(Same.seqN sG h1).sq,(Same.seqN sG h1').sq,by rw[h2.length,h2'.length];exact Xz hz,fun z=>?_,fun _ z=>?_,fun _ _=>Sd sG (h2.append h2') q⟩
   ·rw[h2.isNil]at z;subst z;exact qdy sG q (.tup h1' h2')
   ·rw[h2'.isNil]at z;subst z;rw[List.append_nil]at q;exact qdy sG q (.tup h1 h2)
  ·cases e
 ·cases e
def Gn:D→D→Option D
 | .int i,.int j=>some (.int (i-j))
 | _,_=>none
theorem Zl:OpR X (binaryOp .Sub) (rD2 X.K Gn):=by
 intro pins s σ H x y v u Q I rx ry h;obtain⟨G,a,b,d,sG,va,vb,e,q⟩:=h;unfold Gn at e;split at e
 ·cases Option.some.inj e;rw[va.int]at rx;rw[vb.int]at ry;exact op_sub pins s σ H _ _ v u Q I rx ry ⟨_,_,rfl,rfl,Xa sG q⟩
 ·cases e
def big:Nat:=2 ^ 5000
theorem As {i:Nat} (h:i<big):i.log2<5000:=PySem.Flt.log2_lt_of (by decide) h
def J9 (i j:Int):Prop:=i.natAbs<2 ^ 64∨j.natAbs<2 ^ 64∨(i.natAbs<big∧j.natAbs<big)
instance (i j:Int):Decidable (J9 i j):=inferInstanceAs (Decidable (_∨_∨_))
theorem J9.ok {i j:Int} (h:J9 i j):IntMulOk i j:=by
 rcases h with h | h | ⟨h1,h2⟩
 ·exact CMul.ok (.inl ⟨by omega,by omega⟩)
 ·exact CMul.ok (.inr ⟨by omega,by omega⟩)
 ·refine CMulW.ok ?_;have a:=As h1;have b:=As h2;unfold CMulW;omega
def qqu (k:Int) (ds:List D):Option (List D):=if -(2 ^ 63)≤k∧k<2 ^ 63∧ds.length*k.toNat≤mx then some (List.replicate k.toNat ds).flatten else none
theorem DqA.rep {K:PySem.W.Frag} {G:Hp} {xs:List V} {ds:List D} (q:DqA K G xs ds):∀n:Nat,DqA K G (List.replicate n xs).flatten (List.replicate n ds).flatten
 | 0=>.nil
 | n+1=>by
  rw[List.replicate_succ,List.replicate_succ,List.flatten_cons,List.flatten_cons];exact q.append (DqA.rep q n)
def U2:D→D→Option D
 | .int i,.int j=>if J9 i j then some (.int (i*j)) else none
 | .lst x,.int k=>(qqu k x).map .lst
 | _,_=>none
theorem Za:OpR X (binaryOp .Mult) (rD2 X.K U2):=by
 intro pins s σ H x y v u Q I rx ry h;obtain⟨G,a,b,d,sG,va,vb,e,q⟩:=h;unfold U2 at e;split at e
 ·split at e
  ·rename_i hz;cases Option.some.inj e;rw[va.int]at rx;rw[vb.int]at ry;obtain⟨t,rfl⟩:=rx;obtain⟨t',rfl⟩:=ry;exact mul_int ⟨.int _,H,I.tok _,⟨_,rfl⟩,Xa sG q⟩ hz.ok
  ·cases e
 ·obtain⟨es,e1,rfl⟩:=Option.map_eq_some_iff.mp e;unfold qqu at e1;split at e1
  ·rename_i hz;cases Option.some.inj e1;obtain⟨p,xs,rfl,h1,h2⟩:=va.lst;rw[vb.int]at ry;exact op_rep pins s σ H _ _ v u Q I rx ry ⟨p,_,xs,rfl,rfl,h1,hz.1,hz.2.1,by rw[h2.length];exact Xz hz.2.2,fun r hr=>Bc sG hr (h2.rep _) q⟩
  ·cases e1
 ·cases e
def Rw (j:Int):Prop:=j≠0∧j.natAbs<big
instance (j:Int):Decidable (Rw j):=inferInstanceAs (Decidable (_∧_))
theorem Rw.ok {i j:Int} (h:Rw j):Builtin.divisionGoesByPylong i j=false:=PyProof.noPylong_of_log2 (Nat.lt_trans (As h.2) (by decide))
def Np:D→D→Option D
 | .int i,.int j=>if Rw j then some (.int (i.fdiv j)) else none
 | _,_=>none
theorem Vg:OpR X (binaryOp .FloorDiv) (rD2 X.K Np):=by
 intro pins s σ H x y v u Q I rx ry h;obtain⟨G,a,b,d,sG,va,vb,e,q⟩:=h;unfold Np at e;split at e
 ·split at e
  ·rename_i hz;cases Option.some.inj e;rw[va.int]at rx;rw[vb.int]at ry;obtain⟨t,rfl⟩:=rx;obtain⟨t',rfl⟩:=ry;exact floordiv_int hz.1 ⟨.int _,H,I.tok _,⟨_,rfl⟩,Xa sG q⟩ (.inl hz.ok)
  ·cases e
 ·cases e
def qbk:D→D→Option D
 | .int i,.int j=>if j≠0 then some (.int (i.fmod j)) else none
 | _,_=>none
theorem Mo:OpR X (binaryOp .Mod) (rD2 X.K qbk):=by
 intro pins s σ H x y v u Q I rx ry h;obtain⟨G,a,b,d,sG,va,vb,e,q⟩:=h;unfold qbk at e;split at e
 ·split at e
  ·rename_i hz;cases Option.some.inj e;rw[va.int]at rx;rw[vb.int]at ry;exact op_modN pins s σ H _ _ v u Q I rx ry ⟨_,_,rfl,rfl,hz,Xa sG q⟩
  ·cases e
 ·cases e
def qlp:D→D→Option D
 | .int i,.int j=>if 0≤j∧j≤1000000∧i.natAbs<2 ^ 64 then some (.int (i ^ j.toNat)) else none
 | _,_=>none
theorem qgr:OpR X (binaryOp .Pow) (rD2 X.K qlp):=by
 intro pins s σ H x y v u Q I rx ry h;obtain⟨G,a,b,d,sG,va,vb,e,q⟩:=h;unfold qlp at e;split at e
 ·split at e
  ·rename_i hz;cases Option.some.inj e;rw[va.int]at rx;rw[vb.int]at ry;exact op_pow pins s σ H _ _ v u Q I rx ry ⟨_,_,rfl,rfl,hz,Xa sG q⟩
  ·cases e
 ·cases e
def Ro:D→Option D
 | .int i=>some (.int (-i))
 | _=>none
theorem Jh:UnR X (unaryOp .USub) (rD1 X.K Ro):=by
 intro pins s σ H x v Q I rx h;obtain⟨G,a,d,sG,va,e,q⟩:=h;unfold Ro at e;split at e
 ·cases Option.some.inj e;rw[va.int]at rx;exact un_neg pins s σ H _ v Q I rx ⟨_,rfl,Xa sG q⟩
 ·cases e
def qhY (f:Int→Int→Bool):D→D→Option D
 | .int i,.int j=>some (.bl (f i j))
 | _,_=>none
theorem Ab {op:CmpOp} {f:Int→Int→Bool} (ho:OpR X (compareOp op) (rI0 fun i j=>.bl (f i j))):OpR X (compareOp op) (rD2 X.K (qhY f)):=by
 intro pins s σ H x y v u Q I rx ry h;obtain⟨G,a,b,d,sG,va,vb,e,q⟩:=h;unfold qhY at e;split at e
 ·cases Option.some.inj e;rw[va.int]at rx;rw[vb.int]at ry;exact ho pins s σ H _ _ v u Q I rx ry ⟨_,_,rfl,rfl,Mu sG q⟩
 ·cases e
abbrev ltD:D→D→Option D:=qhY fun i j=>decide (i<j)
abbrev leD:D→D→Option D:=qhY fun i j=>decide (i≤j)
abbrev gtD:D→D→Option D:=qhY fun i j=>decide (j<i)
abbrev geD:D→D→Option D:=qhY fun i j=>decide (j≤i)
theorem U1:OpR X (compareOp .Lt) (rD2 X.K ltD):=Ab op_lt
theorem qe1:OpR X (compareOp .LtE) (rD2 X.K leD):=Ab op_le
theorem Uo:OpR X (compareOp .Gt) (rD2 X.K gtD):=Ab op_gt
theorem qd:OpR X (compareOp .GtE) (rD2 X.K geD):=Ab op_ge
mutual
def toP:D→Option PyData
 | .non=>some .none
 | .bl b=>some (.bool b)
 | .int i=>some (.int i)
 | .str x=>some (.str x)
 | .lst ds=>(yy ds).map .list
 | .ro ds=>(yy ds).map .list
 | .tup ds=>(yy ds).map .tuple
 | .dct _=>none
 | .ins _ _=>none
 | .dcT _=>none
def yy:List D→Option (List PyData)
 | []=>some []
 | d::ds=>match toP d,yy ds with
  | some p,some ps=>some (p::ps)
  | _,_=>none
end
section
variable {K:PySem.W.Frag} {G H:Hp} (s:Same G H)
include s
mutual
theorem Dq.dp:∀{d:D} {v:V} {p:PyData},Dq K G v d→toP d=some p→Dp K H v p
 | .non,_,_,h,e=>by cases h;unfold toP at e;cases Option.some.inj e;exact .non
 | .bl b,_,_,h,e=>by cases h;unfold toP at e;cases Option.some.inj e;exact .bl b
 | .int b,_,_,h,e=>by cases h;unfold toP at e;cases Option.some.inj e;exact .int b
 | .str b,_,_,h,e=>by cases h;unfold toP at e;cases Option.some.inj e;exact .str b
 | .lst ds,_,_,h,e=>by
  cases h with
  | lst hq ha=>
   unfold toP at e;obtain⟨ps,e1,rfl⟩:=Option.map_eq_some_iff.mp e;exact .lst (.inl (.inl (s _ _ hq))) (DqA.dp ha e1)
 | .ro ds,_,_,h,e=>by
  cases h with
  | ro hq ha=>
   unfold toP at e;obtain⟨ps,e1,rfl⟩:=Option.map_eq_some_iff.mp e;exact .lst (s.seq hq) (DqA.dp ha e1)
 | .tup ds,_,_,h,e=>by
  cases h with
  | tup hq ha=>
   unfold toP at e;obtain⟨ps,e1,rfl⟩:=Option.map_eq_some_iff.mp e;exact .tup ((Same.seqN s hq).sq) (DqA.dp ha e1)
 | .dct ds,_,_,h,e=>by unfold toP at e;cases e
 | .ins _ ds,_,_,h,e=>by unfold toP at e;cases e
 | .dcT ds,_,_,h,e=>by unfold toP at e;cases e
theorem DqA.dp:∀{ds:List D} {vs:List V} {ps:List PyData},DqA K G vs ds→yy ds=some ps→DpAll K H vs ps
 | [],_,_,h,e=>by cases h;unfold yy at e;cases Option.some.inj e;exact .nil
 | d::ds,_,_,h,e=>by
  cases h with
  | cons h1 h2=>
   unfold yy at e;split at e
   ·rename_i p ps e1 e2;cases Option.some.inj e;exact .cons (Dq.dp h1 e1) (DqA.dp h2 e2)
   ·cases e
end
theorem Vw.dp {d:D} {v:V} {p:PyData} (h:Vw K G H v d) (e:toP d=some p):Dp K H v p:=by
 cases d with
 | lst ds=>
  obtain⟨a,xs,rfl,h1,h2⟩:=h;unfold toP at e;obtain⟨ps,e1,rfl⟩:=Option.map_eq_some_iff.mp e;exact .lst (.inl (.inl h1)) (DqA.dp s h2 e1)
 | dct ds=>unfold toP at e;cases e
 | non=>exact Dq.dp s h e
 | bl _=>exact Dq.dp s h e
 | int _=>exact Dq.dp s h e
 | str _=>exact Dq.dp s h e
 | ro _=>exact Dq.dp s h e
 | tup _=>exact Dq.dp s h e
 | ins _ _=>unfold toP at e;cases e
 | dcT _=>unfold toP at e;cases e
end
def eqB:D→D→Option Bool
 | .int i,.int j=>some (decide (i=j))
 | a,b=>match toP a,toP b with
  | some p,some q=>if SeqAt.shaped p=true∧SeqAt.shaped q=true then some (PyData.eqv p q) else none
  | _,_=>none
def eqD (a b:D):Option D:=(eqB a b).map .bl
def neD (a b:D):Option D:=(eqB a b).map fun c=>.bl (!c)
theorem Q8 (hu:X.A.units+64<cLine):OpR X (compareOp .Eq) (rD2 X.K eqD):=by
 intro pins s σ H x y v u Q I rx ry h;obtain⟨G,a,b,d,sG,va,vb,e,q⟩:=h;obtain⟨c,e1,rfl⟩:=Option.map_eq_some_iff.mp e;have q:=Mu sG q;unfold eqB at e1;split at e1
 ·cases Option.some.inj e1;rw[va.int]at rx;rw[vb.int]at ry;refine op_eq pins s σ H _ _ v u Q I rx ry ⟨rfl,?_⟩;rw[dec_int,show ∀i j:Int,(i == j)=decide (i=j) from fun i j=>by by_cases z:i=j<;>simp[z]];exact q
 ·split at e1
  ·rename_i p p' ep ep';split at e1
   ·rename_i hz;cases Option.some.inj e1;exact op_eqD hu pins s σ H _ _ v u Q I rx ry ⟨p,p',Vw.dp sG va ep,Vw.dp sG vb ep',hz.1,hz.2,q⟩
   ·cases e1
  ·cases e1
theorem j6 (hu:X.A.units+64<cLine):OpR X (compareOp .NotEq) (rD2 X.K neD):=by
 intro pins s σ H x y v u Q I rx ry h;obtain⟨G,a,b,d,sG,va,vb,e,q⟩:=h;obtain⟨c,e1,rfl⟩:=Option.map_eq_some_iff.mp e;have q:=Mu sG q;unfold eqB at e1;split at e1
 ·cases Option.some.inj e1;rw[va.int]at rx;rw[vb.int]at ry;refine op_ne pins s σ H _ _ v u Q I rx ry ⟨rfl,?_⟩;rw[dec_int,show ∀i j:Int,(i == j)=decide (i=j) from fun i j=>by by_cases z:i=j<;>simp[z]];exact q
 ·split at e1
  ·rename_i p p' ep ep';split at e1
   ·rename_i hz;cases Option.some.inj e1;exact op_neD hu pins s σ H _ _ v u Q I rx ry ⟨p,p',Vw.dp sG va ep,Vw.dp sG vb ep',hz.1,hz.2,q⟩
   ·cases e1
  ·cases e1
def isD:D→D→Option D
 | a,.non=>some (.bl (isNone a))
 | .bl x,.bl y=>some (.bl (decide (x=y)))
 | _,_=>none
def qhT:D→D→Option D
 | a,.non=>some (.bl (!isNone a))
 | .bl x,.bl y=>some (.bl (!decide (x=y)))
 | _,_=>none
theorem Vw.isNone {K:PySem.W.Frag} {G H:Hp} {v:V} {a:D} (h:Vw K G H v a):decide (v=.non)=DL.isNone a:=by
 cases a with
 | lst _=>obtain⟨p,xs,rfl,_⟩:=h;rfl
 | dct _=>obtain⟨p,xs,rfl,_⟩:=h;rfl
 | non=>cases h;rfl
 | bl _=>cases h;rfl
 | int _=>cases h;rfl
 | str _=>cases h;rfl
 | ro _=>cases h;rfl
 | tup _=>cases h;rfl
 | ins _ _=>obtain⟨p,dx,xs,rfl,_⟩:=h;rfl
 | dcT _=>obtain⟨p,xs,ob,rfl,_⟩:=h;rfl
theorem qe2:OpR X (compareOp .Is) (rD2 X.K isD):=by
 intro pins s σ H x y v u Q I rx ry h;obtain⟨G,a,b,d,sG,va,vb,e,q⟩:=h;unfold isD at e;split at e
 ·cases Option.some.inj e;rw[vb.non]at ry;refine op_isN pins s σ H _ _ v u Q I rx ry ⟨rfl,?_⟩;rw[va.isNone];exact Mu sG q
 ·cases Option.some.inj e;rw[va.bl]at rx;rw[vb.bl]at ry;exact op_isBl pins s σ H _ _ v u Q I rx ry ⟨_,_,rfl,rfl,Mu sG q⟩
 ·cases e
theorem qb1:OpR X (compareOp .IsNot) (rD2 X.K qhT):=by
 intro pins s σ H x y v u Q I rx ry h;obtain⟨G,a,b,d,sG,va,vb,e,q⟩:=h;unfold qhT at e;split at e
 ·cases Option.some.inj e;rw[vb.non]at ry;refine op_notN pins s σ H _ _ v u Q I rx ry ⟨rfl,?_⟩;rw[va.isNone];exact Mu sG q
 ·cases Option.some.inj e;rw[va.bl]at rx;rw[vb.bl]at ry;exact op_notBl pins s σ H _ _ v u Q I rx ry ⟨_,_,rfl,rfl,Mu sG q⟩
 ·cases e
def qkb:D→Bool
 | .non=>true
 | .bl _=>true
 | .int _=>true
 | .str _=>true
 | _=>false
def eqF:D→D→Bool
 | .non,.non=>true
 | .bl a,.bl b=>a == b
 | .bl a,.int b=>(if a then 1 else 0) == b
 | .int a,.bl b=>a == (if b then 1 else 0)
 | .int a,.int b=>a == b
 | .str a,.str b=>a == b
 | _,_=>false
def inB (a b:D):Option Bool:=match qaE b with
 | some ds=>if qkb a=true∧ds.all qkb=true then some (ds.any fun d=>eqF d a) else none
 | none=>none
def inD (a b:D):Option D:=(inB a b).map .bl
theorem DqA.atI {K:PySem.W.Frag} {G:Hp} {xs:List V} {ds:List D} {i:Int} {d:D} (q:DqA K G xs ds) (h:L2.atI ds i=some d):∃v,L2.atI xs i=some v∧Dq K G v d:=by
 unfold L2.atI at h ⊢;rw[q.length];obtain⟨j,h1,h2⟩:=Option.bind_eq_some_iff.mp h;obtain⟨v,h3,h4⟩:=q.get h2;exact⟨v,by rw[h1];exact h3,h4⟩
def ixD:D→D→Option D
 | a,.int i=>match qaE a with
  | some ds=>atI ds i
  | none=>none
 | _,_=>none
theorem qrY:IxR X (rD2 X.K ixD):=by
 intro value slice pins s σ H x y v u Q I rx ry h hs;obtain⟨G,a,b,d,sG,va,vb,e,q⟩:=h;unfold ixD at e;split at e
 ·split at e
  ·rename_i i ds es;obtain⟨p,xs,rfl,h1,h2⟩:=Bp sG va es;obtain⟨w,h3,h4⟩:=h2.atI e;rw[vb.int]at ry;rcases h1 with h1 | h1
   ·exact ix_list value slice pins s σ H _ _ v u Q I rx ry ⟨p,xs,_,w,rfl,rfl,h1,h3,qdy sG q h4⟩ hs
   ·exact ix_tup value slice pins s σ H _ _ v u Q I rx ry ⟨p,xs,_,w,rfl,rfl,h1,h3,qdy sG q h4⟩ hs
  ·cases e
 ·cases e
def cutD (ds:List D) (lo hi:Option Int):List D:=(ds.drop (HT.sIx ds.length 0 lo)).take (HT.sIx ds.length ds.length hi-HT.sIx ds.length 0 lo)
theorem DqA.cut {K:PySem.W.Frag} {G:Hp} {xs:List V} {ds:List D} (q:DqA K G xs ds) (lo hi:Option Int):DqA K G (cutV xs lo hi) (cutD ds lo hi):=by
 unfold cutV cutD;rw[q.length];exact (q.drop _).take _
def slD:D→Option Int→Option Int→Option D
 | .lst ds,lo,hi=>some (.lst (cutD ds lo hi))
 | .ro ds,lo,hi=>some (.lst (cutD ds lo hi))
 | .tup ds,lo,hi=>some (.tup (cutD ds lo hi))
 | _,_,_=>none
theorem qbc {ds:List D} {lo hi:Option Int} (h:HT.sIx ds.length 0 lo=0∧HT.sIx ds.length ds.length hi=ds.length):cutD ds lo hi=ds:=by
 unfold cutD;rw[h.1,h.2];simp
theorem qs7:SlR X (rSl X.K slD):=by
 intro pins s σ H x v vl vu lo hi sl Q I rx hs pl pu h;obtain⟨G,a,d,sG,va,e,q⟩:=h;cases a with
 | lst ds=>
  cases Option.some.inj e;obtain⟨p,xs,rfl,h1,h2⟩:=va.lst;exact sl_list pins s σ H _ v vl vu lo hi sl Q I rx hs pl pu ⟨p,xs,rfl,.inl (.inl h1),fun r hr=>Bc sG hr (h2.cut lo hi) q⟩
 | ro ds=>
  cases Option.some.inj e;obtain⟨p,xs,rfl,h1,h2⟩:=Gq sG va rfl;exact sl_list pins s σ H _ v vl vu lo hi sl Q I rx hs pl pu ⟨p,xs,rfl,h1,fun r hr=>Bc sG hr (h2.cut lo hi) q⟩
 | non=>cases e
 | bl _=>cases e
 | int _=>cases e
 | str _=>cases e
 | dct _=>cases e
 | ins _ _=>cases e
 | dcT _=>cases e
 | tup ds=>
  cases Option.some.inj e;obtain⟨p,xs,rfl,h1,h2⟩:=va.tup;refine qf3 pins s σ H _ v vl vu lo hi sl Q I rx hs pl pu ⟨p,xs,rfl,(Same.seqN sG h1).sq,fun z=>?_,fun _=>Sd sG (h2.cut lo hi) q⟩;rw[h2.length]at z;rw[qbc z]at q;exact qdy sG q (.tup h1 h2)
def idxs (lo hi st:Option Int) (n:Nat):List Nat:=sliceRange (sliceBounds lo hi st n).1 (sliceBounds lo hi st n).2.1 (sliceBounds lo hi st n).2.2
def Mn {α:Type} (ds:List α) (lo hi st:Option Int):List α:=(idxs lo hi st ds.length).filterMap (ds[·]?)
theorem DqA.pick {K:PySem.W.Frag} {G:Hp} {xs:List V} {ds:List D} (q:DqA K G xs ds) (lo hi st:Option Int):DqA K G (Mn xs lo hi st) (Mn ds lo hi st):=by
 unfold Mn;rw[q.length];induction idxs lo hi st ds.length with
 | nil=>exact .nil
 | cons i r ih=>
  rw[List.filterMap_cons,List.filterMap_cons];cases e:ds[i]? with
  | none=>
   rw[List.getElem?_eq_none (by rw[q.length];exact List.getElem?_eq_none_iff.mp e)];exact ih
  | some d=>
   obtain⟨v,h1,h2⟩:=q.get e;rw[h1];exact .cons h2 ih
def qpT (K:PySem.W.Frag) (te:TE) (tl th ts:TO):TE:=fun σ H Q=>te σ H fun x H1=>tl σ H1 fun lo H2=>th σ H2 fun hi H3=>ts σ H3 fun st H4=>∃a xs,x=.ref a∧SqL K H4 a xs∧st≠some 0∧(Mn xs lo hi st).length≤sizeLine∧∀p,H4 p=none→Q (.ref p) (upd H4 p (.lst (Mn xs lo hi st)))
theorem qbT {e:Expr} {te:TE} {tl th ts:TO} {lo hi:Option Expr} {st:Expr} {p3 pos:Pos} (he:PE X e te) (hl:PO X lo tl) (hh:PO X hi th) (hs:PO X (some st) ts)
  (hst:∀a b,subscripted (.Slice lo hi (some st) p3) false (.ref a) (.ref b)=operate [.ref a,.ref b] (getItem (.ref a) (.ref b)):=by intro _ _;with_unfolding_all rfl):PE X (.Subscript e (.Slice lo hi (some st) p3) pos) (qpT X.K te tl th ts):=by
 refine⟨fun pins s σ H Q I h=>?_⟩;refine Subscript_ (thn (he.run pins s σ H _ I h) fun v s1 ⟨x,H1,I1,r1,q1⟩=>?_);refine wpAny_Slice (thn (hl.run pins s1 σ H1 _ I1 q1) fun vl s2 ⟨l,H2,I2,pl,q2⟩=>?_);refine thn (hh.run pins s2 σ H2 _ I2 q2) fun vu s3 ⟨u,H3,I3,pu,q3⟩=>?_;refine thn (hs.run pins s3 σ H3 _ I3 q3) fun vs s4 ⟨o,H4,I4,ps,a,xs,ex,hx,h0,hz',q⟩=>?_;subst ex;cases r1;have I5:Inv X pins σ H4 { s4 with heap:=s4.heap.push { cls:=.type "slice",data:=.fields #[vl,vu,vs] } }:=I4.kept (t':=s4.toks) fun b ob q=>Heap.get?_push_of_some _ q;obtain⟨its,r,ht,hz⟩:=I5.list hx;have hlen:=r.length;show wpAny (model X.prog X.w) X.A (subscriptTail e (.Slice lo hi (some st) p3) (.ref a) (.ref s4.heap.objs.size)) (EP X pins σ Q) X.xe { s4 with heap:=s4.heap.push { cls:=.type "slice",data:=.fields #[vl,vu,vs] } };refine tail_any (ops:=[.ref a,.ref s4.heap.objs.size]) ht.isList.typeIs (PySem.slot_list_getitem.lookup) ?_ (hst _ _);refine wpAny_getItem_list_slice ht.isList (Heap.IsSliceOf.new _ vl vu vs) pl pu ps h0 ?_ (by rw[List.size_toArray];omega);have hp:slicePick its.toArray l u o=(Mn its l u o).toArray:=by
  unfold slicePick Mn idxs;rw[List.size_toArray];congr 1;congr 1;funext i
  simp
 have rp:Vals (Mn xs l u o) (Mn its l u o):=by
  unfold Mn;rw[hlen];induction idxs l u o its.length with
  | nil=>exact .nil
  | cons i w ih=>
   rw[List.filterMap_cons,List.filterMap_cons];cases e:xs[i]? with
   | none=>
    rw[r.none_of e];exact ih
   | some d=>
    obtain⟨v,h1,h2⟩:=r.get e;rw[h1];exact .cons h2 ih
 rw[hp];refine⟨.ref _,_,I5.laid (t':=s4.toks) (o:=.lst (Mn xs l u o)) (fun b ob q=>Heap.get?_push_of_some _ q) (Nat.le_refl _) ?_,rfl,q _ (I5.hok.fresh (Nat.le_refl _))⟩;exact⟨hz',_,0,rp,Heap.get?_push_size _ rfl⟩
variable {K:Kx} {W:WX}
def qkd (ma:EM) (ml mh ms:OM):FM:=fun ρ=>bindR (ma ρ) fun x ρ1=>bindR (ml ρ1) fun lo ρ2=>bindR (mh ρ2) fun hi ρ3=>bindR (ms ρ3) fun st ρ4=>match look ρ4 x with
 | some a=>(match qdv a with
  | some ds=>if st≠some 0∧(Mn ds lo hi st).length≤mx then .ok (.lst (Mn ds lo hi st)) ρ4 else .bad
  | none=>.bad)
 | none=>.bad
theorem qj3 {ta:TE} {tl th ts:TO} {ma:EM} {ml mh ms:OM} (ha:Yh K W ta ma) (hl:qdq K W tl ml) (hh:qdq K W th mh) (hs:qdq K W ts ms):yn K W (qpT K ta tl th ts) (qkd ma ml mh ms):=fun σ G H ρ R Q h=>by
 unfold qkd bindR at h;refine ha.fst R (fun x ρ1 e v G1 H1 S1 R1 x1=>?_) (fun e ρ1 q=>by rw[q]at h;exact h) (fun q=>by rw[q]at h;exact h);rw[e]at h;have h:=Mb.step S1 h;simp only at h;refine hl.fst R1 (fun lo ρ2 e2 G2 H2 S2 R2=>?_) (fun e ρ1 q=>by rw[q]at h;exact h) (fun q=>by rw[q]at h;exact h);rw[e2]at h;have h:=Mb.step S2 h;simp only at h;refine hh.fst R2 (fun hi ρ3 e3 G3 H3 S3 R3=>?_) (fun e ρ1 q=>by rw[q]at h;exact h) (fun q=>by rw[q]at h;exact h);rw[e3]at h;have h:=Mb.step S3 h;simp only at h;refine hs.fst R3 (fun st ρ4 e4 G4 H4 S4 R4=>?_) (fun e ρ1 q=>by rw[q]at h;exact h) (fun q=>by rw[q]at h;exact h);rw[e4]at h;have h:=Mb.step S4 h;simp only at h;split at h
 ·rename_i a ea;split at h
  ·rename_i ds es;split at h
   ·rename_i hz;obtain⟨p,xs,rfl,h1,h2⟩:=Gq R4.same (J5 R4 (((x1.mono S2.g).mono S3.g).mono S4.g) ea) es;have q:=h2.pick lo hi st;exact⟨p,xs,rfl,h1,hz.1,by rw[q.length];exact Xz hz.2,fun r hr=>qh3.of R4 h r _ hr q⟩
   ·exact h.elim
  ·exact h.elim
 ·exact h.elim
theorem qdU {α:Type} (ds:List α):Mn ds none none (some (-1))=ds.reverse:=by
 unfold Mn idxs;rw[PySem.W.krv_bounds];show (sliceRange ((ds.length:Int)-1) (-1) (-1)).filterMap (ds[·]?)=_;rw[PySem.W.krv_sliceRange,PySem.W.krv_range,List.filterMap_reverse];congr 1;have:=PySem.W.krv_all ds.toArray;simpa using this
def Oa:List D→Option D
 | [.str x]=>if x.length≤mx then some (.int x.length) else none
 | [a]=>(qaE a).map fun ds=>.int ds.length
 | _=>none
theorem Dm {α β:Type} {R:α→β→Prop} {xs:List α} {y:β} (h:Paired R xs [y]):∃x,xs=[x]∧R x y:=by
 cases h with
 | cons h t=>cases t;exact⟨_,rfl,h⟩
theorem qgl {α β:Type} {R:α→β→Prop} {xs:List α} {y z:β} (h:Paired R xs [y,z]):∃x w,xs=[x,w]∧R x y∧R w z:=by
 cases h with
 | cons h t=>
  obtain⟨w,rfl,h2⟩:=Dm t;exact⟨_,w,rfl,h,h2⟩
theorem Vc:CallR X (.builtin "len") (rDn X.K Oa):=by
 intro pins s σ H xs us Q I r h;obtain⟨G,as,d,sG,va,e,q⟩:=h;unfold Oa at e;split at e
 ·split at e
  ·rename_i hz;cases Option.some.inj e;obtain⟨x,rfl,hx⟩:=Dm va;rw[hx.str]at r;exact call_len pins s σ H _ us Q I r ⟨_,_,rfl,⟨Xz hz,rfl⟩,Xa sG q⟩
  ·cases e
 ·obtain⟨ds,es,rfl⟩:=Option.map_eq_some_iff.mp e;obtain⟨x,rfl,hx⟩:=Dm va;obtain⟨p,xs,rfl,h1,h2⟩:=Bp sG hx es;rw[← h2.length]at q;exact call_len_seq pins s σ H _ us Q I r ⟨p,xs,rfl,h1,Xa sG q⟩
 ·cases e
def qmu:List D→Option D
 | [.int i]=>some (.int (if i<0 then -i else i))
 | _=>none
theorem qhm:CallR X (.builtin "abs") (rDn X.K qmu):=by
 intro pins s σ H xs us Q I r h;obtain⟨G,as,d,sG,va,e,q⟩:=h;unfold qmu at e;split at e
 ·cases Option.some.inj e;obtain⟨x,rfl,hx⟩:=Dm va;rw[hx.int]at r;exact call_abs pins s σ H _ us Q I r ⟨_,rfl,Xa sG q⟩
 ·cases e
def T5:List D→Option (List Int)
 | []=>some []
 | .int i::ds=>(T5 ds).map (i::·)
 | _=>none
theorem Nc:∀{ds:List D} {ns:List Int},T5 ds=some ns→ds=ns.map D.int
 | [],_,e=>by cases Option.some.inj e;rfl
 | d::ds,_,e=>by
  cases d with
  | int i=>
   obtain⟨ms,e1,rfl⟩:=Option.map_eq_some_iff.mp e;rw[Nc e1];rfl
  | _=>cases e
theorem Fu (ns:List Int):T5 (ns.map D.int)=some ns:=by
 induction ns with
 | nil=>rfl
 | cons n r ih=>
  show (T5 (r.map D.int)).map (n::·)=_;rw[ih];rfl
def qre:Int→List Int→Int
 | m,[]=>m
 | m,n::r=>qre (if n > m then n else m) r
def qq:List D→Option D
 | [.int i,.int j]=>some (.int (if j > i then j else i))
 | _=>none
def An:List D→Option D
 | [.int i,.int j]=>some (.int (if j<i then j else i))
 | _=>none
theorem Sk (hc:X.calm=true):CallR X (.builtin "max") (rDn X.K qq):=by
 intro pins s σ H xs us Q I r h;obtain⟨G,as,d,sG,va,e,q⟩:=h;unfold qq at e;split at e
 ·cases Option.some.inj e;obtain⟨x,w,rfl,hx,hw⟩:=qgl va;rw[hx.int,hw.int]at r;exact call_max2 hc pins s σ H _ us Q I r ⟨_,_,rfl,Xa sG q⟩
 ·cases e
theorem Nl (hc:X.calm=true):CallR X (.builtin "min") (rDn X.K An):=by
 intro pins s σ H xs us Q I r h;obtain⟨G,as,d,sG,va,e,q⟩:=h;unfold An at e;split at e
 ·cases Option.some.inj e;obtain⟨x,w,rfl,hx,hw⟩:=qgl va;rw[hx.int,hw.int]at r;exact call_min2 hc pins s σ H _ us Q I r ⟨_,_,rfl,Xa sG q⟩
 ·cases e
def zt (f:List Int→Option Int):List D→Option D
 | [a]=>match qdv a with
  | some ds=>(match T5 ds with
   | some ns=>(f ns).map .int
   | none=>none)
  | none=>none
 | _=>none
theorem qcJ {K:PySem.W.Frag} {G H:Hp} {f:List Int→Option Int} {xs:List V} {as:List D} {d:D} (sG:Same G H) (va:Paired (Vw K G H) xs as) (e:zt f as=some d):∃p ns i,xs=[.ref p]∧SqL K H p (ns.map V.int)∧f ns=some i∧d=.int i:=by
 unfold zt at e;split at e
 ·split at e
  ·rename_i ds es;split at e
   ·rename_i ns en;obtain⟨i,ei,rfl⟩:=Option.map_eq_some_iff.mp e;obtain⟨x,rfl,hx⟩:=Dm va;obtain⟨p,ys,rfl,h1,h2⟩:=Gq sG hx es;rw[Nc en]at h2;rw[h2.ints]at h1;exact⟨p,ns,i,rfl,h1,ei,rfl⟩
   ·cases e
  ·cases e
 ·cases e
def qrd:List Int→Option Int
 | []=>none
 | n::r=>some (qre n r)
abbrev maxD:List D→Option D:=zt qrd
abbrev qp1:List D→Option D:=zt fun ns=>some ns.sum
theorem qhl (hc:X.calm=true):CallR X (.builtin "sum") (rDn X.K qp1):=by
 intro pins s σ H xs us Q I r h;obtain⟨G,as,d,sG,va,e,q⟩:=h;obtain⟨p,ns,i,rfl,h1,h2,rfl⟩:=qcJ sG va e;cases Option.some.inj h2;exact cr_sum hc pins s σ H _ us Q I r ⟨p,ns,rfl,h1,Xa sG q⟩
def intD:List D→Option D
 | [.int i]=>some (.int i)
 | [.bl b]=>some (.int (if b then 1 else 0))
 | _=>none
theorem Mv:CallR X (.type "int") (rDn X.K intD):=by
 intro pins s σ H xs us Q I r h;obtain⟨G,as,d,sG,va,e,q⟩:=h;unfold intD at e;split at e
 ·cases Option.some.inj e;obtain⟨x,rfl,hx⟩:=Dm va;rw[hx.int]at r;exact call_int1 pins s σ H _ us Q I r (.inl ⟨_,rfl,Xa sG q⟩)
 ·cases Option.some.inj e;obtain⟨x,rfl,hx⟩:=Dm va;rw[hx.bl]at r;exact call_int1 pins s σ H _ us Q I r (.inr ⟨_,rfl,Xa sG q⟩)
 ·cases e
def qji:List D→Option (List D)
 | [a]=>qaE a
 | _=>none
theorem qeL:CallR X (.type "list") (rFn X.K qji):=by
 intro pins s σ H xs us Q I r h;obtain⟨G,as,d,sG,va,e,q⟩:=h;unfold qji at e;split at e
 ·obtain⟨x,rfl,hx⟩:=Dm va;obtain⟨p,ys,rfl,h1,h2⟩:=Bp sG hx e;exact call_list_of pins s σ H _ us Q I r ⟨p,ys,rfl,h1,fun l hl=>q l ys hl h2⟩
 ·cases e
def Bi:List D→Option D
 | [a]=>(qaE a).map .tup
 | _=>none
theorem Sj:CallR X (.type "tuple") (rDn X.K Bi):=by
 intro pins s σ H xs us Q I r h;obtain⟨G,as,d,sG,va,e,q⟩:=h;unfold Bi at e;split at e
 ·rename_i a;obtain⟨ds,es,rfl⟩:=Option.map_eq_some_iff.mp e;obtain⟨x,rfl,hx⟩:=Dm va;cases a with
  | tup ys=>
   cases Option.some.inj es;obtain⟨p,ys,rfl,h1,h2⟩:=hx.tup;exact Wf pins s σ H _ us Q I r ⟨p,ys,rfl,.inr ⟨(Same.seqN sG h1).sq,qdy sG q (.tup h1 h2)⟩⟩
  | lst ys=>
   obtain⟨p,ys,rfl,h1,h2⟩:=Gq sG hx (show qdv (.lst ys)=some ds from es);exact Wf pins s σ H _ us Q I r ⟨p,ys,rfl,.inl ⟨h1,Sd sG h2 q⟩⟩
  | ro ys=>
   obtain⟨p,ys,rfl,h1,h2⟩:=Gq sG hx (show qdv (.ro ys)=some ds from es);exact Wf pins s σ H _ us Q I r ⟨p,ys,rfl,.inl ⟨h1,Sd sG h2 q⟩⟩
  | _=>cases es
 ·cases e
def qhJ:D→Option String
 | .non=>some "NoneType"
 | .bl _=>some "bool"
 | .int _=>some "int"
 | .str _=>some "str"
 | .lst _=>some "list"
 | .tup _=>some "tuple"
 | .dct _=>some "dict"
 | _=>none
theorem qfJ {K:PySem.W.Frag} {G H:Hp} {v:V} {a:D} {t:String} (sG:Same G H) (h:Vw K G H v a) (e:qhJ a=some t):TyX K H v (.type t):=by
 cases a with
 | non=>cases Option.some.inj e;rw[h.non];exact .base .non
 | bl b=>cases Option.some.inj e;rw[h.bl];exact .base (.bl b)
 | int i=>cases Option.some.inj e;rw[h.int];exact .base (.int i)
 | str x=>cases Option.some.inj e;rw[h.str];exact .base (.str x)
 | lst ds=>
  cases Option.some.inj e;obtain⟨p,xs,rfl,h1,_⟩:=h.lst;exact .base (.lst h1)
 | tup ds=>
  cases Option.some.inj e;obtain⟨p,xs,rfl,h1,_⟩:=h.tup;rcases (Same.seqN sG h1).sq with (h1 | ⟨o,h1⟩) | ⟨o,its,n,hk,hc,_⟩
  ·exact .base (.tup h1)
  ·exact .fTuple h1
  ·exact .kTuple hk hc
 | dct ds=>
  cases Option.some.inj e;obtain⟨p,kvs,rfl,h1,_⟩:=h;exact .base (.dK h1)
 | ro _=>cases e
 | ins _ _=>cases e
 | dcT _=>cases e
def qm3 (K:PySem.W.Frag) (g:D→Option D) (T:String):List V→Hp→VK→Prop:=fun xs H Q=>∃x,xs=[x,.ty T]∧rD1 K g x H Q
def jm (t T:String):Bool:=t == T || (t == "bool" && T == "int") || T == "object"
def qfh (T:String) (a:D):Option D:=(qhJ a).map fun t=>.bl (jm t T)
theorem qkP {T:String} (hk:∀t∈["NoneType","bool","int","str","list","tuple","dict"],PySem.W.kitOne X.K (.type t) (.type T)=some (jm t T)):CallR X (.builtin "isinstance") (qm3 X.K (qfh T) T):=by
 intro pins s σ H xs us Q I r h;obtain⟨x,rfl,G,a,d,sG,va,e,q⟩:=h;unfold qfh at e;obtain⟨t,et,rfl⟩:=Option.map_eq_some_iff.mp e;have hm:t∈["NoneType","bool","int","str","list","tuple","dict"]:=by
  cases a<;>first | (cases Option.some.inj et;decide) | cases et
 exact call_isi pins s σ H _ us Q I r ⟨x,_,_,_,_,rfl,.ty T,qfJ sG va et,hk t hm,Mu sG q⟩
def qdx (T:String) (ma:EM):EM:=eUn (qfh T) ma
theorem qkq {T:String} {ta:TE} {ma:EM} (ha:Yh K W ta ma):Yh K W (tCB (qm3 K (qfh T) T) (tCons ta (tCons (tC (.ty T)) tNil))) (qdx T ma):=fun σ G H ρ R Q h=>by
 have:=qkh (g:=qfh T) ha σ G H ρ R Q h;unfold tUn at this;refine ha.fst R (T:=fun x H1=>qm3 K.k (qfh T) T [x,.ty T] H1 Q) ?_ ?_ ?_;all_goals
  unfold qdx eUn bindR at h
 ·intro x ρ1 e v G1 H1 S1 R1 x1;rw[e]at h;have h:=EPost.step S1 h;simp only at h;split at h
  ·rename_i a ea;unfold oD at h;split at h
   ·rename_i d hd;exact⟨v,rfl,G1,a,d,R1.same,J5 R1 x1 ea,hd,jk.of R1 h⟩
   ·exact h.elim
  ·exact h.elim
 ·intro e ρ1 q;rw[q]at h;exact h
 ·intro q;rw[q]at h;exact h
end DL
set_option maxHeartbeats 2000000
namespace PySem
namespace ErrX
open PySem.W PySem.Calls PyProof.Rows PySem.HandSPX
def qaF (f:Str):Scope:={ kind:=.function,names:=[(PySem.Str.ofString "self",.local),(f,.local),(PySem.Str.ofString "__class__",.free),(PySem.Str.ofString "super",.globalImplicit)],isGenerator:=false,isCoroutine:=false,more:=[] }
structure IniTxt (P:Program) (K:Frag) (f:Str) (C fI cc cda:Addr) (ps:Arguments) (bd:List Stmt) (sc:Scope):Prop where
 fn:∃oc od osl qual kV doc pm an ct,K.lookup fI=some ⟨oc,od,.func (ksFn "__init__" qual ps bd sc .none kV doc pm an (.ref cda) ct cc),osl⟩∧codeIn K (.ref cda) qual=true∧
  ∀(s:Shared) (x v:Value),BindsTo s (ksFn "__init__" qual ps bd sc .none kV doc pm an (.ref cda) ct cc) ⟨[x,v],[]⟩ [("self",x),(f,v)]
 code:∃ccl cdd vs ccs file tf,K.lookup cda=some ⟨ccl,cdd,.fields vs,ccs⟩∧vs[2]?=some (.str file tf)∧((P.main.file:Str) == file)=true
 cell:∃cl cld csl,K.lookup cc=some ⟨cl,cld,.cell (some (.ref C)),csl⟩
 bd:∃msg p0 p1 p2 p3 p4 p5 q1 q2 q3 q4,(p2.endLine == p4.line)=true∧bd=body f msg p0 p1 p2 p3 p4 p5 q1 q2 q3 q4
 p1:∃ar,(ps.posonlyargs++ps.args).head?=some ar∧ar.arg="self"
 kS:sc.names.lookup ("self" : Str)=some .local
 kF:sc.names.lookup f=some .local
 kC:sc.names.lookup ("__class__" : Str)=some .free
 kU:sc.names.lookup ("super" : Str)=some .globalImplicit
 ncell:∀x∈sc.names,x.2≠.cell
 scE:sc=qaF f
 nd:("self" : Str)≠f
 dbg:(f == ("__debug__" : Str))=false
structure ErrTxt (P:Program) (K:Frag) (mg:Str→Option Value) (nm f:Str) (C:Addr):Prop where
 gC:mg nm=some (.ref C)
 cls:∃nm q N bs bm sn sub ab col dd k0 k1 k2 k3 k5,K.lookup C=some (excClassObj nm q C N bs bm true sn sub ab col dd k0 k1 k2 k3 k5 "ValueError.__new__")∧refsVE bm=true
 sa:findIn K (.ref C) "__setattr__"=some (some (.builtin "object.__setattr__"))
 noN:findIn K (.ref C) f=some none
 kC:keepIn K (.ref C)=true
 exC:subIn K (.ref C) (.type "BaseException")=some true
 veC:subIn K (.ref C) (.type "ValueError")=some true
 tyC:typeIn K (.ref C)=some (.type "type")
 mC:mroIn K C (.ref C)=some true
 along:ks_superIn K C C "__init__"=some (some (.builtin "ValueError.__init__"))
 opq:nsIn K cStatics "thirdparty.any"=some none
 sup:nsIn K mainGlobals "super"=some none
 top:(P.main.scope.names.lookup ("super" : Str)).isSome=false
 ini:∃fI cc cda ps bd sc,findIn K (.ref C) "__init__"=some (some (.ref fI))∧typeIn K (.ref fI)=some (.type "function")∧IniTxt P K f C fI cc cda ps bd sc
theorem qda {o e:Expr} {env:Env} {name:Str} {p2 p4:Pos} (hl:(p2.endLine == p4.line)=true) (he:starEach [e] env=[(false,eval e env)]:=by rfl) :
  eval (.Call (.Attribute o name p2) [e] [] p4) env=(do
   let ov ← attributeBase o name env (eval o env)
   standAt p2.atName
   let (f,first) ← holding [ov] (getMethod ov name (do return (← importBound o env).getD true))
   callWith p4 f first (backTo p4 (starEach [e] env)) []):=by
 show (do
  let ov ← attributeBase o name env (eval o env)
  standAt p2.atName
  methodCall o name p2 p4 env ov 1 (backTo p4 (starEach [e] env)) [])=_
 have h1:∀few,methodCallPos few o env p2 p4=pure p4:=fun few=>by
  unfold methodCallPos;rw[hl,Bool.or_true];rfl
 unfold methodCall;simp only[h1,pure_bind];rw[he];rfl
theorem vg (v:Value):[v].length≤sizeLine:=by
 rw[sizeLine_eq];exact (by decide:1≤16777216)
theorem qed {K:Frag} {h h':Heap} {x:Addr} (X:K.In h) (hx:K.lookup x=none) (k:∀b o,b≠x→h.get? b=some o→h'.get? b=some o):K.In h':=fun a o e=>
 k a o (fun z=>by rw[z,hx]at e;cases e) (X a o e)
structure InitEnd (h h':Heap) (x C dx t1:Addr) (f:Str) (v:Value):Prop where
 keep:∀b o,b≠x→h.get? b=some o→h'.get? b=some o
 obj:h'.get? x=some { cls:=.ref C,dict:=some dx,data:=.fields #[.ref t1,.none,.none,.none,.bool false,.none] }
 dbig:h.objs.size≤dx
 dne:dx≠x
 ns:h'.Ns1 dx (fun y=>if y=f then some v else none)
structure OwnMade (h h':Heap) (e C d:Addr) (f:Str) (v:Value):Prop where
 keep:∀b o,h.get? b=some o→h'.get? b=some o
 new:h.objs.size≤e
 obj:∃oe vs,h'.get? e=some oe∧oe.cls=.ref C∧oe.dict=some d∧oe.data=.fields vs∧vs[1]?=some .none
 dbig:h.objs.size≤d
 dne:d≠e
 ns:h'.Ns1 d (fun y=>if y=f then some v else none)
section
variable {prog:Program} {w:World} {A:Around} {E:Value→Shared→Prop} {h:Heap} {g:Array GenState} {d:Drawn} {t:Nat} {os:OsState}
variable {nm q:Str} {C N:Addr} {bs bm:List Value} {hdct:Bool} {sn:List Str} {sub:List Value} {ab:Bool} {col:Option Bool} {dd:Option Addr} {k0 k1 k2 k3 k5:Option Value}
theorem qht {u e t0:Addr} {rest:List Value} {Q:Value→Shared→Prop}
  (hC:h.get? C=some (excClassObj nm q C N bs bm hdct sn sub ab col dd k0 k1 k2 k3 k5 "ValueError.__new__")) (he:h.get? e=some (excO C t0)) (hu:h.get? u=some (kxs_mw "ValueError.__init__" e)) (hrest:rest.length≤sizeLine)
  (hq:∀h' t1,h.objs.size≤h'.objs.size→(∀b o,b≠e→h.get? b=some o→h'.get? b=some o)→h'.get? e=some (excO C t1)→Q .none ⟨h',g,d,t,os⟩) :
  wpAny (model prog w) A (call (.ref u) rest) Q E ⟨h,g,d,t,os⟩:=by
 have FB:=F.excBase_ValueError;refine wpAny_call (codeAny_of_tree ?_);show wpAny _ A.in1 (callAny (.ref u) ⟨rest,[]⟩) _ _ _;simp only[callAny];refine wpAny_bind (wpAny_load hu ?_);simp only[kxs_mw,show (Value.type "method-wrapper" == Value.type "method" || Value.type "method-wrapper" == Value.type "builtin_function_or_method" || Value.type "method-wrapper" == Value.type "method-wrapper")=true by decide,if_true];refine KFB.if_so (by decide) ?_;refine wpAny_bind (check_bound_init FB.toExcCallFacts hC he rfl ?_);refine wpAny_bind (wpAny_pure (wpAny_pure ?_));refine⟨plainId_quiet FB.init.plain _,codeAny_builtin FB.initEntry ?_⟩;refine exc_init_tree (cls:=.ref C) (t0:=t0) (dv:=none) (c2:=.none) (c3:=.none) (b4:=.bool false) he hrest fun h' k e' t'=>hq h' h.objs.size ?_ k e';exact Nat.le_of_lt (Heap.lt_size t')
end
section
variable {prog:Program} {w:World} {A:Around} {E:Value→Shared→Prop} {R:Result→Shared→Prop} {s:Shared} {K:Frag} {mg mb:Str→Option Value} {nm f:Str} {C:Addr}
theorem qew (T:ErrTxt prog K mg nm f C) {fI cc cda:Addr} {ps:Arguments} {bd:List Stmt} {sc:Scope} (J:IniTxt prog K f C fI cc cda ps bd sc)
  {x t0:Addr} {v:Value} (X:K.In s.heap) (hG:s.heap.Ns mainGlobals mg) (hB:s.heap.Ns builtinsNs mb) (hb:∀y:Str,y≠"__name__"→mb y=bootBuiltins y) (hlim:s.heap.NoLimit) (hx:s.heap.get? x=some (excO C t0)) (hnx:K.lookup x=none) (hroom:A.depth<recursionLimit)
  (hq:∀h' tk dx t1,InitEnd s.heap h' x C dx t1 f v→R (.ok (.ret .none)) { s with heap:=h',toks:=tk }) :
  codeAny (model prog w) A (.call (.ref fI) ⟨[.ref x,v],[]⟩) R s:=by
 obtain⟨oc,od,osl,qual,kV,doc,pm,an,ct,ho,hcd,hbind⟩:=J.fn;obtain⟨ccl,cdd,vs,ccs,file,tf,hcda,hvs,hfile⟩:=J.code;obtain⟨cl,cld,csl,hcc⟩:=J.cell;obtain⟨cnm,q,N,bs,bm,sn,sub,ab,col,dd,k0,k1,k2,k3,k5,hC,hbm⟩:=T.cls;obtain⟨ar,har,hars⟩:=J.p1;obtain⟨msg,p0,p1,p2,p3,p4,p5,q1,q2,q3,q4,hline,hbd⟩:=J.bd;subst hbd;have hsc:=J.scE;subst hsc;have hcl:clsIn K C=some { name:=cnm,bases:=bs,mro:=.ref C::bm,ns:=N,qualname:=q,hasDict:=true,slotNames:=sn,subclasses:=sub,abstract:=ab,collection:=col,hasDel:=false }:=by unfold clsIn;rw[hC]<;>rfl
 refine ks_codeAny_call_defAt (binds:=[("self",.ref x),(f,v)]) hroom (X _ _ ho) rfl hlim (codeRec_of X hcd) rfl (hbind _ _ _) J.ncell (by
  intro y hy;rcases List.mem_cons.mp hy with rfl | hy
  ·exact J.kS
  ·rcases List.mem_cons.mp hy with rfl | hy
   ·exact J.kF
   ·exact absurd hy (List.not_mem_nil)) (fun h₁ hns hk₁=>?_) rfl rfl rfl
 have X₁:K.In h₁:=X.keeps hk₁;have hx₁:=hk₁ _ _ hx;have hself:(List.reverse [(("self" : Str),Value.ref x),(f,v)]).lookup ("self" : Str)=some (Value.ref x):=by
  show List.lookup ("self" : Str) [(f,v),(("self" : Str),Value.ref x)]=_;simp[List.lookup,show (("self" : Str) == f)=false from by simpa using J.nd]
 have hfv:(List.reverse [(("self" : Str),Value.ref x),(f,v)]).lookup f=some v:=by
  show List.lookup f [(f,v),(("self" : Str),Value.ref x)]=_;simp[List.lookup]
 have hL:s.heap.objs.size≠x:=Nat.ne_of_gt (Heap.lt_size hx);have hxC:x≠C:=fun z=>by rw[z,hC]at hnx;cases hnx
 show _root_.PySem.wpAt _ (A.deeper (ksEnv qual (qaF f) s.heap.objs.size fI (.ref cda) cc)) (.func _ (ksEnv qual (qaF f) s.heap.objs.size fI (.ref cda) cc)) (execs _ (ksEnv qual (qaF f) s.heap.objs.size fI (.ref cda) cc)) _ _ _;refine ks_wpAt_execs_cons (ks_wpAt_Expr_any (ks_wpAt_MethodCall (pl:=(do return (← importBound (.Call (.Name "super" p0) [] [] p1) (ksEnv qual (qaF f) s.heap.objs.size fI (.ref cda) cc)).getD true)) ?_ (qda hline)));obtain⟨hp,gg,dr,tk,os⟩:=s;refine ks_wpAt_super_base (env:=ksEnv qual (qaF f) hp.objs.size fI (.ref cda) cc) J.kU J.kC (by decide) rfl (X₁ _ _ ho) rfl har rfl (X₁ _ _ hcda) rfl hvs hfile T.top ?_;refine ks_loadName_global rfl J.kU (loadGlobal_builtin (env:=ksEnv qual (qaF f) hp.objs.size fI (.ref cda) cc) (hG.keeps hk₁) (mg_none_of X hG T.sup) (hB.keeps hk₁) ((hb _ (by decide +kernel)).trans (by first | boot_by_name | rfl | kernel_rfl)) ⟨rfl,?_⟩);refine wpAny_loadName_free rfl J.kC rfl ⟨_,X₁ _ _ hcc,rfl⟩ ?_;rw[hars];refine wpAny_loadName_local rfl J.kS hns hself ?_;have hC₁:h₁.get? C=_:=X₁ _ _ hC;refine ks_wpAny_isType_cls hC₁ rfl ⟨rfl,?_⟩;refine ks_wpAny_call_super hC₁ rfl hx₁ rfl (fun _ z=>nomatch z) (looks_mroIn X₁ T.mC) (fun h₂ e₂ hk₂=>?_);have X₂:K.In h₂:=X₁.keeps hk₂;have hx₂:=hk₂ _ _ hx₁;have I₂:InstAt h₂ x (excO C t0) C none:=⟨hx₂,rfl,rfl,trivial⟩;have hal:alongIn K "__init__" (((Value.ref C::bm).dropWhile (· != .ref C)).drop 1)=some (some (.builtin "ValueError.__init__")):=by
  have q:=T.along;unfold ks_superIn at q;rw[hcl]at q;exact q
 refine kxs_getMethod kxs_ValueError e₂ (looks_opaque X₂ T.opq) (l₀:=.ref C::bm) (fun A Q E s k q=>wpAny_bind ((looks_clsIn X₂ hcl) A _ E s k (wpAny_pure q))) rfl X₂ hal (I₂.type.andThen (looks_subIn X₂ T.veC)) hxC (by decide) ?_;have hk₃ : ∀b o,h₂.get? b=some o→(h₂.push (kxs_mw "ValueError.__init__" x)).get? b=some o:=fun b o e=>Heap.get?_push_of_some _ e;refine kxs_callWith (i:="ValueError.__init__") (x:=x) rfl (evalArgs_plain (spliced_cons (Calls.Constant_str (pos:=p3) (k:=0) (spliced_nil ⟨Heap.get?_push_at rfl rfl,?_⟩))));refine qht (X₂.keeps hk₃ _ _ hC) (hk₃ _ _ hx₂) (Heap.get?_push_at rfl rfl) (vg _) fun h₄ t₄ hsz₄ k₄ hx₄=>?_;have k4:∀b o,b≠x→hp.get? b=some o→h₄.get? b=some o:=fun b o hb e=>k₄ b o hb (hk₃ _ _ (hk₂ _ _ (hk₁ _ _ e)));have k14:∀b o,b≠x→h₁.get? b=some o→h₄.get? b=some o:=fun b o hb e=>k₄ b o hb (hk₃ _ _ (hk₂ _ _ e));have X₄ : K.In h₄:=qed X hnx k4;have hns₄ : h₄.Ns hp.objs.size (fun y=>(List.reverse [(("self" : Str),Value.ref x),(f,v)]).lookup y):=by
  obtain⟨oL,es,ep,hoL,r⟩:=hns;exact⟨oL,es,ep,k14 _ _ hL hoL,r⟩
 show _root_.PySem.wpAt _ _ _ (execs _ _) _ _ _;refine wpAt_of_wpAny (wpAny_execs_cons (plainObj_wpAny_Assign_Attribute ?_ (by rfl)));refine wpAny_Name (wpAny_loadName_local rfl J.kF hns₄ hfv (wpAny_Name (wpAny_loadName_local rfl J.kS hns₄ hself ?_) (by decide))) J.dbg;refine set_plain X₄ (ox:=excO C t₄) (od:=none) ⟨hx₄,rfl,rfl,trivial⟩ T.sa ?_;refine exc_osa X₄ hx₄ hcl (show refsVE (.ref C::bm)=true from hbm) rfl T.noN (fun h₅ tk₅ dx k₅ dn dne hx₅ hn₅=>?_);show wpAny _ _ (execs _ _) _ _ _;have z:hp.objs.size<h₄.objs.size:=hns₄.lt;exact wpAny_execs_nil (hq h₅ tk₅ dx t₄ ⟨fun b o hb e=>k₅ b o hb (k4 b o hb e),hx₅,Nat.le_of_lt (Nat.lt_of_lt_of_le z dn),dne,hn₅⟩)
theorem qev (T:ErrTxt prog K mg nm f C) {v:Value} (X:K.In s.heap) (hG:s.heap.Ns mainGlobals mg) (hB:s.heap.Ns builtinsNs mb) (hb:∀y:Str,y≠"__name__"→mb y=bootBuiltins y) (hlim:s.heap.NoLimit) (hroom:A.depth+1<recursionLimit)
  (hq:∀h' tk e d,OwnMade s.heap h' e C d f v→R (.ok (.ret (.ref e))) { s with heap:=h',toks:=tk }) :
  codeAny (model prog w) A (.call (.ref C) ⟨[v],[]⟩) R s:=by
 obtain⟨cnm,q,N,bs,bm,sn,sub,ab,col,dd,k0,k1,k2,k3,k5,hC,hbm⟩:=T.cls;obtain⟨fI,cc,cda,ps,bd,sc,iC,tI,J⟩:=T.ini;obtain⟨hp,g,dr,tk,os⟩:=s;have k:∀b o,hp.get? b=some o→((hp.push (kdv_tup [v])).push (excO C hp.objs.size)).get? b=some o:=fun b o e=>Heap.get?_push_of_some _ (Heap.get?_push_of_some _ e);have hget:((hp.push (kdv_tup [v])).push (excO C hp.objs.size)).get? (hp.objs.size+1)=some (excO C hp.objs.size):=by heap_get
 have hnx:K.lookup (hp.objs.size+1)=none:=by
  cases e:K.lookup (hp.objs.size+1) with
  | none=>rfl
  | some o=>
   have z:hp.get? (hp.objs.size+1)=some o:=X _ _ e;exact absurd (Nat.lt_of_succ_lt (Heap.lt_size z)) (Nat.lt_irrefl _)
 refine call_own F.excBase_ValueError (fun X=>refsVE_contains X bm hbm) (X _ _ hC) (looks_findIn X iC) (fun self=>bind_fn X self tI) (vg v) ?_;refine qew (s:=⟨(hp.push (kdv_tup [v])).push (excO C hp.objs.size),g,dr,tk,os⟩) T J (X.keeps k) (hG.keeps k) (hB.keeps k) hb (hlim.keeps k) hget hnx ?_ fun h' tk' dx t1 ⟨k',hx,dn,dne,hns⟩=>?_
 ·show A.depth+1<recursionLimit;exact hroom
 ·have old:∀b o,hp.get? b=some o→h'.get? b=some o:=fun b o e=>k' b o (Nat.ne_of_lt (Nat.lt_succ_of_lt (Heap.lt_size e))) (k b o e);have z:hp.objs.size+1+1≤dx:=by
   first
    | (simpa only [Heap.size_push] using dn)
    | exact dn
    | (have q:=dn;rw[Heap.size_push,Heap.size_push]at q;exact q)
  exact⟨rfl,hq h' tk' (hp.objs.size+1) dx ⟨old,Nat.le_succ _,⟨_,_,hx,rfl,rfl,rfl,rfl⟩,Nat.le_trans (Nat.le_trans (Nat.le_succ _) (Nat.le_succ _)) z,dne,hns⟩⟩
end
end ErrX
end PySem
namespace DL
open PySem PySem.Spec PyProof.Rows L2
variable {K:Kx} {W:WX}
def tOf (K:Kx) (W:WX) (m:SM):TS:=fun D σ H=>∃G ρ,Rel K σ G H ρ∧Z6 K W σ G H ρ D (m ρ)
def qpX (K:Kx) (W:WX) (m:EM):TE:=fun σ H Q=>∃G ρ,Rel K σ G H ρ∧EPost K W σ G H ρ Q (m ρ)
def qpW (K:Kx) (W:WX) (m:TM):TT:=fun σ H Q=>∃G ρ,Rel K σ G H ρ∧Ld K W σ G H ρ Q (m ρ)
theorem qet {m:EM}:Yh K W (qpX K W m) m:=fun σ G H ρ R D h=>⟨G,ρ,R,h⟩
theorem qib {m:TM}:Ie K W (qpW K W m) m:=fun σ G H ρ R D h=>⟨G,ρ,R,h⟩
def qdu:D→Option Bool
 | .non=>some false
 | .bl b=>some b
 | .int i=>some (i != 0)
 | .str y=>if y.length≤mx then some ((y.length:Int) != 0) else none
 | .lst ds=>some (!ds.isEmpty)
 | .ro ds=>some (!ds.isEmpty)
 | .tup ds=>some (!ds.isEmpty)
 | .dct kvs=>some (!kvs.isEmpty)
 | .ins _ _=>none
 | .dcT _=>none
theorem DqA.empty {K:PySem.W.Frag} {G:Hp} {xs:List V} {ds:List D} (q:DqA K G xs ds):xs.isEmpty=ds.isEmpty:=by
 cases q<;>rfl
theorem DqK.empty {K:PySem.W.Frag} {G:Hp} {xs:List (Key×V)} {ds:List (Key×D)} (q:DqK K G xs ds):xs.isEmpty=ds.isEmpty:=by
 cases q<;>rfl
theorem qfO {K:PySem.W.Frag} {G H:Hp} {v:V} {a:D} {b:Bool} (s:Same G H) (h:Vw K G H v a) (e:qdu a=some b):TruV K v H b:=by
 cases a with
 | non=>cases h;cases e;exact rfl
 | bl c=>cases h;cases e;exact rfl
 | int i=>cases h;cases e;exact rfl
 | str y=>
  cases h;have e:(if y.length≤mx then some ((y.length:Int) != 0) else none)=some b:=e;split at e
  ·rename_i hy;cases e;exact⟨Xz hy,rfl⟩
  ·cases e
 | lst ds=>
  obtain⟨p,xs,rfl,hp,q⟩:=h;cases e;exact .inl ⟨xs,SqL.of hp,by rw[q.empty]⟩
 | ro ds=>
  have h:Dq K G v (.ro ds):=h;cases h with
  | ro hp q=>
   cases e;exact .inl ⟨_,s.seq hp,by rw[q.empty]⟩
 | tup ds=>
  have h:Dq K G v (.tup ds):=h;cases h with
  | tup hp q=>
   cases e;exact .inr (.inl ⟨_,(Same.seqN s hp).sq,by rw[q.empty]⟩)
 | dct kvs=>
  obtain⟨p,xs,rfl,hp,q⟩:=h;cases e;exact .inr (.inr ⟨xs,hp,by rw[q.empty]⟩)
 | ins C fs=>cases e
 | dcT fs=>cases e
def Ek (ma:EM):TM:=fun ρ=>bindR (ma ρ) fun x ρ1=>match (look ρ1 x).bind qdu with
 | some b=>.ok b ρ1
 | none=>.bad
theorem qia {ta:TE} {ma:EM} (ha:Yh K W ta ma):Ie K W (qs4 K ta) (Ek ma):=fun σ G H ρ R Q h=>by
 unfold Ek bindR at h;refine ha.fst R (fun x ρ1 e v G1 H1 S1 R1 x1=>?_) (fun e ρ1 q=>by rw[q]at h;exact h) (fun q=>by rw[q]at h;exact h);rw[e]at h;have h:=Ld.step S1 h;simp only at h;cases e1:look ρ1 x with
 | none=>rw[e1]at h;exact h.elim
 | some a=>
  rw[e1]at h;cases e2:qdu a with
  | none=>rw[show (some a).bind qdu=qdu a from rfl,e2]at h;exact h.elim
  | some b=>
   rw[show (some a).bind qdu=qdu a from rfl,e2]at h;exact⟨b,qfO R1.same (J5 R1 x1 e1) e2,h G1 H1 (Stp.refl _ _ _ _) R1⟩
section
variable {X:Cx}
def qpY (C:Addr) (f:Str) (ta:TA):L2.St→Hp→XK→Prop:=fun σ H Q=>ta σ H fun vs H1=>∃v,vs=[v]∧∀d,H1 d=none→Q (.ref C) (some d) (upd H1 d (.xd [(f,v)]))
theorem qiy {f:Str} {v:V} {v':Value} (r:RelV v v') (g:Str):RelO (List.lookup g [(f,v)]) (if g=f then some v' else none):=by
 by_cases hw:g=f
 ·subst hw;rw[if_pos rfl];have q:List.lookup g [(g,v)]=some v:=by simp[List.lookup]
  rw[q];exact r
 ·rw[if_neg hw];have qw:(g == f)=false:=by simpa using hw
  have q2:List.lookup g [(f,v)]=none:=by simp[List.lookup,qw]
  rw[q2];trivial
theorem qge {nm f:Str} {C:Addr} {a:Expr} {ta:TA} {p pos:Pos} {k:Nat} (T:PySem.ErrX.ErrTxt X.prog X.K X.mg nm f C) (hr:Room k X.A) (ha:PA X [a] ta) (hg:Gl X nm) (hdb:(nm == ("__debug__" : Str))=false)
  (he:starEach (a::[]) X.env=(false,eval a X.env)::starEach [] X.env) (hpl:(backTo pos (starEach [] X.env)).any (·.1)=false) :
  PMk X (.Call (.Name nm p) [a] [] pos) (qpY C f ta):=by
 intro pins s σ H Q I h;refine wpAny_Call_Name_kw (ld_glob I hg T.gC ?_ hdb);refine PySem.W.callWith_K (h₀:=X.base) I.ok.mod.kin T.kC (thn (ha.run pos pins s σ H _ I h) fun us s1 hh=>?_) he hpl;obtain⟨vs,H1,I1,r1,v,ev,q1⟩:=hh;subst ev;refine⟨I1.kIn,?_⟩;cases r1 with
 | cons rv rn=>
  rename_i v' us';cases rn;show wpAny _ _ (call (.ref C) [v']) _ _ _;have hlim:=I1.nolimit;obtain⟨mb,hb1,hb2⟩:=I1.mod.blt;have hG:=I1.mod.glob.keeps I1.bk;have hB:=hb1.keeps I1.bk;obtain⟨hp,g,dr,tk,os⟩:=s1;refine wpAny_call (PySem.ErrX.qev T I1.kIn hG hB hb2 hlim (by have:=hr.dp;omega) fun h' tk' e d M=>?_);show MkP X pins σ Q (.ref e) ⟨h',g,dr,tk',os⟩;obtain⟨oe,fv,hoe,hc,hd,hdat,h1⟩:=M.obj;have hns:=M.ns;obtain⟨G',g1,g2⟩:=restrict h' fun b=>decide (b≠e);have gk:∀b,b≠e→G'.get? b=h'.get? b:=fun b hb=>g1 b (decide_eq_true hb);have ge:G'.get? e=none:=g2 e (by simp);have old:∀b o,hp.get? b=some o→G'.get? b=some o:=fun b o q=>(gk b (Nat.ne_of_lt (Nat.lt_of_lt_of_le (Heap.lt_size q) M.new))).trans (M.keep b o q);have ob:ObjOk X.prog X.w (upd H1 d (.xd [(f,v)])) G' d (.xd [(f,v)]):=
   ⟨_,hns.at (fun o q=>(gk d M.dne).trans q),fun g=>qiy rv g⟩
  have J:Inv X pins σ (upd H1 d (.xd [(f,v)])) ⟨G',g,dr,tk',os⟩:=I1.laid (t':=tk') old M.dbig ob;refine⟨e,oe,fv,⟨G',g,dr,tk',os⟩,_,.ref C,some d,rfl,J,fun b o q=>?_,ge,hoe,⟨hc,hd⟩,hdat,h1,?_,rfl,I1.bare,raises_own T.exC T.tyC,q1 d (I1.hok.fresh M.dbig)⟩
  ·by_cases hb:b=e
   ·have q':G'.get? b=some o:=q;rw[hb,ge]at q';cases q'
   ·exact (gk b hb).symm.trans q
  ·rw[upd_ne (Ne.symm M.dne)];exact I1.hok.fresh M.new
end
def Uz (c:Str) (f:Str) (ma:AM):SM:=fun ρ=>bindR (ma ρ) fun xs ρ1=>match xs with
 | [x]=>match fz ρ1 x with
  | some (d,ρ2)=>.ex ⟨c,some [(f,d)]⟩ ρ2
  | none=>.bad
 | _=>.bad
theorem qdH {C:Str} {f:Str} {ta:TA} {ma:AM} (ha:R8 K W ta ma):Nt K W (fun _ σ H=>qpY (cA K C) f ta σ H fun cls d H'=>W cls d σ H') (Uz C f ma):=fun σ G H ρ R D h=>by
 unfold Uz bindR at h;refine ha.fst R (fun xs ρ1 e vs G1 H1 S1 R1 x1=>?_) (fun e ρ1 q=>by rw[q]at h;exact Z6.x h) (fun q=>by rw[q]at h;exact h);rw[e]at h;have h:=Z6.step S1 h;simp only at h;split at h
 ·rename_i x;split at h
  ·rename_i d ρ2 e2;cases x1 with
   | cons hx ht=>
    cases ht;obtain⟨G2,S2,R2,q2⟩:=Nn R1 hx e2;refine⟨_,rfl,fun a ha=>?_⟩;have g:=fun o=>Gro.new (o:=o) R2.same ha;exact h _ _ σ _ _ (S2.trans (g _).stp) (R2.gro (g _)) ⟨rfl,a,_,rfl,upd_same,.cons (q2.mono (g _).g) .nil⟩
  ·exact h.elim
 ·exact h.elim
def qfw (ρ:Env):Env:=ρ.map fun o=>match o with
 | some .xh=>none
 | some (.p _)=>none
 | o=>o
theorem qao {ρ:Env} {i:Nat} {l:L} (h:(qfw ρ)[i]?=some (some l)):ρ[i]?=some (some l)∧l≠.xh∧∀x,l≠.p x:=by
 unfold qfw at h;rw[List.getElem?_map]at h;cases e:ρ[i]? with
 | none=>rw[e]at h;cases h
 | some o=>
  rw[e]at h;cases o with
  | none=>cases h
  | some l'=>
   cases l' with
   | xh=>cases h
   | u _ _=>cases h;exact⟨rfl,(fun z=>nomatch z),fun _ z=>nomatch z⟩
   | p x=>cases h
   | d x=>cases h;exact⟨rfl,(fun z=>nomatch z),fun _ z=>nomatch z⟩
   | m x=>cases h;exact⟨rfl,(fun z=>nomatch z),fun _ z=>nomatch z⟩
   | r x=>cases h;exact⟨rfl,(fun z=>nomatch z),fun _ z=>nomatch z⟩
theorem qfv {ρ:Env} {i:Nat} {x:D} (h:ρ[i]?=some (some (.r x))):(qfw ρ)[i]?=some (some (.r x)):=by
 unfold qfw;rw[List.getElem?_map,h];rfl
theorem qan {ρ:Env}:(qfw ρ).length=ρ.length:=by simp[qfw]
def qeF (ρ:Env) (i:Nat):Option Env:=match ρ[i]? with
 | some (some (.r _))=>none
 | _=>some (ρ.set i none)
theorem qba {ρ ρ':Env} {i:Nat} (h:qeF ρ i=some ρ'):ρ'=ρ.set i none∧∀x,ρ[i]?≠some (some (.r x)):=by
 unfold qeF at h;split at h
 ·cases h
 ·rename_i hn;cases h;exact⟨rfl,fun x e=>hn x e⟩
def fin (i:Nat):Res Fl→Res Fl
 | .ok f ρ=>match qeF ρ i with
  | some ρ'=>.ok f ρ'
  | none=>.bad
 | _=>.bad
theorem LOk.xa {K:PySem.W.Frag} {x y:Option XA} {G H:Hp} {v:V} {l:L} (h:LOk ⟨K,x⟩ G H v l) (n:l≠.xh∧∀x,l≠.p x):LOk ⟨K,y⟩ G H v l:=by
 cases l with
 | d a=>exact h
 | m a=>cases a<;>exact h
 | r a=>cases a<;>exact h
 | p a=>exact absurd rfl (n.2 a)
 | xh=>exact absurd rfl n.1
 | u _ _=>exact h
theorem LOk.off {K:PySem.W.Frag} {x:Option XA} {G H:Hp} {v:V} {l:L} (h:LOk ⟨K,x⟩ G H v l):LOk ⟨K,none⟩ G H v l:=by
 cases l with
 | d a=>exact h
 | m a=>cases a<;>exact h
 | r a=>cases a<;>exact h
 | p a=>exact⟨by have:=h.1;cases a<;>exact this,fun y e=>nomatch e⟩
 | xh=>exact fun y e=>nomatch e
 | u _ _=>exact h.elim
abbrev WF:WX:=fun _ _ _ _=>False
section
variable {F:PySem.W.Frag} {σ:L2.St} {G H:Hp} {ρ:Env}
theorem Rel.suite {a:Addr} {c:Value} {d:Option Addr} {e:Exn} {i:Nat} {ρ2:Env} (R:Rel ⟨F,none⟩ σ G H ρ) (q:ExOk F G c d e) (h:Lq (qfw ρ) i .xh=some ρ2) :
  Stp σ ρ G H (σ.set i (some (.ref a))) ρ2 G H∧Rel ⟨F,some ⟨a,c,d,e⟩⟩ (σ.set i (some (.ref a))) G H ρ2:=by
 obtain⟨rfl,hi,hr⟩:=Te h;have hi':i < σ.length:=by rw[R.len,← qan];exact hi
 have own:∀{j:Nat} {l:L} {b:Addr},((qfw ρ).set i (some .xh))[j]?=some (some l)→l.own=true→(σ.set i (some (.ref a)))[j]?=some (some (.ref b))→ρ[j]?=some (some l)∧σ[j]?=some (some (.ref b)):=fun {j l b} e1 o e3=>by
  rcases Xp e1 with ⟨rfl,e⟩ | ⟨hne,e⟩
  ·cases Option.some.inj e;cases o
  ·rw[List.getElem?_set_ne hne]at e3;exact⟨(qao e).1,e3⟩
 refine⟨⟨Same.refl _,fun _ _ h=>.inl h,fun _ _ h _=>h,fun _ h=>h,fun a ⟨j,l,e1,e2,e3⟩=>?_,fun a ⟨j,l,e1,e2,e3⟩=>?_,fun j y e=>?_⟩,⟨R.same,?_,fun j l e=>?_,fun y h=>?_,fun j k l l' b hjk e1 e2 o1 o2 e3 e4=>?_⟩⟩
 ·obtain⟨h1,h2⟩:=own e1 e2 e3;exact .inl ⟨j,l,h1,e2,h2⟩
 ·have o:l.own=true:=by cases l<;>first | rfl | cases e2
  obtain⟨h1,h2⟩:=own e1 o e3;exact .inl ⟨j,l,h1,e2,h2⟩
 ·have hne:i≠j:=fun q=>by subst q;exact hr y (qfv e)
  rw[List.getElem?_set_ne hne,List.getElem?_set_ne hne];exact⟨rfl,y,qfv e⟩
 ·rw[List.length_set,List.length_set,qan];exact R.len
 ·rcases Xp e with ⟨hij,e'⟩ | ⟨hne,e⟩
  ·subst hij;cases Option.some.inj e';exact⟨_,List.getElem?_set_self hi',fun y hy=>by cases hy;rfl⟩
  ·rw[List.getElem?_set_ne hne];obtain⟨h1,h2⟩:=qao e;obtain⟨v,h3,h4⟩:=R.at_ j l h1;exact⟨v,h3,h4.xa h2⟩
 ·cases h;exact q
 ·obtain⟨h1,h2⟩:=own e1 o1 e3;obtain⟨h3,h4⟩:=own e2 o2 e4;exact R.sep j k l l' b hjk h1 h3 o1 o2 h2 h4
theorem Rel.off {x:Option XA} (R:Rel ⟨F,x⟩ σ G H ρ):Rel ⟨F,none⟩ σ G H ρ:=
 ⟨R.same,R.len,fun j l e=>let ⟨v,h1,h2⟩:=R.at_ j l e;⟨v,h1,h2.off⟩,(fun y h=>nomatch h),R.sep⟩
theorem Rel.gone {x:Option XA} {i:Nat} {ρ':Env} (R:Rel ⟨F,x⟩ σ G H ρ) (h:qeF ρ i=some ρ'):Stp σ ρ G H (σ.set i none) ρ' G H∧Rel ⟨F,none⟩ (σ.set i none) G H ρ':=by
 obtain⟨rfl,hr⟩:=qba h;have own:∀{j:Nat} {l:L},(ρ.set i none)[j]?=some (some l)→i≠j∧ρ[j]?=some (some l):=fun {j l} e1=>by
  rcases Xp e1 with ⟨_,e⟩ | ⟨h,e⟩
  ·cases e
  ·exact⟨h,e⟩
 have sg:∀{j:Nat} {b:Addr},i≠j→(σ.set i none)[j]?=some (some (.ref b))→σ[j]?=some (some (.ref b)):=fun {j b} h e=>by
  rw[List.getElem?_set_ne h]at e;exact e
 refine⟨⟨Same.refl _,fun _ _ h=>.inl h,fun _ _ h _=>h,fun _ h=>h,fun a ⟨j,l,e1,e2,e3⟩=>.inl ⟨j,l,(own e1).2,e2,sg (own e1).1 e3⟩,fun a ⟨j,l,e1,e2,e3⟩=>.inl ⟨j,l,(own e1).2,e2,sg (own e1).1 e3⟩,fun j y e=>?_⟩,
  ⟨R.same,by rw[List.length_set,List.length_set];exact R.len,fun j l e=>?_,(fun y h=>nomatch h),fun j k l l' b hjk e1 e2 o1 o2 e3 e4=>?_⟩⟩
 ·have hne:i≠j:=fun q=>by subst q;exact hr y e
  rw[List.getElem?_set_ne hne,List.getElem?_set_ne hne];exact⟨rfl,y,e⟩
 ·obtain⟨h1,h2⟩:=own e;rw[List.getElem?_set_ne h1];obtain⟨v,h3,h4⟩:=R.at_ j l h2;exact⟨v,h3,h4.off⟩
 ·exact R.sep j k l l' b hjk (own e1).2 (own e2).2 o1 o2 (sg (own e1).1 e3) (sg (own e2).1 e4)
end
theorem qfC.kx {F:PySem.W.Frag} {x y:Option XA} {σ:L2.St} {ρ:Env} {H G' H':Hp} {v:V} {l:L} (h:qfC ⟨F,x⟩ σ ρ H G' H' v l):qfC ⟨F,y⟩ σ ρ H G' H' v l:=by
 cases l with
 | d a=>exact h
 | m a=>exact⟨by have:=h.1;cases a<;>exact this,h.2⟩
 | r a=>exact h
 | p a=>exact h
 | xh=>exact h
 | u _ _=>obtain⟨t,va,vb,h1,h2,h3,h4,h5⟩:=h;exact⟨t,va,vb,h1,h2,h3,(by rename_i x;cases x<;>exact h4),h5⟩
theorem DqF.look {K:PySem.W.Frag} {G:Hp} {f:Str}:∀{vs:List (Str×V)} {ds:List (Str×D)} {d:D},DqF K G vs ds→ds.lookup f=some d→∃v,vs.lookup f=some v∧Dq K G v d
 | _,_,_,.nil,e=>by cases e
 | _,_,d,.cons (k:=k) (v:=v) h t,e=>by
  unfold List.lookup at e ⊢;cases q:f == k with
  | true=>rw[q]at e;cases e;exact⟨v,rfl,h⟩
  | false=>rw[q]at e;exact DqF.look t e
section
variable (X:Cx) (xa:Option XA) (W:WX)
def JE (e:Expr) (m:EM):Prop:=∃t,PE X e t∧Yh ⟨X.K,xa⟩ W t m
def JF (e:Expr) (m:FM):Prop:=∃t,PE X e t∧yn ⟨X.K,xa⟩ W t m
def JT (e:Expr) (m:TM):Prop:=∃t,PT X e t∧Ie ⟨X.K,xa⟩ W t m
def JW (e:Expr) (m:TM):Prop:=∃t,PW X e t∧Ie ⟨X.K,xa⟩ W t m
def JA (es:List Expr) (m:AM):Prop:=∃t,PA X es t∧R8 ⟨X.K,xa⟩ W t m
def JO (e:Option Expr) (m:OM):Prop:=∃t,PO X e t∧qdq ⟨X.K,xa⟩ W t m
def JI (tg e:Expr) (m:IM):Prop:=∃t,PI X tg e t∧qds ⟨X.K,xa⟩ W t m
def JG (js:List Nat) (tg:Expr) (m:GM):Prop:=∃g,PG X tg g∧GOk ⟨X.K,xa⟩ js g m
def JGs (js:List Nat) (tgs:List Expr) (m:GMs):Prop:=∃g,PGs X tgs g∧qk9 ⟨X.K,xa⟩ js g m
def JS (st:Stmt) (m:SM):Prop:=∃t,PS X st t∧Nt ⟨X.K,xa⟩ W t m
end
section
variable {X:Cx} {xa:Option XA} {W:WX}
theorem JE.can {e:Expr} {m:EM} (h:JE X xa W e m):PE X e (qpX ⟨X.K,xa⟩ W m):=by
 obtain⟨t,h1,h2⟩:=h;exact⟨fun pins s σ H Q I ⟨G,ρ,R,hp⟩=>h1.run pins s σ H Q I (h2 σ G H ρ R Q hp)⟩
theorem JT.can {e:Expr} {m:TM} (h:JT X xa W e m):PT X e (qpW ⟨X.K,xa⟩ W m):=by
 obtain⟨t,h1,h2⟩:=h;exact⟨fun pins s σ H Q I ⟨G,ρ,R,hp⟩=>h1.run pins s σ H Q I (h2 σ G H ρ R Q hp)⟩
theorem JSs.can {st:List Stmt} {m:SM} (h:JSs X xa W st m):PSs X st (tOf ⟨X.K,xa⟩ W m):=by
 obtain⟨t,h1,h2⟩:=h;exact⟨fun pins s σ H Q I ⟨G,ρ,R,hp⟩=>h1.run pins s σ H Q I (h2 σ G H ρ R Q hp)⟩
theorem Qa {i:Nat} {x:Str} {pos:Pos} (hN:X.N[i]?=some x:=by rfl) (hv:Vis X.env.scope x:=by first | exact .inl rfl | exact .inr (.inl rfl) | exact .inr (.inr rfl)) (hd:(x == ("__debug__" : Str))=false:=by decide) (hcd:(x == ("__classdict__" : Str))=false:=by decide) :
  JE X xa W (.Name x pos) (Qi i):=⟨_,pe_var hN hv hd hcd,qkg i⟩
theorem Qe {i j pos}:JE X xa W (.Constant (.int i) j pos) (eC (.int i)):=⟨_,pe_int,qks i⟩
theorem Pz {b j pos}:JE X xa W (.Constant (.bool b) j pos) (eC (.bl b)):=⟨_,pe_bl,qo3 b⟩
theorem Zj {x j pos}:JE X xa W (.Constant (.str x) j pos) (eC (.str x)):=⟨_,pe_str,qkj x⟩
theorem Fs {j pos}:JE X xa W (.Constant .none j pos) (eC .non):=⟨_,pe_non,qko⟩
variable {a b c e:Expr} {es:List Expr} {ma mb mc m:EM} {pos:Pos} {fm:FM} {am:AM} {tm tn:TM}
theorem qa1 (h:JF X xa W e fm):JE X xa W e (eF fm):=let ⟨t,h1,h2⟩:=h;⟨t,h1,h2.ev⟩
theorem Qo {op:Operator} {g:D→D→Option D} (ho:OpR X (binaryOp op) (rD2 X.K g)) (ha:JE X xa W a ma) (hb:JE X xa W b mb):JE X xa W (.BinOp a op b pos) (eOp g ma mb):=
 let ⟨_,h1,h2⟩:=ha;let ⟨_,h3,h4⟩:=hb;⟨_,pe_op ho h1 h3,qcQ h2 h4⟩
theorem Ws {op:UnaryOp} {g:D→Option D} (ho:UnR X (unaryOp op) (rD1 X.K g)) (ha:JE X xa W a ma):JE X xa W (.UnaryOp op a pos) (eUn g ma):=
 let ⟨_,h1,h2⟩:=ha;⟨_,pe_un ho h1,qkh h2⟩
theorem qff {op:CmpOp} {g:D→D→Option D} (ho:OpR X (compareOp op) (rD2 X.K g)) (ha:JE X xa W a ma) (hb:JE X xa W b mb) (hm:behindInMarks op b=false:=by first | exact nomark _ (by decide) (by decide) | with_unfolding_all rfl) :
  JE X xa W (.Compare a [op] [b] pos) (eOp g ma mb):=
 let ⟨_,h1,h2⟩:=ha;let ⟨_,h3,h4⟩:=hb;⟨_,pe_cmpR ho h1 h3 hm,qcQ h2 h4⟩
theorem Qt {op:CmpOp} {g:D→D→Option D} (ho:OpR X (compareOp op) (rD2 X.K g)) (ha:JE X xa W a ma) (hb:JE X xa W b mb) (hm:behindInMarks op b=false:=by first | exact nomark _ (by decide) (by decide) | with_unfolding_all rfl) :
  JT X xa W (.Compare a [op] [b] pos) (tBl (eOp g ma mb)):=
 let ⟨_,h1,h2⟩:=ha;let ⟨_,h3,h4⟩:=hb;⟨_,pt_cmpR ho h1 h3 hm,qfK (qcQ h2 h4)⟩
theorem U4 (ha:JE X xa W a ma) (he:∀whole,isTrue a X.env whole=(do let v ← whole;standAt a.pos;holding [v] (truthy v)):=by intro _;rfl):JT X xa W a (Ek ma):=
 let ⟨_,h1,h2⟩:=ha;⟨_,pt_truth h1 he,qia h2⟩
theorem Au {op:JT X xa W a tm}:JW X xa W (.BoolOp .And [a] pos) tm:=let ⟨_,h1,h2⟩:=op;⟨_,pw_and1 h1,h2⟩
theorem Ur {op:JT X xa W a tm}:JW X xa W (.BoolOp .Or [a] pos) tm:=let ⟨_,h1,h2⟩:=op;⟨_,pw_or1 h1,h2⟩
theorem v5 {rest:List Expr} (ha:JT X xa W a tm) (hb:JW X xa W (.BoolOp .And (b::rest) pos) tn):JW X xa W (.BoolOp .And (a::b::rest) pos) (qd6 tm tn):=
 let ⟨_,h1,h2⟩:=ha;let ⟨_,h3,h4⟩:=hb;⟨_,pw_and h1 h3,qid h2 h4⟩
theorem Py {rest:List Expr} (ha:JT X xa W a tm) (hb:JW X xa W (.BoolOp .Or (b::rest) pos) tn):JW X xa W (.BoolOp .Or (a::b::rest) pos) (mOr tm tn):=
 let ⟨_,h1,h2⟩:=ha;let ⟨_,h3,h4⟩:=hb;⟨_,pw_or h1 h3,qmC h2 h4⟩
theorem Av (h:JW X xa W e tm):JT X xa W e tm:=let ⟨_,h1,h2⟩:=h;⟨_,h1.pt,h2⟩
theorem U5 (ha:JT X xa W a tm):JT X xa W (.UnaryOp .Not a pos) (El tm):=let ⟨_,h1,h2⟩:=ha;⟨_,pt_not h1,qic h2⟩
theorem qfe {op} (h:JE X xa W a ma):JE X xa W (.BoolOp op [a] pos) ma:=let ⟨_,h1,h2⟩:=h;⟨_,pe_one h1,h2⟩
theorem qfg {rest:List Expr} (ha:JE X xa W a ma) (hb:JE X xa W (.BoolOp .And (b::rest) pos) mb):JE X xa W (.BoolOp .And (a::b::rest) pos) (qhW ma mb):=
 let ⟨_,h1,h2⟩:=ha;let ⟨_,h3,h4⟩:=hb;⟨_,pe_and h1 h3,qkx h2 h4⟩
theorem qjS (ha:JE X xa W a ma):JE X xa W (.UnaryOp .Not a pos) (qkE ma):=let ⟨_,h1,h2⟩:=ha;⟨_,pe_not h1,qkn h2⟩
theorem Qh:JA X xa W [] Qx:=⟨_,pa_nil,qaw⟩
theorem Qc (ha:JE X xa W e m) (hr:JA X xa W es am) (hs:starEach (e::es) X.env=(false,eval e X.env)::starEach es X.env:=by rfl):JA X xa W (e::es) (Qf m am):=
 let ⟨_,h1,h2⟩:=ha;let ⟨_,h3,h4⟩:=hr;⟨_,pa_cons h1 h3 hs,qdk h2 h4⟩
theorem Z7 {k} (h:JA X xa W es am):JE X xa W (.Tuple es k pos) (Gg am):=let ⟨_,h1,h2⟩:=h;⟨_,qgi h1,qki h2⟩
theorem Wm (h:JA X xa W es am):JF X xa W (.List es pos) (O7 am):=let ⟨_,h1,h2⟩:=h;⟨_,pe_lst h1,qj5 h2⟩
theorem Qr (ha:JE X xa W a ma) (hb:JE X xa W b mb) (hs:PlainIx b:=by intro _ _;rfl):JE X xa W (.Subscript a b pos) (eOp ixD ma mb):=
 let ⟨_,h1,h2⟩:=ha;let ⟨_,h3,h4⟩:=hb;⟨_,pe_ix qrY h1 h3 hs,qcQ h2 h4⟩
variable {ol oh os:OM} {lo hi:Option Expr}
theorem Ax:JO X xa W none xk:=⟨_,po_none,qgq⟩
theorem Fp (h:JE X xa W e m):JO X xa W (some e) (Fc m):=let ⟨_,h1,h2⟩:=h;⟨_,po_some h1,qgp h2⟩
theorem qjR {p2} (ha:JE X xa W a ma) (hl:JO X xa W lo ol) (hh:JO X xa W hi oh):JE X xa W (.Subscript a (.Slice lo hi none p2) pos) (eSl slD ma ol oh):=
 let ⟨_,h1,h2⟩:=ha;let ⟨_,h3,h4⟩:=hl;let ⟨_,h5,h6⟩:=hh;⟨_,pe_slice qs7 h1 h3 h5,qo2 h2 h4 h6⟩
theorem qjP {p2 st} (ha:JE X xa W a ma) (hl:JO X xa W lo ol) (hh:JO X xa W hi oh) (hs:JO X xa W (some st) os)
  (hst:∀a b,subscripted (.Slice lo hi (some st) p2) false (.ref a) (.ref b)=operate [.ref a,.ref b] (getItem (.ref a) (.ref b)):=by intro _ _;with_unfolding_all rfl):JF X xa W (.Subscript a (.Slice lo hi (some st) p2) pos) (qkd ma ol oh os):=
 let ⟨_,h1,h2⟩:=ha;let ⟨_,h3,h4⟩:=hl;let ⟨_,h5,h6⟩:=hh;let ⟨_,h7,h8⟩:=hs;⟨_,qbT h1 h3 h5 h7 hst,qj3 h2 h4 h6 h8⟩
section
variable {x:Str} {p:Pos} {id T:String}
theorem V4 {g:List D→Option D} (hc:CallR X (.builtin id) (rDn X.K g)) (hm:X.mg x=none) (hv:bootBuiltins x=some (.builtin id)) (ha:JA X xa W (e::es) am) (hg:Gl X x:=by rfl) (hn:x≠"__name__":=by decide) (hdb:(x == ("__debug__" : Str))=false:=by decide)
  (he:starEach (e::es) X.env=(false,eval e X.env)::starEach es X.env:=by rfl) (hpl:(backTo pos (starEach es X.env)).any (·.1)=false:=by rfl):JE X xa W (.Call (.Name x p) (e::es) [] pos) (eCB g am):=
 let ⟨_,h1,h2⟩:=ha;⟨_,pe_callB hc hg hm hv h1 hn hdb he hpl,qkv h2⟩
theorem qjQ {g:List D→Option (List D)} (hc:CallR X (.builtin id) (rFn X.K g)) (hm:X.mg x=none) (hv:bootBuiltins x=some (.builtin id)) (ha:JA X xa W (e::es) am) (hg:Gl X x:=by rfl) (hn:x≠"__name__":=by decide) (hdb:(x == ("__debug__" : Str))=false:=by decide)
  (he:starEach (e::es) X.env=(false,eval e X.env)::starEach es X.env:=by rfl) (hpl:(backTo pos (starEach es X.env)).any (·.1)=false:=by rfl):JF X xa W (.Call (.Name x p) (e::es) [] pos) (fCB g am):=
 let ⟨_,h1,h2⟩:=ha;⟨_,pe_callB hc hg hm hv h1 hn hdb he hpl,qj6 h2⟩
theorem Dy {g:List D→Option D} (hc:CallR X (.type T) (rDn X.K g)) (hm:X.mg x=none) (hv:bootBuiltins x=some (.type T)) (ha:JA X xa W (e::es) am) (hg:Gl X x:=by rfl) (hn:x≠"__name__":=by decide) (hdb:(x == ("__debug__" : Str))=false:=by decide)
  (he:starEach (e::es) X.env=(false,eval e X.env)::starEach es X.env:=by rfl) (hpl:(backTo pos (starEach es X.env)).any (·.1)=false:=by rfl):JE X xa W (.Call (.Name x p) (e::es) [] pos) (eCB g am):=
 let ⟨_,h1,h2⟩:=ha;⟨_,pe_callTy hc hg hm hv h1 hn hdb he hpl,qkv h2⟩
theorem qoz {g:List D→Option (List D)} (hc:CallR X (.type T) (rFn X.K g)) (hm:X.mg x=none) (hv:bootBuiltins x=some (.type T)) (ha:JA X xa W (e::es) am) (hg:Gl X x:=by rfl) (hn:x≠"__name__":=by decide) (hdb:(x == ("__debug__" : Str))=false:=by decide)
  (he:starEach (e::es) X.env=(false,eval e X.env)::starEach es X.env:=by rfl) (hpl:(backTo pos (starEach es X.env)).any (·.1)=false:=by rfl):JF X xa W (.Call (.Name x p) (e::es) [] pos) (fCB g am):=
 let ⟨_,h1,h2⟩:=ha;⟨_,pe_callTy hc hg hm hv h1 hn hdb he hpl,qj6 h2⟩
theorem O1 {y:Str} {p':Pos} (T:String) (hm:X.mg "isinstance"=none) (hy:X.mg y=none) (hv:bootBuiltins y=some (.type T)) (hk:∀t∈["NoneType","bool","int","str","list","tuple","dict"],PySem.W.kitOne X.K (.type t) (.type T)=some (jm t T)) (ha:JE X xa W e m)
  (hg:Gl X "isinstance":=by rfl) (hgy:Gl X y:=by rfl) (hn:y≠"__name__":=by decide) (hdb:(y == ("__debug__" : Str))=false:=by decide)
  (he:starEach [e,.Name y p'] X.env=(false,eval e X.env)::starEach [.Name y p'] X.env:=by rfl) (he2:starEach [.Name y p'] X.env=(false,eval (.Name y p') X.env)::starEach [] X.env:=by rfl) (hpl:(backTo pos (starEach [.Name y p'] X.env)).any (·.1)=false:=by rfl) :
  JE X xa W (.Call (.Name "isinstance" p) [e,.Name y p'] [] pos) (qdx T m):=
 let ⟨_,h1,h2⟩:=ha;⟨_,pe_callB (qkP hk) hg hm (by first | boot_by_name | rfl | kernel_rfl) (pa_cons h1 (pa_cons (pe_bltn (v:=.ty T) hgy hy hv rfl hn hdb) pa_nil he2) he) (by decide) (by decide) he hpl,qkq h2⟩
end
section
variable {x:Str} {p:Pos} {k:Nat} {f:Addr} {fd:FuncData} {ps:List Str} {R:List L→FRes} {dvs:List V} {ds:List D} {dvals:List Value}
theorem qgU (F:FnOk X.prog X.w X.K X.mg X.base (L2.CX X.prog X.w) k f fd ps (spF X.K ps.length R)) (hr:Room k X.A) (hm:X.mg x=some (.ref f)) (hk:PySem.W.keepIn X.K (.ref f)=true) (hb:Binds X.K fd ps []) (tk:Takes X W) (ha:JA X xa W (e::es) am) (hg:Gl X x:=by rfl)
  (hdb:(x == ("__debug__" : Str))=false:=by decide) (he:starEach (e::es) X.env=(false,eval e X.env)::starEach es X.env:=by rfl) (hpl:(backTo pos (starEach es X.env)).any (·.1)=false:=by rfl):JE X xa W (.Call (.Name x p) (e::es) [] pos) (Q9 ps.length R am):=
 let ⟨_,h1,h2⟩:=ha;⟨_,pe_callSD F hr hg hm hk hb .nil (fun σ=>passAt tk σ) h1 hdb he hpl,qcR h2⟩
theorem qgR (F:FnOk X.prog X.w X.K X.mg X.base (L2.CX X.prog X.w) k f fd ps (spF X.K ps.length R)) (hr:Room k X.A) (hm:X.mg x=some (.ref f)) (hk:PySem.W.keepIn X.K (.ref f)=true) (hb:Binds X.K fd ps []) (tk:Takes X W) (ha:JA X xa W (e::es) am) (hg:Gl X x:=by rfl)
  (hdb:(x == ("__debug__" : Str))=false:=by decide) (he:starEach (e::es) X.env=(false,eval e X.env)::starEach es X.env:=by rfl) (hpl:(backTo pos (starEach es X.env)).any (·.1)=false:=by rfl):JF X xa W (.Call (.Name x p) (e::es) [] pos) (x8 ps.length R am):=
 let ⟨_,h1,h2⟩:=ha;⟨_,pe_callSD F hr hg hm hk hb .nil (fun σ=>passAt tk σ) h1 hdb he hpl,qg3 h2⟩
end
section
variable {x:Str} {i:Nat} {p apos:Pos}
theorem Vy (ha:JE X xa W e m) (hN:X.N[i]?=some x:=by rfl) (hv:Vis X.env.scope x:=by first | exact .inl rfl | exact .inr (.inl rfl) | exact .inr (.inr rfl)) (hd:(x == ("__debug__" : Str))=false:=by decide) (hcd:(x == ("__classdict__" : Str))=false:=by decide)
  (hbase:attributeBase (.Name x p) "append" X.env (eval (.Name x p) X.env)=eval (.Name x p) X.env:=by rfl)
  (hfew:((backTo pos (starEach [e] X.env)).all (fun x=>!x.1) && (backToKw pos (keywordEach [] X.env)).all (fun x=>x.1.isSome)
   && decide ([e].length+([]:List Keyword).length+(if ([]:List Keyword).isEmpty then 0 else 1)<30))=true:=by rfl)
  (hline:(apos.endLine == pos.line)=true:=by rfl) (hs:starEach [e] X.env=(false,eval e X.env)::starEach [] X.env:=by rfl) (hpl:(backTo pos (starEach [] X.env)).any (·.1)=false:=by rfl) :
  JE X xa W (.Call (.Attribute (.Name x p) "append" apos) [e] [] pos) (D2 i m):=
 let ⟨_,h1,h2⟩:=ha;⟨_,pe_bm PySem.F.plainAttrs_list PySem.F.slot_list_append PySem.F.type_list_append mt_append (pe_var hN hv hd hcd) (pa_cons h1 pa_nil hs) hbase hfew hline hs hpl,qkw h2⟩
theorem O0 (hN:X.N[i]?=some x:=by rfl) (hv:Vis X.env.scope x:=by first | exact .inl rfl | exact .inr (.inl rfl) | exact .inr (.inr rfl)) (hd:(x == ("__debug__" : Str))=false:=by decide) (hcd:(x == ("__classdict__" : Str))=false:=by decide)
  (hbase:attributeBase (.Name x p) "pop" X.env (eval (.Name x p) X.env)=eval (.Name x p) X.env:=by rfl) (hline:(apos.endLine == pos.line)=true:=by rfl) :
  JE X xa W (.Call (.Attribute (.Name x p) "pop" apos) [] [] pos) (qc2 i):=
 ⟨_,pe_bm0 PySem.F.plainAttrs_list PySem.F.slot_list_pop PySem.F.type_list_pop mt_pop (pe_var hN hv hd hcd) hbase hline,qkl⟩
end
section
variable {tg l:Expr} {p:Pos} {im:IM}
theorem Xg (h:JE X xa W l m):JI X xa W tg l (Ge m):=let ⟨_,h1,h2⟩:=h;⟨_,qiM h1,qjX h2⟩
theorem Mp (hm:X.mg "range"=none) (h:JA X xa W [a] am) (hg:Gl X "range":=by rfl) (hs:starEach [a] X.env=[(false,eval a X.env)]:=by rfl):JI X xa W tg (.Call (.Name "range" p) [a] [] pos) (Dx am):=
 let ⟨_,h1,h2⟩:=h;⟨_,qbR hg hm h1 hs,qgX h2⟩
theorem qcw (hm:X.mg "range"=none) (h:JA X xa W [a,b] am) (hg:Gl X "range":=by rfl) (hs:starEach [a,b] X.env=[(false,eval a X.env),(false,eval b X.env)]:=by rfl) (hs2:starEach [b] X.env=[(false,eval b X.env)]:=by rfl):JI X xa W tg (.Call (.Name "range" p) [a,b] [] pos) (qaY am):=
 let ⟨_,h1,h2⟩:=h;⟨_,qbQ hg hm h1 hs hs2,qgW h2⟩
variable {x:Str} {i:Nat} {js ks:List Nat} {gm:GM} {gms:GMs} {tgs:List Expr}
theorem Qy (hN:X.N.Nodup) (hi:X.N[i]?=some x:=by rfl) (hx:Loc X.env.scope x:=by first | exact .inl rfl | exact .inr rfl) (hf:X.fn x=true∨X.env.scope.names.lookup x=some .local:=by first | exact .inl rfl | exact .inr rfl):JG X xa [i] (.Name x pos) (Qg i):=
 ⟨_,pg_name hN hi hx hf,Vm i⟩
theorem Gw:JGs X xa [] [] Mq:=⟨_,pgs_nil,qfj⟩
theorem Zn (h1:JG X xa js e gm) (h2:JGs X xa ks tgs gms) (hs:(assignEach (e::tgs) X.env).map (·.2)=assign e X.env::(assignEach tgs X.env).map (·.2):=by rfl):JGs X xa (js++ks) (e::tgs) (Zv gm gms):=
 let ⟨_,a1,a2⟩:=h1;let ⟨_,b1,b2⟩:=h2;⟨_,pgs_cons a1 b1 hs,xx a2 b2⟩
theorem T4 {k n:Nat} (hc:X.calm=true) (h:JGs X xa js tgs gms) (hn:(assignEach tgs X.env).length=n:=by rfl) (hst:(assignEach tgs X.env).findIdx? (·.1)=none:=by rfl):JG X xa js (.Tuple tgs k pos) (P0 n gms):=
 let ⟨_,a1,a2⟩:=h;⟨_,pg_tup hc a1 hn hst,qfk a2⟩
end
section
variable {elt tg iter:Expr} {ifs:List Expr} {scope:Scope} {im:IM} {gm:GM}
def qdt (X:Cx) (scope:Scope) (P:Cx→Prop):Prop:=∀(s:Shared) (H:Hp) (C:Addr) (cl:List (Str×Addr)) (fp:List Addr),P (X.blk s H scope (compEnvC scope cl C X.env) fp)
def qt:TM:=fun ρ=>.ok true ρ
theorem qeR {K:Kx}:Ie K W tYes qt:=fun σ G H ρ R Q h=>h G H (Stp.refl _ _ _ _) R
theorem qei {own:List (Str×Nat)} {ks:List Nat} {g:TG} (hc:X.calm=true) (hN:X.N.Nodup) (hi:JI X xa W tg iter im) (ok:BlkOk X.N X.env.scope scope own) (hg:qdt X scope fun Y=>PG Y tg g) (hgo:GOk ⟨X.K,xa⟩ ks g gm) (hks:∀i∈ks,i∈own.map (·.2))
  (he:qdt X scope fun Y=>JE Y xa WF elt m) (hs:∀x,foldedSetIterable iter X.env x=pure x:=by intro _;rfl) :
  JF X xa W (.ListComp elt [⟨tg,iter,[],0⟩] scope pos) (fLc im (own.map (·.2)) gm qt m):=
 let ⟨_,h1,h2⟩:=hi
 ⟨_,pe_lc hc hN h1 ok hg (fun _ _ _ _ _=>pts_nil) (fun s H C cl fp=>(he s H C cl fp).can) hs,qep h2 hgo hks qeR qet⟩
theorem Ay {own:List (Str×Nat)} {ks:List Nat} {g:TG} (hc:X.calm=true) (hN:X.N.Nodup) (hi:JI X xa W tg iter im) (ok:BlkOk X.N X.env.scope scope own) (hg:qdt X scope fun Y=>PG Y tg g) (hgo:GOk ⟨X.K,xa⟩ ks g gm) (hks:∀i∈ks,i∈own.map (·.2))
  (ht:qdt X scope fun Y=>JT Y xa WF c tm) (he:qdt X scope fun Y=>JE Y xa WF elt m) (hs:∀x,foldedSetIterable iter X.env x=pure x:=by intro _;rfl) :
  JF X xa W (.ListComp elt [⟨tg,iter,[c],0⟩] scope pos) (fLc im (own.map (·.2)) gm tm m):=
 let ⟨_,h1,h2⟩:=hi
 ⟨_,pe_lc hc hN h1 ok hg (fun s H C cl fp=>pts_one (ht s H C cl fp).can) (fun s H C cl fp=>(he s H C cl fp).can) hs,qep h2 hgo hks qib qet⟩
variable {y:Str} {i:Nat} {py spos:Pos}
theorem qcs {own:List (Str×Nat)} {ks:List Nat} {g:TG} (hc:X.calm=true) (hN:X.N.Nodup) (hsw:swapsWith (.ListComp elt [⟨tg,iter,[],0⟩] scope pos) (some (.Name y py)) spos.line X.env=pure true) (hi:JI X xa W tg iter im) (ok:BlkOk X.N X.env.scope scope own) (hg:qdt X scope fun Y=>PG Y tg g) (hgo:GOk ⟨X.K,xa⟩ ks g gm) (hks:∀i∈ks,i∈own.map (·.2))
  (he:qdt X scope fun Y=>JE Y xa WF elt m) (hy:X.N[i]?=some y:=by rfl) (hyl:X.env.scope.names.lookup y=some .local:=by rfl) (hs:∀x,foldedSetIterable iter X.env x=pure x:=by intro _;rfl) :
  JS X xa W (.Assign [.Name y py] (.ListComp elt [⟨tg,iter,[],0⟩] scope pos) spos) (Xl (Qg i) (eF (fLc im (own.map (·.2)) gm qt m))):=
 let ⟨_,h1,h2⟩:=hi
 ⟨_,ps_setLc hc hN hy hyl hsw h1 ok hg (fun _ _ _ _ _=>pts_nil) (fun s H C cl fp=>(he s H C cl fp).can) hs,y5 (qep h2 hgo hks qeR qet).ev (Vm i)⟩
end
section
variable {st:Stmt} {sts body orelse:List Stmt} {n o:SM} {x y:Str} {i j:Nat} {p p':Pos} {tg:Expr} {gm:GM} {js:List Nat} {im:IM}
theorem Qd:JSs X xa W [] Qw:=⟨_,pss_nil,qil⟩
theorem Qb (h1:JS X xa W st n) (h2:JSs X xa W sts o):JSs X xa W (st::sts) (Ql n o):=let ⟨_,a,b⟩:=h1;let ⟨_,c,d⟩:=h2;⟨_,pss_cons a c,qeV b d⟩
theorem qjH:JS X xa W (.Break pos) qlk:=⟨_,ps_break,qio⟩
theorem Jq (h:JE X xa W e m) (hs:swapsWith e none pos.line X.env=pure false:=by rfl):JS X xa W (.Expr e pos) (Kj m):=let ⟨_,a,b⟩:=h;⟨_,ps_expr a hs,qf0 b⟩
theorem Qv (h:JE X xa W e m):JS X xa W (.Return (some e) pos) (J3 m):=let ⟨_,a,b⟩:=h;⟨_,ps_ret a,qik b⟩
theorem Fo (h:JF X xa W e fm):JS X xa W (.Return (some e) pos) (Iy fm):=let ⟨_,a,b⟩:=h;⟨_,ps_ret a,qfY b⟩
theorem Zk (hc:JT X xa W c tm) (h1:JSs X xa W body n) (h2:JSs X xa W orelse o):JS X xa W (.If c body orelse pos) (sIf tm n o):=let ⟨_,a,b⟩:=hc;let ⟨_,c,d⟩:=h1;let ⟨_,e,f⟩:=h2;⟨_,ps_if a c e,qmI b d f⟩
theorem Q5 (hN:X.N.Nodup) (h:JE X xa W e m) (hi:X.N[i]?=some x:=by rfl) (hx:Loc X.env.scope x:=by first | exact .inl rfl | exact .inr rfl) (hs:swapsWith e (some (.Name x p)) pos.line X.env=pure false:=by rfl) (hf:X.fn x=true∨X.env.scope.names.lookup x=some .local:=by first | exact .inl rfl | exact .inr rfl) :
  JS X xa W (.Assign [.Name x p] e pos) (Xl (Qg i) m):=let ⟨_,a,b⟩:=h;⟨_,ps_set hN hi hx a hs hf,y5 b (Vm i)⟩
theorem K0 (hN:X.N.Nodup) (h:JF X xa W e fm) (hi:X.N[i]?=some x:=by rfl) (hx:Loc X.env.scope x:=by first | exact .inl rfl | exact .inr rfl) (hs:swapsWith e (some (.Name x p)) pos.line X.env=pure false:=by rfl) (hf:X.fn x=true∨X.env.scope.names.lookup x=some .local:=by first | exact .inl rfl | exact .inr rfl) :
  JS X xa W (.Assign [.Name x p] e pos) (Pw i fm):=let ⟨_,a,b⟩:=h;⟨_,ps_set hN hi hx a hs hf,qf1 b⟩
theorem C7 (h:JE X xa W e m) (hg:JG X xa js tg gm) (hs:swapsWithSole [tg] e pos.line X.env=pure false:=by rfl) (hw:swappedStores [tg] e X.env=pure none:=by rfl) (h1:(assignEach [tg] X.env).map (·.2)=[assign tg X.env]:=by rfl) :
  JS X xa W (.Assign [tg] e pos) (Xl gm m):=let ⟨_,a,b⟩:=h;let ⟨_,c,d⟩:=hg;⟨_,ps_asg a c hs hw h1,y5 b d⟩
theorem Fn (h:JE X xa W e m) (hx:JE X xa W b mb) (hi:X.N[i]?=some x:=by rfl) (hv:Vis X.env.scope x:=by first | exact .inl rfl | exact .inr (.inl rfl) | exact .inr (.inr rfl)) (hd:(x == ("__debug__" : Str))=false:=by decide) (hcd:(x == ("__classdict__" : Str))=false:=by decide)
  (ha:∀v,assign (.Subscript (.Name x p) b p') X.env v=(do
   let ov ← holding [v] (eval (.Name x p) X.env)
   let iv ← holding [v,ov] (eval b X.env)
   standAt p'
   holding [v,ov,iv] (setItem ov iv v)
   release [v,ov,iv] []):=by intro _;rfl)
  (hs:swapsWithSole [.Subscript (.Name x p) b p'] e pos.line X.env=pure false:=by rfl) (hw:swappedStores [.Subscript (.Name x p) b p'] e X.env=pure none:=by rfl) (h1:(assignEach [.Subscript (.Name x p) b p'] X.env).map (·.2)=[assign (.Subscript (.Name x p) b p') X.env]:=by rfl) :
  JS X xa W (.Assign [.Subscript (.Name x p) b p'] e pos) (Iw i mb m):=let ⟨_,a1,a2⟩:=h;let ⟨_,b1,b2⟩:=hx;⟨_,ps_asg a1 (pg_sub (pe_var hi hv hd hcd) b1 set_list ha) hs hw h1,qfU a2 b2⟩
theorem J8 {iter:Expr} (hp:PassesOwn (model X.prog X.w) X.A X.env X.xe) (hc:X.calm=true) (hi:JI X xa W tg iter im) (hg:JG X xa js tg gm) (hb:JSs X xa W body n) (hs:∀x,foldedSetIterable iter X.env x=pure x:=by intro _;rfl) :
  JS X xa W (.For tg iter body [] pos) (N7 im gm n):=let ⟨_,a1,a2⟩:=hi;let ⟨_,b1,b2⟩:=hg;let ⟨_,c1,c2⟩:=hb;⟨_,ps_for hp hc a1 b1 c1 hs,qim a2 b2 c2⟩
theorem Wq {nm f:Str} {pp qtl:Pos} {k:Nat} (T:PySem.ErrX.ErrTxt X.prog X.K X.mg nm f (cA X.K nm)) (hc:X.calm=true) (hr:Room k X.A) (tk:Takes X W) (ha:JA X xa W [a] am) (hg:Gl X nm:=by rfl) (hdb:(nm == ("__debug__" : Str))=false:=by decide)
  (he:starEach (a::[]) X.env=(false,eval a X.env)::starEach [] X.env:=by rfl) (hpl:(backTo pos (starEach [] X.env)).any (·.1)=false:=by rfl):JS X xa W (.Raise (some (.Call (.Name nm pp) [a] [] pos)) none qtl) (Uz nm f am):=
 let ⟨_,h1,h2⟩:=ha;⟨_,ps_raise hc tk (qge T hr h1 hg hdb he hpl),qdH h2⟩
end
end
theorem qj9 {P:Program} {w:World} {K:PySem.W.Frag} {mg:Str→Option Value} {base:Heap} {x qual:Str} {st:Stmt} {f:Addr} {fd:FuncData} {N ps:List Str} {k:Nat} {body:SM} {sp:Sp} (F:Fun K x qual st f fd) (S:FnScope N ps (defScope st))
  (hsp:∀vs H Q E,sp vs H Q E→spF K ps.length (Q7 N.length body) vs H Q (fun _ _ _=>False))
  (hb:∀(cdv:Value) (A:Around) (outer:List PySem.Env) (s:Shared) (H:Hp) (E:XK),Room k (A.deeper (envOfC qual (defScope st) s.heap.objs.size f cdv))→
   JSs (cxOf CX0 P w K mg base N qual (defScope st) f cdv A outer s H E).nox none WF (defBody st) body) :
  FnOk P w K mg base CX0 (k+1) f fd ps sp:=by
 refine F.ok S (fun vs H Q E h=>(hsp vs H Q E h).1) (fun cdv A outer s H vs Q E hr h=>?_);obtain⟨hl,G,as,Aok,hp⟩:=hsp vs H Q E h;obtain⟨t,h1,h2⟩:=hb cdv A outer s H E hr;refine⟨t,h1,?_⟩;have len:as.length=vs.length:=by
  have:=Aok.1.len;simpa using this.symm
 have est:L2.start N vs=vs.map some++List.replicate (N.length-as.length) none:=by
  unfold L2.start;rw[len]
 rw[est];refine h2 _ G H (as.map some++List.replicate (N.length-as.length) none) (Rel.enter Aok) _ ?_;unfold Q7 at hp;cases e:body (as.map some++List.replicate (N.length-as.length) none) with
 | bad=>rw[e]at hp;exact hp
 | ex x ρ'=>
  rw[e]at hp;intro c d σ' G' H' S' R' q;obtain⟨a,b⟩:=Rel.leave Aok S' R';exact hp c d G' H' a b q
 | ok fl ρ'=>
  rw[e]at hp;cases fl with
  | nx=>
   intro σ' G' H' S' R';obtain⟨a,b⟩:=Rel.leave Aok S' R';exact hp _ G' H' a b .non
  | bk=>exact hp.elim
  | ct=>exact hp.elim
  | rt l=>
   intro σ' v G' H' S' R' q;obtain⟨a,b⟩:=Rel.leave Aok S' R';refine hp v G' H' a b ?_;cases l with
   | d x=>exact q
   | r x=>exact q.elim
   | p x=>exact q.elim
   | xh=>exact q.elim
   | u _ _=>
    obtain⟨t,va,vb,h1,h2,h3,h4,h5⟩:=q;refine⟨t,va,vb,h1,h2,h3,h4,fun b eb=>?_⟩;rcases h5 b eb with h | ⟨i,l,e1,o,_⟩
    ·exact h
    ·have:=Aok.2 l (List.mem_of_getElem? (Vl e1));rw[o]at this;cases this
   | m x=>
    refine⟨q.1,fun b eb=>?_⟩;rcases q.2 b eb with h | ⟨i,l,e1,o,_⟩
    ·exact h
    ·have:=Aok.2 l (List.mem_of_getElem? (Vl e1));rw[o]at this;cases this
def Oo (K:PySem.W.Frag) (n:Nat):Sp:=fun vs H Q _=>∃(a:Addr) (ns:List Int),vs=[.ref a]∧SqL K H a (ns.map V.int)∧ns.length≤n∧∀H',Q (.bl true) H'
theorem qjk {K:PySem.W.Frag} {n:Nat} {R:List L→FRes} (h:∀ns:List Int,ns.length≤n→∃bs,R [.d (.ro (ns.map .int))]=.ok (.d (.bl true)) bs) (vs:List V) (H:Hp) (Q:VK) (E:XK) (hs:Oo K n vs H Q E):spF K 1 R vs H Q (fun _ _ _=>False):=by
 obtain⟨a,ns,rfl,hS,hl,q⟩:=hs;obtain⟨bs,e⟩:=h ns hl;refine⟨rfl,H,[.d (.ro (ns.map .int))],⟨⟨Same.refl _,rfl,fun i l hi=>?_,(fun y hy=>nomatch hy),fun i j l l' b hij e1 e2 o1=>?_⟩,fun l hm=>?_⟩,?_⟩
 ·cases i with
  | zero=>
   cases hi;exact⟨_,rfl,.ro hS (DqA.of_ints ns)⟩
  | succ i=>simp at hi
 ·cases i with
  | zero=>cases e1;cases o1
  | succ i=>simp at e1
 ·rcases List.mem_cons.mp hm with rfl | hm
  ·rfl
  ·exact absurd hm List.not_mem_nil
 ·rw[e];intro v G' H' _ _ r;have r:Dq K G' v (.bl true):=r;cases r;exact q H'
abbrev U3:List String:=["NoneType","bool","int","str","list","tuple","dict"]
theorem qgN {K:PySem.W.Frag}:∀t∈U3,PySem.W.kitOne K (.type t) (.type "int")=some (jm t "int"):=fun t ht=>kit_ty ((by decide +kernel:∀t∈U3,kitB t "int"=some (jm t "int")) t ht)
theorem qec {K:PySem.W.Frag}:∀t∈U3,PySem.W.kitOne K (.type t) (.type "bool")=some (jm t "bool"):=fun t ht=>kit_ty ((by decide +kernel:∀t∈U3,kitB t "bool"=some (jm t "bool")) t ht)
theorem vr {K:PySem.W.Frag}:∀t∈U3,PySem.W.kitOne K (.type t) (.type "list")=some (jm t "list"):=fun t ht=>kit_ty ((by decide +kernel:∀t∈U3,kitB t "list"=some (jm t "list")) t ht)
theorem kit_tuple {K:PySem.W.Frag}:∀t∈U3,PySem.W.kitOne K (.type t) (.type "tuple")=some (jm t "tuple"):=fun t ht=>kit_ty ((by decide +kernel:∀t∈U3,kitB t "tuple"=some (jm t "tuple")) t ht)
theorem Wn:bootBuiltins "len"=some (.builtin "len"):=by first | boot_by_name | rfl | kernel_rfl
theorem qkU:bootBuiltins "abs"=some (.builtin "abs"):=by first | boot_by_name | rfl | kernel_rfl
theorem jb:bootBuiltins "max"=some (.builtin "max"):=by first | boot_by_name | rfl | kernel_rfl
theorem Ia:bootBuiltins "min"=some (.builtin "min"):=by first | boot_by_name | rfl | kernel_rfl
theorem qkT:bootBuiltins "sum"=some (.builtin "sum"):=by first | boot_by_name | rfl | kernel_rfl
theorem Sn:bootBuiltins "int"=some (.type "int"):=by first | boot_by_name | rfl | kernel_rfl
theorem qhu:bootBuiltins "bool"=some (.type "bool"):=by first | boot_by_name | rfl | kernel_rfl
theorem yh:bootBuiltins "list"=some (.type "list"):=by first | boot_by_name | rfl | kernel_rfl
theorem Hj:bootBuiltins "tuple"=some (.type "tuple"):=by first | boot_by_name | rfl | kernel_rfl
def noR (ρ:Env) (j:Nat):Bool:=match ρ[j]? with
 | some (some (.r _))=>false
 | _=>true
def Mc (ρ:Env):List Nat→Bool
 | []=>true
 | j::js=>noR ρ j && Mc ρ js
def fgE (js:List Nat):Res Fl→Res Fl
 | .ok (.rt l) ρ=>.ok (.rt l) ρ
 | .ok f ρ=>if Mc ρ js=true then .ok f (Vb ρ js) else .bad
 | r=>r
def sFg (js:List Nat) (m:SM):SM:=fun ρ=>fgE js (m ρ)
theorem qiZ {ρ:Env} {j:Nat} (h:noR ρ j=true) (x:D):ρ[j]?≠some (some (.r x)):=fun e=>by
 unfold noR at h;rw[e]at h;cases h
theorem Bg {K:Kx} {σ:L2.St} {G H:Hp} {ρ:Env} (R:Rel K σ G H ρ):∀{js:List Nat},Mc ρ js=true→Stp σ ρ G H σ (Vb ρ js) G H∧Rel K σ G H (Vb ρ js)
 | [],_=>⟨Stp.refl _ _ _ _,R⟩
 | j::js,h=>by
  unfold Mc at h;obtain⟨h1,h2⟩:=Bool.and_eq_true_iff.mp h;obtain⟨S1,R1⟩:=Bg R h2;obtain⟨S2,R2⟩:=zr (i:=j) R1 fun x e=>qiZ h1 x (Km e).1;exact⟨S1.trans S2,R2⟩
theorem qin {K:Kx} {W:WX} {js:List Nat} {t:TS} {m:SM} (ht:Nt K W t m):Nt K W t (sFg js m):=fun σ G H ρ R D h=>by
 refine ht σ G H ρ R D ?_;unfold sFg at h;cases e:m ρ with
 | bad=>rw[e]at h;exact h
 | ex x ρ1=>rw[e]at h;exact h
 | ok f ρ1=>
  rw[e]at h;cases f with
  | rt l=>exact h
  | nx=>
   unfold fgE at h;simp only at h;split at h
   ·rename_i hw;intro σ' G' H' S' R';obtain⟨S2,R2⟩:=Bg R' hw;exact h σ' G' H' (S'.trans S2) R2
   ·exact h.elim
  | bk=>
   unfold fgE at h;simp only at h;split at h
   ·rename_i hw;intro σ' G' H' S' R';obtain⟨S2,R2⟩:=Bg R' hw;exact h σ' G' H' (S'.trans S2) R2
   ·exact h.elim
  | ct=>
   unfold fgE at h;simp only at h;split at h
   ·rename_i hw;intro σ' G' H' S' R';obtain⟨S2,R2⟩:=Bg R' hw;exact h σ' G' H' (S'.trans S2) R2
   ·exact h.elim
theorem J7 {X:Cx} {xa:Option XA} {W:WX} {js:List Nat} {b:List Stmt} {m:SM} (h:JSs X xa W b m):JSs X xa W b (sFg js m):=let ⟨t,h1,h2⟩:=h;⟨t,h1,qin h2⟩
theorem xu {X:Cx} {xa:Option XA} {W:WX} {js:List Nat} {b:Stmt} {m:SM} (h:JS X xa W b m):JS X xa W b (sFg js m):=let ⟨t,h1,h2⟩:=h;⟨t,h1,qin h2⟩
def ym (fn:List He.DefD) (ms:List FO) (ck:PySem.W.Frag→Bool) (K:PySem.W.Frag):Prop:=qqN fn ms ck K=qpG fn ms
section
variable {fn:List He.DefD} {ms:List FO} {ck:PySem.W.Frag→Bool} {K:PySem.W.Frag}
theorem ym.chk (c:ym fn ms ck K):ck K=true:=(He.ba (show (ck K && fn.all fun d=>d.ok K)=true from congrArg (fun z:AlC=>z.1) c)).1
theorem ym.def_ (c:ym fn ms ck K) (i:Nat) {d:He.DefD} (h:fn[i]?=some d:=by rfl):∃fd,FunD K d.name d.qual d.params d.body d.scope (d.dvs K) (d.kws K) (He.fAd K d.at_) fd:=by
 have c2:=(He.ba (show (ck K && fn.all fun d=>d.ok K)=true from congrArg (fun z:AlC=>z.1) c)).2;have e:fn.map (fun d=>He.fnW K d.at_)=fn.map He.DefD.val:=congrArg (fun z:AlC=>z.2.1) c;have e2:(fn.map fun d=>He.fnW K d.at_)[i]?=(fn.map He.DefD.val)[i]?:=by rw[e]
 rw[List.getElem?_map,List.getElem?_map,h]at e2;exact He.DefD.funD (Option.some.inj e2) (List.all_eq_true.mp c2 d (List.mem_of_getElem? h))
theorem ym.qgF (c:ym fn ms ck K) (i:Nat) {d:FO} (h:ms[i]?=some d:=by rfl):fnC K d.at_=d.val:=by
 have e:ms.map (fun d=>fnC K d.at_)=ms.map FO.val:=congrArg (fun z:AlC=>z.2.2) c;have e2:(ms.map fun d=>fnC K d.at_)[i]?=(ms.map FO.val)[i]?:=by rw[e]
 rw[List.getElem?_map,List.getElem?_map,h]at e2;exact Option.some.inj e2
end
theorem qa8 {K:PySem.W.Frag} {C:Addr} (q:x9 K C=true):∃nm q N bs bm sn sub ab col dd k0 k1 k2 k3 k5,K.lookup C=some (excClassObj nm q C N bs bm true sn sub ab col dd k0 k1 k2 k3 k5 "ValueError.__new__")∧PySem.HandSPX.refsVE bm=true:=by
 unfold x9 at q;split at q
 ·rename_i dd cd sl ho;split at q
  ·rename_i C' bm k0 k1 k2 k3 n k5 hm hs;simp only[Bool.and_eq_true,beq_iff_eq,Bool.not_eq_true']at q;obtain⟨rfl,rfl,hdel,hd,ht⟩:=q;obtain⟨nm,bs,mro,ns,qn,hdc,sn,sub,ab,col,del⟩:=cd;dsimp only at hm hdel hd
   subst hm hdel hd;have hsl:sl=#[k0,k1,k2,k3,some (.builtin "ValueError.__new__"),k5]:=by
    obtain⟨l⟩:=sl;simp only at hs;rw[hs]
   subst hsl;exact⟨nm,qn,ns,bs,bm,sn,sub,ab,col,dd,k0,k1,k2,k3,k5,ho,ht⟩
  ·cases q
 ·cases q
structure ErrF (P:Program) (K:PySem.W.Frag) (mg:Str→Option Value) (nm f:Str):Prop where
 txt:PySem.ErrX.ErrTxt P K mg nm f (cA K nm)
 exm:PySem.W.exmOne K (.ref (cA K nm)) (.ref (cA K nm))=some true
 xf:XfC K (cA K nm)
 noN:PySem.W.findIn K (.ref (cA K nm)) f=some none
theorem lkW {K:PySem.W.Frag} {p:Str×Option Str} {d:FO} (e:fnC K p=d.val):∃oc od sl fd,K.lookup (He.fAd K p)=some ⟨oc,od,.func fd,sl⟩∧fd.name=d.name∧fd.qualname=d.qual∧fd.params=d.params∧fd.body=.stmts d.body∧fd.scope=d.scope∧fd.globals=mainGlobals∧fd.closure.map (·.1)=(["__class__"]:List Str)∧fd.builtins=builtinsNs:=by
 unfold fnC at e;split at e
 ·rename_i oc od fd sl lk;have e2:(some (fd.name,fd.qualname,fd.params,fd.body,fd.scope,fd.globals,fd.closure.map (·.1),fd.builtins):FnC)=some (d.name,d.qual,d.params,FuncBody.stmts d.body,d.scope,mainGlobals,(["__class__"]:List Str),builtinsNs):=e;simp only[Option.some.injEq,Prod.mk.injEq]at e2;obtain⟨h1,h2,h3,h4,h5,h6,h7,h8⟩:=e2;exact⟨oc,od,sl,fd,lk,h1,h2,h3,h4,h5,h6,h7,h8⟩
 ·cases e
theorem qcS {P:Program} {K:PySem.W.Frag} {h:Heap} {mg:Str→Option Value} {nm f:Str} {d:FO} (X:K.In h) (G:h.Ns mainGlobals mg) (q:qmm K P.main.file nm f d.qual=true) (e:fnC K d.at_=d.val) (hat:d.at_=(nm,some ("__init__" : Str))) (hn:d.name="__init__") (hsc:d.scope=PySem.ErrX.qaF f)
  (hbind:∀(kV dc pm:Value) (an:Option Addr) (cd ct:Value) (cc:Addr) (s:Shared) (x v:Value),BindsTo s (PySem.W.ksFn "__init__" d.qual d.params d.body (PySem.ErrX.qaF f) .none kV dc pm an cd ct cc) ⟨[x,v],[]⟩ [("self",x),(f,v)])
  (hb:∃msg p0 p1 p2 p3 p4 p5 q1 q2 q3 q4,(Pos.endLine p2 == Pos.line p4)=true∧d.body=PySem.ErrX.body f msg p0 p1 p2 p3 p4 p5 q1 q2 q3 q4) (hp:∃ar,(d.params.posonlyargs++d.params.args).head?=some ar∧ar.arg="self")
  (tp:(P.main.scope.names.lookup ("super" : Str)).isSome=false)
  (hkS:(PySem.ErrX.qaF f).names.lookup ("self" : Str)=some .local) (hkF:(PySem.ErrX.qaF f).names.lookup f=some .local) (hkC:(PySem.ErrX.qaF f).names.lookup ("__class__" : Str)=some .free) (hkU:(PySem.ErrX.qaF f).names.lookup ("super" : Str)=some .globalImplicit)
  (hne:("self" : Str)≠f) (hd:(f == ("__debug__" : Str))=false):ErrF P K mg nm f:=by
 unfold qmm at q;simp only[Bool.and_eq_true]at q;obtain⟨q1,q2,q3,q4,q5,q6,q7,q8,q9,q10,q11,q12,q13,q14,q15,q16,q17⟩:=q;obtain⟨oc,od,sl,fd,lk,h1,h2,h3,h4,h5,h6,h7,h8⟩:=lkW e;rw[hat]at lk;have lk:K.lookup (He.ma K (cA K nm) "__init__")=some ⟨oc,od,.func fd,sl⟩:=lk;have xt:XfC K (cA K nm):=xfB_ok q17;refine⟨⟨PySem.W.mg_of X G (He.eqO_ok q1),qa8 q2,He.eqO_ok q3,He.eqO_ok q4,q5,of_decide_eq_true q6,of_decide_eq_true q7,of_decide_eq_true q8,of_decide_eq_true q9,He.eqO_ok q10,He.eqO_ok q11,He.eqO_ok q12,tp,?_⟩,of_decide_eq_true q16,xt,He.eqO_ok q4⟩;unfold qoE at q15;rw[lk]at q15;simp only at q15;obtain⟨n1,n2,n3,n4,n5,n6,n7,n8,n9,n10,n11,n12,n13,n14,n15⟩:=fd;simp only at h1 h2 h3 h4 h5 h6 h7 h8 q15;split at q15
 ·rename_i cn cc cda lk;subst h1 h2 h3 h4 h5 h6 h8;simp only[List.map_cons,List.map_nil,List.cons.injEq,and_true]at h7;subst h7;simp only[Bool.and_eq_true]at q15;obtain⟨r1,r2,r3⟩:=q15;split at r2
  ·rename_i ccl cdd vs ccs hcda;split at r2
   ·rename_i fl tf hvs;split at r3
    ·rename_i cl cld C' csl hcc;have r3:C'=cA K nm:=eq_of_beq r3;subst r3;refine⟨He.ma K (cA K nm) "__init__",cc,cda,d.params,d.body,d.scope,He.eqO_ok q13,of_decide_eq_true q14,⟨oc,od,sl,d.qual,n9,n10,n11,n12,n14,?_,r1,?_⟩,⟨ccl,cdd,vs,ccs,fl,tf,hcda,hvs,r2⟩,⟨cl,cld,csl,hcc⟩,hb,hp,?_,?_,?_,?_,?_,hsc,hne,hd⟩
     ·rw[lk,hn];try rfl
     ·rw[hsc];exact hbind _ _ _ _ _ _ _
     ·rw[hsc];exact hkS
     ·rw[hsc];exact hkF
     ·rw[hsc];exact hkC
     ·rw[hsc];exact hkU
     ·rw[hsc];intro x hx;have hx:x∈[(PySem.Str.ofString "self",NameKind.local),(f,.local),(PySem.Str.ofString "__class__",.free),(PySem.Str.ofString "super",.globalImplicit)]:=hx;simp only[List.mem_cons,List.not_mem_nil,or_false]at hx;rcases hx with rfl | rfl | rfl | rfl<;>exact (fun z=>nomatch z)
    ·cases r3
   ·cases r2
  ·cases r2
 ·cases q15
theorem U6 {K:PySem.W.Frag} {x qual:Str} {st:Stmt} {kws:List (Str×V)} {f:Addr} {fd:FuncData} (F:FunD K x qual (defArgs st) (defBody st) (defScope st) [] kws f fd):Fun K x qual st f fd:=by
 obtain⟨oc,od,dV,kV,doc,pm,an,cdv,ct,osl,e,lk,hc,hd,_⟩:=F.ex;rcases hd with ⟨_,rfl⟩ | ⟨h,_⟩
 ·exact⟨⟨oc,od,kV,doc,pm,an,cdv,ct,osl,e,lk,hc⟩,F.kp⟩
 ·exact absurd rfl h
structure FnB (P:Program) (w:World) (K:PySem.W.Frag) (mg:Str→Option Value) (base:Heap) (k:Nat) (x:Str) (ps:List Str) (R:List L→FRes):Prop where
 ex:∃fd,FnOk P w K mg base (L2.CX P w) k (cA K x) fd ps (spF K ps.length R)∧L2.Binds K fd ps []
 g:mg x=some (.ref (cA K x))
 kp:PySem.W.keepIn K (.ref (cA K x))=true
abbrev FnF (K:PySem.W.Frag) (x:Str) (st:Stmt):Prop:=∃fd,FunD K x x (defArgs st) (defBody st) (defScope st) [] [] (cA K x) fd
section
variable {P:Program} {w:World} {K:PySem.W.Frag} {mg:Str→Option Value} {base:Heap}
theorem Zg {x:Str} {st:Stmt} {N ps:List Str} {k:Nat} {body:SM} (F:FnF K x st) (g:mg x=some (.ref (cA K x))) (S:FnScope N ps (defScope st))
  (hbind:∀(kV doc pm:Value) (an:Option Addr) (cdv ct:Value) (us:List Value),us.length=ps.length→bindArgs (PySem.W.fnOf x x (defArgs st) (defBody st) (defScope st) .none kV doc pm an cdv ct) ⟨us,[]⟩=pure (ps.zip us))
  (hb:∀(cdv:Value) (A:Around) (outer:List PySem.Env) (s:Shared) (H:Hp) (E:XK),Room k (A.deeper (envOfC x (defScope st) s.heap.objs.size (cA K x) cdv))→
   JSs (cxOf (L2.CX P w) P w K mg base N x (defScope st) (cA K x) cdv A outer s H E) none (fun cls d _ H=>E cls d H) (defBody st) body) :
  FnB P w K mg base (k+1) x ps (Q7 N.length body):=by
 obtain⟨fd,F⟩:=F;exact⟨⟨fd,fn_ok (U6 F) S hb,(U6 F).binds hbind⟩,g,F.kp⟩
end
section
variable {X:Cx} {xa:Option XA} {W:WX} {e:Expr} {es:List Expr} {am:AM} {pos p:Pos} {x:Str} {k:Nat} {ps:List Str} {R:List L→FRes}
theorem Qk (B:FnB X.prog X.w X.K X.mg X.base k x ps R) (hr:Room k X.A) (tk:Takes X W) (ha:JA X xa W (e::es) am) (hg:Gl X x:=by rfl)
  (hdb:(x == ("__debug__" : Str))=false:=by decide) (he:starEach (e::es) X.env=(false,eval e X.env)::starEach es X.env:=by rfl) (hpl:(backTo pos (starEach es X.env)).any (·.1)=false:=by rfl):JE X xa W (.Call (.Name x p) (e::es) [] pos) (Q9 ps.length R am):=by
 obtain⟨fd,F,hb⟩:=B.ex;exact qgU F hr B.g B.kp hb tk ha hg hdb he hpl
theorem qej (B:FnB X.prog X.w X.K X.mg X.base k x ps R) (hr:Room k X.A) (tk:Takes X W) (ha:JA X xa W (e::es) am) (hg:Gl X x:=by rfl)
  (hdb:(x == ("__debug__" : Str))=false:=by decide) (he:starEach (e::es) X.env=(false,eval e X.env)::starEach es X.env:=by rfl) (hpl:(backTo pos (starEach es X.env)).any (·.1)=false:=by rfl):JF X xa W (.Call (.Name x p) (e::es) [] pos) (x8 ps.length R am):=by
 obtain⟨fd,F,hb⟩:=B.ex;exact qgR F hr B.g B.kp hb tk ha hg hdb he hpl
end
theorem qgM {P:Program} {w:World} {K:PySem.W.Frag} {mg:Str→Option Value} {x sx:Str} {st:Stmt} {N:List Str} {k n:Nat} {body:SM} (F:FnF K x st) (S:FnScope N [sx] (defScope st))
  (hbind:∀(kV doc pm:Value) (an:Option Addr) (cdv ct:Value) (us:List Value),us.length=1→bindArgs (PySem.W.fnOf x x (defArgs st) (defBody st) (defScope st) .none kV doc pm an cdv ct) ⟨us,[]⟩=pure ([sx].zip us))
  (hl:∀ns:List Int,ns.length≤n→∃bs,Q7 N.length body [.d (.ro (ns.map .int))]=.ok (.d (.bl true)) bs)
  (hb:∀(base:Heap) (cdv:Value) (A:Around) (outer:List PySem.Env) (s:Shared) (H:Hp) (E:XK),Room k (A.deeper (envOfC x (defScope st) s.heap.objs.size (cA K x) cdv))→
   JSs (cxOf CX0 P w K mg base N x (defScope st) (cA K x) cdv A outer s H E).nox none WF (defBody st) body) :
  ∃fd:FuncData,(∀(s:Shared) (v:Value),BindsTo s fd ⟨[v],[]⟩ [(sx,v)])∧∀base:Heap,FnOk P w K mg base CX0 (k+1) (cA K x) fd [sx] (Oo K n):=by
 obtain⟨fd,F⟩:=F;have F':=U6 F;refine⟨fd,fun s v=>?_,fun base=>qj9 F' S (qjk hl) (hb base)⟩;obtain⟨oc,od,kV,doc,pm,an,cdv,ct,osl,rfl,lk,hc⟩:=F'.ex;exact .of_eq (hbind kV doc pm an cdv ct [v] rfl)
section
variable {K:PySem.W.Frag} {h:Heap} {mg:Str→Option Value}
theorem Ye (X:K.In h) (G:h.Ns mainGlobals mg) {x:Str} (c:qg6 K x=true):mg x=none:=PySem.W.mg_none_of X G (He.eqO_ok c)
theorem Q3 (X:K.In h) (G:h.Ns mainGlobals mg) {x:Str} (c:qoL K x=true):mg x=some (.ref (cA K x)):=PySem.W.mg_of X G (He.eqO_ok c)
theorem qg0 (X:K.In h) (G:h.Ns mainGlobals mg) {x:Str} {id:String} (c:qoF K x id=true):mg x=some (.builtin id):=PySem.W.mg_of X G (He.eqO_ok c)
theorem Q0 {α:Type} {p:α→Bool} {xs:List α} (h:xs.all p=true) {x:α} {i:Nat} (e:xs[i]?=some x:=by rfl):p x=true:=List.all_eq_true.mp h x (List.mem_of_getElem? e)
end
end DL
namespace DL
open PySem L2
section
variable {α β:Type} {ρ ρ1:Env} {e:Exn}
@[simp] theorem qmp {a:α} {k:α→Env→Res β}:bindR (.ok a ρ) k=k a ρ:=(rfl)
def vrE (o0:Option (Option L)) (i:Nat) (ρ:Env):Res X:=match o0 with
 | some (some (.d x))=>.ok (.d x) ρ
 | some (some _)=>.ok (.s i) ρ
 | _=>.bad
@[simp] theorem qo5 {i:Nat}:Qi i ρ=vrE ρ[i]? i ρ:=by
 unfold Qi vrE;split<;>simp_all
@[simp] theorem qs0 {x:D} {i:Nat}:vrE (some (some (.d x))) i ρ=.ok (.d x) ρ:=(rfl)
@[simp] theorem qsZ {x:D} {i:Nat}:vrE (some (some (.m x))) i ρ=.ok (.s i) ρ:=(rfl)
@[simp] theorem qsY {x:D} {i:Nat}:vrE (some (some (.r x))) i ρ=.ok (.s i) ρ:=(rfl)
@[simp] theorem qua {x:D}:eC x ρ=.ok (.d x) ρ:=(rfl)
def lkE:Option (Option L)→Option D
 | some (some l)=>l.dat
 | _=>none
@[simp] theorem qrj {x:D}:look ρ (.d x)=some x:=(rfl)
@[simp] theorem qri {i:Nat}:look ρ (.s i)=lkE ρ[i]?:=by
 unfold lkE look;rfl
@[simp] theorem qtF {x:D}:lkE (some (some (.m x)))=some x:=(rfl)
@[simp] theorem qtE {x:D}:lkE (some (some (.r x)))=some x:=(rfl)
@[simp] theorem qjg:looks ρ []=some []:=(rfl)
def qrl:Option D→Option (List D)→Option (List D)
 | some a,some as=>some (a::as)
 | _,_=>none
@[simp] theorem qhS {x:X} {xs:List X}:looks ρ (x::xs)=qrl (look ρ x) (looks ρ xs):=(rfl)
@[simp] theorem qnK {a:D} {as:List D}:qrl (some a) (some as)=some (a::as):=(rfl)
def fzE (o0:Option (Option L)) (i:Nat) (ρ:Env):Option (D×Env):=match o0 with
 | some (some (.m x))=>some (x,ρ.set i (some (.d x)))
 | some (some (.d x))=>some (x,ρ)
 | _=>none
@[simp] theorem quo {x:D}:fz ρ (.d x)=some (x,ρ):=(rfl)
@[simp] theorem qoN:fzs ρ []=some ([],ρ):=(rfl)
def qoP (d:D):Option (List D×Env)→Option (List D×Env)
 | some (ds,ρ2)=>some (d::ds,ρ2)
 | none=>none
def qoR:Option (D×Env)→List X→Option (List D×Env)
 | some (d,ρ1),xs=>qoP d (fzs ρ1 xs)
 | none,_=>none
@[simp] theorem qmi {x:X} {xs:List X}:fzs ρ (x::xs)=qoR (fz ρ x) xs:=by
 unfold qoR;rw[fzs];cases fz ρ x with
 | none=>rfl
 | some p=>
  obtain⟨d,ρ1⟩:=p;simp only;cases fzs ρ1 xs with
  | none=>rfl
  | some q=>rfl
@[simp] theorem qoQ {d:D} {xs:List X}:qoR (some (d,ρ1)) xs=qoP d (fzs ρ1 xs):=(rfl)
@[simp] theorem qoO {d:D} {ds:List D}:qoP d (some (ds,ρ1))=some (d::ds,ρ1):=(rfl)
@[simp] theorem qnm {d:D}:oD (some d) ρ=.ok (.d d) ρ:=(rfl)
@[simp] theorem qnl {d:List D}:oF (some d) ρ=.ok (.lst d) ρ:=(rfl)
def op2 (g:D→D→Option D) (o0:Option D) (o1:Option D) (ρ:Env):Res X:=match o0,o1 with
 | some a,some b=>oD (g a b) ρ
 | _,_=>.bad
def qog (g:D→D→Option D) (x:X):X→Env→Res X:=fun y ρ2=>op2 g (look ρ2 x) (look ρ2 y) ρ2
def qrH (g:D→D→Option D) (mb:EM):X→Env→Res X:=fun x ρ1=>bindR (mb ρ1) (qog g x)
@[simp] theorem qsy {g:D→D→Option D} {ma mb:EM}:eOp g ma mb ρ=bindR (ma ρ) (qrH g mb):=(rfl)
@[simp] theorem qoh {g:D→D→Option D} {mb:EM} {x:X}:qrH g mb x ρ=bindR (mb ρ) (qog g x):=(rfl)
@[simp] theorem qof {g:D→D→Option D} {x y:X}:qog g x y ρ=op2 g (look ρ x) (look ρ y) ρ:=(rfl)
@[simp] theorem qqJ {g:D→D→Option D} {a b:D}:op2 g (some a) (some b) ρ=oD (g a b) ρ:=(rfl)
def op1 (g:D→Option D) (o0:Option D) (ρ:Env):Res X:=match o0 with
 | some a=>oD (g a) ρ
 | _=>.bad
def kUn (g:D→Option D):X→Env→Res X:=fun x ρ1=>op1 g (look ρ1 x) ρ1
@[simp] theorem qsv {g:D→Option D} {ma:EM}:eUn g ma ρ=bindR (ma ρ) (kUn g):=(rfl)
@[simp] theorem qrw {g:D→Option D} {x:X}:kUn g x ρ=op1 g (look ρ x) ρ:=(rfl)
@[simp] theorem qqK {g:D→Option D} {a:D}:op1 g (some a) ρ=oD (g a) ρ:=(rfl)
def opN (g:List D→Option D) (o0:Option (List D)) (ρ:Env):Res X:=match o0 with
 | some a=>oD (g a) ρ
 | _=>.bad
def kCB (g:List D→Option D):List X→Env→Res X:=fun x ρ1=>opN g (looks ρ1 x) ρ1
@[simp] theorem qsz {g:List D→Option D} {ma:AM}:eCB g ma ρ=bindR (ma ρ) (kCB g):=(rfl)
@[simp] theorem qrO {g:List D→Option D} {x:List X}:kCB g x ρ=opN g (looks ρ x) ρ:=(rfl)
@[simp] theorem qqG {g:List D→Option D} {a:List D}:opN g (some a) ρ=oD (g a) ρ:=(rfl)
@[simp] theorem qpz:Qx ρ=.ok [] ρ:=(rfl)
def qcr (x:X):List X→Env→Res (List X):=fun xs ρ2=>.ok (x::xs) ρ2
def qe9 (mr:AM):X→Env→Res (List X):=fun x ρ1=>bindR (mr ρ1) (qcr x)
@[simp] theorem qmw {ma:EM} {mr:AM}:Qf ma mr ρ=bindR (ma ρ) (qe9 mr):=(rfl)
@[simp] theorem qjA {mr:AM} {x:X}:qe9 mr x ρ=bindR (mr ρ) (qcr x):=(rfl)
@[simp] theorem qjz {x:X} {xs:List X}:qcr x xs ρ=.ok (x::xs) ρ:=(rfl)
def qmE:Option (List D×Env)→Res X
 | some (ds,ρ2)=>if ds.length≤mx then .ok (.d (.tup ds)) ρ2 else .bad
 | none=>.bad
def kTup:List X→Env→Res X:=fun xs ρ1=>qmE (fzs ρ1 xs)
@[simp] theorem qo6 {ma:AM}:Gg ma ρ=bindR (ma ρ) kTup:=(rfl)
@[simp] theorem qnV {xs:List X}:kTup xs ρ=qmE (fzs ρ xs):=(rfl)
@[simp] theorem qmD {ds:List D}:qmE (some (ds,ρ))=if ds.length≤mx then .ok (.d (.tup ds)) ρ else .bad:=(rfl)
def qnJ:Option (List D×Env)→Res D
 | some (ds,ρ2)=>if ds.length≤mx then .ok (.lst ds) ρ2 else .bad
 | none=>.bad
def qrL:List X→Env→Res D:=fun xs ρ1=>qnJ (fzs ρ1 xs)
@[simp] theorem qoY {ma:AM}:O7 ma ρ=bindR (ma ρ) qrL:=(rfl)
@[simp] theorem qoj {xs:List X}:qrL xs ρ=qnJ (fzs ρ xs):=(rfl)
@[simp] theorem qnI {ds:List D}:qnJ (some (ds,ρ))=if ds.length≤mx then .ok (.lst ds) ρ else .bad:=(rfl)
def qnj (g:List D→Option (List D)) (o0:Option (List D)) (ρ:Env):Res D:=match o0 with
 | some a=>oF (g a) ρ
 | _=>.bad
def qrP (g:List D→Option (List D)):List X→Env→Res D:=fun x ρ1=>qnj g (looks ρ1 x) ρ1
@[simp] theorem qss {g:List D→Option (List D)} {ma:AM}:fCB g ma ρ=bindR (ma ρ) (qrP g):=(rfl)
@[simp] theorem qoo {g:List D→Option (List D)} {x:List X}:qrP g x ρ=qnj g (looks ρ x) ρ:=(rfl)
@[simp] theorem qni {g:List D→Option (List D)} {a:List D}:qnj g (some a) ρ=oF (g a) ρ:=(rfl)
def kF:D→Env→Res X:=fun d ρ'=>.ok (.d d) ρ'
@[simp] theorem qt9 {m:FM}:eF m ρ=bindR (m ρ) kF:=(rfl)
@[simp] theorem qtO {d:D}:kF d ρ=.ok (.d d) ρ:=(rfl)
@[simp] theorem qlw:xk ρ=.ok none ρ:=(rfl)
def qjn:X→Env→Res (Option Int):=fun x ρ1=>match x with
 | .d (.int i)=>.ok (some i) ρ1
 | _=>.bad
@[simp] theorem qlv {ma:EM}:Fc ma ρ=bindR (ma ρ) qjn:=(rfl)
@[simp] theorem qlV {i:Int}:qjn (.d (.int i)) ρ=.ok (some i) ρ:=(rfl)
def slE (g:D→Option Int→Option Int→Option D) (lo hi:Option Int) (o0:Option D) (ρ:Env):Res X:=match o0 with
 | some a=>oD (g a lo hi) ρ
 | none=>.bad
def qnY (g:D→Option Int→Option Int→Option D) (x:X) (lo:Option Int):Option Int→Env→Res X:=fun hi ρ3=>slE g lo hi (look ρ3 x) ρ3
def qn0 (g:D→Option Int→Option Int→Option D) (mh:OM) (x:X):Option Int→Env→Res X:=fun lo ρ2=>bindR (mh ρ2) (qnY g x lo)
def qry (g:D→Option Int→Option Int→Option D) (ml mh:OM):X→Env→Res X:=fun x ρ1=>bindR (ml ρ1) (qn0 g mh x)
@[simp] theorem qsw {g:D→Option Int→Option Int→Option D} {ma:EM} {ml mh:OM}:eSl g ma ml mh ρ=bindR (ma ρ) (qry g ml mh):=(rfl)
@[simp] theorem qn1 {g:D→Option Int→Option Int→Option D} {ml mh:OM} {x:X}:qry g ml mh x ρ=bindR (ml ρ) (qn0 g mh x):=(rfl)
@[simp] theorem qnZ {g:D→Option Int→Option Int→Option D} {mh:OM} {x:X} {lo:Option Int}:qn0 g mh x lo ρ=bindR (mh ρ) (qnY g x lo):=(rfl)
@[simp] theorem qnX {g:D→Option Int→Option Int→Option D} {x:X} {lo hi:Option Int}:qnY g x lo hi ρ=slE g lo hi (look ρ x) ρ:=(rfl)
@[simp] theorem qqc {g:D→Option Int→Option Int→Option D} {lo hi:Option Int} {a:D}:slE g lo hi (some a) ρ=oD (g a lo hi) ρ:=(rfl)
def pkE (lo hi st:Option Int) (ds:List D) (ρ:Env):Res D:=if st≠some 0∧(Mn ds lo hi st).length≤mx then .ok (.lst (Mn ds lo hi st)) ρ else .bad
def qmM (lo hi st:Option Int) (o0:Option D) (ρ:Env):Res D:=match o0 with
 | some a=>(match qdv a with
  | some ds=>pkE lo hi st ds ρ
  | none=>.bad)
 | none=>.bad
def qn4 (x:X) (lo hi:Option Int):Option Int→Env→Res D:=fun st ρ4=>qmM lo hi st (look ρ4 x) ρ4
def qn6 (ms:OM) (x:X) (lo:Option Int):Option Int→Env→Res D:=fun hi ρ3=>bindR (ms ρ3) (qn4 x lo hi)
def qn8 (mh ms:OM) (x:X):Option Int→Env→Res D:=fun lo ρ2=>bindR (mh ρ2) (qn6 ms x lo)
def qrA (ml mh ms:OM):X→Env→Res D:=fun x ρ1=>bindR (ml ρ1) (qn8 mh ms x)
@[simp] theorem qoX {ma:EM} {ml mh ms:OM}:qkd ma ml mh ms ρ=bindR (ma ρ) (qrA ml mh ms):=(rfl)
@[simp] theorem qn9 {ml mh ms:OM} {x:X}:qrA ml mh ms x ρ=bindR (ml ρ) (qn8 mh ms x):=(rfl)
@[simp] theorem qn7 {mh ms:OM} {x:X} {lo:Option Int}:qn8 mh ms x lo ρ=bindR (mh ρ) (qn6 ms x lo):=(rfl)
@[simp] theorem qn5 {ms:OM} {x:X} {lo hi:Option Int}:qn6 ms x lo hi ρ=bindR (ms ρ) (qn4 x lo hi):=(rfl)
@[simp] theorem qn3 {x:X} {lo hi st:Option Int}:qn4 x lo hi st ρ=qmM lo hi st (look ρ x) ρ:=(rfl)
@[simp] theorem qqa {lo hi st:Option Int} {ds:List D}:qmM lo hi st (some (.lst ds)) ρ=pkE lo hi st ds ρ:=(rfl)
def kBl:X→Env→Res Bool:=fun x ρ1=>match x with
 | .d (.bl b)=>.ok b ρ1
 | _=>.bad
@[simp] theorem qpZ {ma:EM}:tBl ma ρ=bindR (ma ρ) kBl:=(rfl)
@[simp] theorem qrQ {b:Bool}:kBl (.d (.bl b)) ρ=.ok b ρ:=(rfl)
def qmG (o0:Option Bool) (ρ:Env):Res Bool:=match o0 with
 | some b=>.ok b ρ
 | none=>.bad
def qrx:X→Env→Res Bool:=fun x ρ1=>qmG ((look ρ1 x).bind qdu) ρ1
@[simp] theorem qnE {ma:EM}:Ek ma ρ=bindR (ma ρ) qrx:=(rfl)
@[simp] theorem qnW {x:X}:qrx x ρ=qmG ((look ρ x).bind qdu) ρ:=(rfl)
@[simp] theorem qmF {b:Bool}:qmG (some b) ρ=.ok b ρ:=(rfl)
def qou (mu:TM):Bool→Env→Res Bool:=fun b ρ1=>if b=true then mu ρ1 else .ok false ρ1
@[simp] theorem qnH {mt mu:TM}:qd6 mt mu ρ=bindR (mt ρ) (qou mu):=(rfl)
@[simp] theorem qrU {mu:TM}:qou mu true ρ=mu ρ:=(rfl)
@[simp] theorem qrV {mu:TM}:qou mu false ρ=.ok false ρ:=(rfl)
def kOr (mu:TM):Bool→Env→Res Bool:=fun b ρ1=>if b=true then .ok true ρ1 else mu ρ1
@[simp] theorem qrg {mt mu:TM}:mOr mt mu ρ=bindR (mt ρ) (kOr mu):=(rfl)
@[simp] theorem qtK {mu:TM}:kOr mu true ρ=.ok true ρ:=(rfl)
@[simp] theorem qtL {mu:TM}:kOr mu false ρ=mu ρ:=(rfl)
def qrI:Bool→Env→Res Bool:=fun b ρ1=>.ok (!b) ρ1
@[simp] theorem qnG {mt:TM}:El mt ρ=bindR (mt ρ) qrI:=(rfl)
@[simp] theorem qoi {b:Bool}:qrI b ρ=.ok (!b) ρ:=(rfl)
def qjF (mb:EM):Bool→Env→Res X:=fun b ρ1=>if b=true then mb ρ1 else .ok (.d (.bl false)) ρ1
@[simp] theorem qpi {ma mb:EM}:qhW ma mb ρ=bindR (bindR (ma ρ) kBl) (qjF mb):=(rfl)
@[simp] theorem qot {mb:EM}:qjF mb true ρ=mb ρ:=(rfl)
def qjv:Bool→Env→Res X:=fun b ρ1=>.ok (.d (.bl (!b))) ρ1
@[simp] theorem qpb {ma:EM}:qkE ma ρ=bindR (bindR (ma ρ) kBl) qjv:=(rfl)
@[simp] theorem ql2 {b:Bool}:qjv b ρ=.ok (.d (.bl (!b))) ρ:=(rfl)
@[simp] theorem qpd {T:String} {ma:EM}:qdx T ma ρ=bindR (ma ρ) (kUn (qfh T)):=(rfl)
@[simp] theorem qmS:Qw ρ=.ok .nx ρ:=(rfl)
@[simp] theorem qmU:qlk ρ=.ok .bk ρ:=(rfl)
def sqE (r:Res Fl) (n:SM):Res Fl:=match r with
 | .ok .nx ρ1=>n ρ1
 | r=>r
@[simp] theorem qbC {m n:SM}:Ql m n ρ=sqE (m ρ) n:=by
 unfold Ql sqE;rfl
@[simp] theorem qp6 {n:SM}:sqE (.ok .nx ρ) n=n ρ:=(rfl)
@[simp] theorem qp8 {n:SM}:sqE (.ok .bk ρ) n=.ok .bk ρ:=(rfl)
@[simp] theorem qp5 {n:SM} {l:L}:sqE (.ok (.rt l) ρ) n=.ok (.rt l) ρ:=(rfl)
@[simp] theorem qp7 {n:SM}:sqE (.ex e ρ) n=.ex e ρ:=(rfl)
def kIf (m n:SM):Bool→Env→Res Fl:=fun b ρ1=>if b=true then m ρ1 else n ρ1
@[simp] theorem qqo {c:TM} {m n:SM}:sIf c m n ρ=bindR (c ρ) (kIf m n):=(rfl)
@[simp] theorem qtM {m n:SM}:kIf m n true ρ=m ρ:=(rfl)
@[simp] theorem qtN {m n:SM}:kIf m n false ρ=n ρ:=(rfl)
def qjy:X→Env→Res Fl:=fun _ ρ1=>.ok .nx ρ1
@[simp] theorem qlj {m:EM}:Kj m ρ=bindR (m ρ) qjy:=(rfl)
@[simp] theorem ql8 {x:X}:qjy x ρ=.ok .nx ρ:=(rfl)
def rtE (o0:Option (Option L)) (i:Nat) (ρ:Env):Res Fl:=match o0 with
 | some (some (.m x))=>.ok (.rt (.m x)) (ρ.set i none)
 | some (some (.d x))=>.ok (.rt (.d x)) ρ
 | _=>.bad
def qoa:X→Env→Res Fl:=fun x ρ1=>match x with
 | .d x=>.ok (.rt (.d x)) ρ1
 | .s i=>rtE ρ1[i]? i ρ1
@[simp] theorem qmR {m:EM}:J3 m ρ=bindR (m ρ) qoa:=by
 unfold J3;congr 1
@[simp] theorem qrD {x:D}:qoa (.d x) ρ=.ok (.rt (.d x)) ρ:=(rfl)
@[simp] theorem qrC {i:Nat}:qoa (.s i) ρ=rtE ρ[i]? i ρ:=(rfl)
@[simp] theorem qtf {x:D} {i:Nat}:rtE (some (some (.m x))) i ρ=.ok (.rt (.m x)) (ρ.set i none):=(rfl)
def qjs:D→Env→Res Fl:=fun x ρ1=>.ok (.rt (.m x)) ρ1
@[simp] theorem qlh {m:FM}:Iy m ρ=bindR (m ρ) qjs:=(rfl)
@[simp] theorem qlZ {x:D}:qjs x ρ=.ok (.rt (.m x)) ρ:=(rfl)
def isr:Option L→Bool
 | some (.r _)=>true
 | _=>false
@[simp] theorem qmc:isr none=false:=(rfl)
@[simp] theorem qtX {x:D}:isr (some (.d x))=false:=(rfl)
def stE (i:Nat) (l:L) (o0:Option (Option L)) (ρ:Env):Option Env:=match o0 with
 | some o=>if isr o=true then none else some (ρ.set i (some l))
 | none=>none
@[simp] theorem ju {i:Nat} {l:L}:Lq ρ i l=stE i l ρ[i]? ρ:=by
 unfold Lq stE;cases h:ρ[i]? with
 | none=>rfl
 | some o=>
  cases o with
  | none=>rfl
  | some l'=>cases l'<;>rfl
@[simp] theorem qp4 {i:Nat} {l:L} {o:Option L}:stE i l (some o) ρ=if isr o=true then none else some (ρ.set i (some l)):=(rfl)
@[simp] theorem qj0 {i:Nat} {d:D}:Qg i d ρ=stE i (.d d) ρ[i]? ρ:=ju
@[simp] theorem qmh:Mq [] ρ=some ρ:=(rfl)
def gcE (gs:GMs) (ds:List D):Option Env→Option Env
 | some ρ1=>gs ds ρ1
 | none=>none
@[simp] theorem qj1 {g:GM} {gs:GMs} {d:D} {ds:List D}:Zv g gs (d::ds) ρ=gcE gs ds (g d ρ):=by
 unfold Zv gcE;rfl
@[simp] theorem qse {gs:GMs} {ds:List D}:gcE gs ds (some ρ)=gs ds ρ:=(rfl)
@[simp] theorem qmg {n:Nat} {gs:GMs} {ds:List D}:P0 n gs (.tup ds) ρ=if ds.length=n then gs ds ρ else none:=(rfl)
def agE:Option Env→Res Fl
 | some ρ3=>.ok .nx ρ3
 | none=>.bad
def asE (gm:GM):Option (D×Env)→Res Fl
 | some (d,ρ2)=>agE (gm d ρ2)
 | none=>.bad
def qrR (gm:GM):X→Env→Res Fl:=fun x ρ1=>asE gm (fz ρ1 x)
@[simp] theorem qmW {gm:GM} {m:EM}:Xl gm m ρ=bindR (m ρ) (qrR gm):=(rfl)
@[simp] theorem qoq {gm:GM} {x:X}:qrR gm x ρ=asE gm (fz ρ x):=(rfl)
@[simp] theorem qsJ {gm:GM} {d:D}:asE gm (some (d,ρ))=agE (gm d ρ):=(rfl)
@[simp] theorem qsO:agE (some ρ)=.ok .nx ρ:=(rfl)
def qjE (i:Nat):D→Env→Res Fl:=fun x ρ1=>agE (Lq ρ1 i (.m x))
@[simp] theorem qll {i:Nat} {m:FM}:Pw i m ρ=bindR (m ρ) (qjE i):=by
 unfold Pw;congr 1
@[simp] theorem qmb {i:Nat} {x:D}:qjE i x ρ=agE (stE i (.m x) ρ[i]? ρ):=by rw[← ju];rfl
def prF (j:Nat) (e:D):Option Env→Res Fl
 | some ρ3=>agE (Lq ρ3 j (.d e))
 | none=>.bad
def prE (i j:Nat):Option (List D×Env)→Res Fl
 | some ([d,e],ρ2)=>prF j e (Lq ρ2 i (.d d))
 | _=>.bad
def qma (i:Nat) (g:D→D→Option D) (a:D):X→Env→Res Fl:=fun y ρ1=>match look ρ1 y with
 | some b=>(match g a b with
  | some d=>agE (Lq ρ1 i (.d d))
  | none=>.bad)
 | none=>.bad
def auE (i:Nat) (g:D→D→Option D) (m:EM) (o0:Option (Option L)) (ρ:Env):Res Fl:=match o0 with
 | some (some (.d a))=>bindR (m ρ) (qma i g a)
 | _=>.bad
def auF (i:Nat) (o0:Option D) (ρ:Env):Res Fl:=match o0 with
 | some d=>agE (stE i (.d d) ρ[i]? ρ)
 | none=>.bad
def auG (i:Nat) (g:D→D→Option D) (a:D) (o0:Option D) (ρ:Env):Res Fl:=match o0 with
 | some b=>auF i (g a b) ρ
 | none=>.bad
@[simp] theorem qmV {i:Nat} {g:D→D→Option D} {m:EM}:qeY i g m ρ=auE i g m ρ[i]? ρ:=(rfl)
@[simp] theorem qsH {i:Nat} {g:D→D→Option D} {m:EM} {a:D}:auE i g m (some (some (.d a))) ρ=bindR (m ρ) (qma i g a):=(rfl)
@[simp] theorem qop {i:Nat} {g:D→D→Option D} {a:D} {y:X}:qma i g a y ρ=auG i g a (look ρ y) ρ:=by
 unfold qma auG auF;simp only[ju]
@[simp] theorem qsF {i:Nat} {g:D→D→Option D} {a b:D}:auG i g a (some b) ρ=auF i (g a b) ρ:=(rfl)
@[simp] theorem qsG {i:Nat} {d:D}:auF i (some d) ρ=agE (stE i (.d d) ρ[i]? ρ):=(rfl)
def owE:Option (Option L)→Option (L×List D)
 | some (some (.m (.lst ds)))=>some (.m (.lst ds),ds)
 | some (some (.r (.lst ds)))=>some (.r (.lst ds),ds)
 | some (some (.p (.lst ds)))=>some (.p (.lst ds),ds)
 | _=>none
@[simp] theorem qgn {i:Nat}:qaQ ρ i=owE ρ[i]?:=(rfl)
@[simp] theorem qtq {ds:List D}:owE (some (some (.m (.lst ds))))=some (.m (.lst ds),ds):=(rfl)
@[simp] theorem qtp {ds:List D}:owE (some (some (.r (.lst ds))))=some (.r (.lst ds),ds):=(rfl)
@[simp] theorem qtk {a b:D}:(L.m a).put b=.m b:=(rfl)
@[simp] theorem qtj {a b:D}:(L.r a).put b=.r b:=(rfl)
def apF (i:Nat) (d:D) (o0:Option (L×List D)) (ρ:Env):Res X:=match o0 with
 | some (l,ds)=>if ds.length<mx then .ok (.d .non) (ρ.set i (some (l.put (.lst (ds++[d]))))) else .bad
 | none=>.bad
def apE (i:Nat):Option (D×Env)→Res X
 | some (d,ρ2)=>apF i d (qaQ ρ2 i) ρ2
 | none=>.bad
def qrS (i:Nat):X→Env→Res X:=fun x ρ1=>apE i (fz ρ1 x)
@[simp] theorem qph {i:Nat} {m:EM}:D2 i m ρ=if (owE ρ[i]?).isSome=true then bindR (m ρ) (qrS i) else .bad:=(rfl)
@[simp] theorem qor {i:Nat} {x:X}:qrS i x ρ=apE i (fz ρ x):=(rfl)
@[simp] theorem qsM {i:Nat} {d:D}:apE i (some (d,ρ))=apF i d (owE ρ[i]?) ρ:=(rfl)
@[simp] theorem qsL {i:Nat} {d:D} {l:L} {ds:List D}:apF i d (some (l,ds)) ρ=if ds.length<mx then .ok (.d .non) (ρ.set i (some (l.put (.lst (ds++[d]))))) else .bad:=(rfl)
def poF (i:Nat) (l:L) (ds:List D) (o0:Option D) (ρ:Env):Res X:=match o0 with
 | some d=>.ok (.d d) (ρ.set i (some (l.put (.lst ds.dropLast))))
 | none=>.bad
def poE (i:Nat) (o0:Option (L×List D)) (ρ:Env):Res X:=match o0 with
 | some (l,ds)=>poF i l ds ds.getLast? ρ
 | none=>.bad
@[simp] theorem qo9 {i:Nat}:qc2 i ρ=poE i (owE ρ[i]?) ρ:=by
 unfold qc2 poE;rw[qgn];cases owE ρ[i]? with
 | none=>rfl
 | some q=>
  obtain⟨l,ds⟩:=q;unfold poF;cases ds.getLast?<;>rfl
@[simp] theorem qqF {i:Nat} {l:L} {ds:List D}:poE i (some (l,ds)) ρ=poF i l ds ds.getLast? ρ:=(rfl)
@[simp] theorem qqE {i:Nat} {l:L} {ds:List D} {d:D}:poF i l ds (some d) ρ=.ok (.d d) (ρ.set i (some (l.put (.lst ds.dropLast)))):=(rfl)
def paG (i k:Nat) (l:L) (ds:List D) (o0:Option D) (ρ:Env):Res X:=match o0 with
 | some d=>.ok (.d d) (ρ.set i (some (l.put (.lst (ds.eraseIdx k)))))
 | none=>.bad
def paF (i:Nat) (l:L) (ds:List D) (o0:Option Nat) (ρ:Env):Res X:=match o0 with
 | some k=>paG i k l ds ds[k]? ρ
 | none=>.bad
def paE (i:Nat) (o0:X) (o1:Option (L×List D)) (ρ:Env):Res X:=match o0,o1 with
 | .d (.int j),some (l,ds)=>if -(2 ^ 63)≤j∧j<2 ^ 63 then paF i l ds (seqIndex? j ds.length) ρ else .bad
 | _,_=>.bad
def slG (i:Nat) (d:D) (l:L) (ds:List D) (o0:Option Nat) (ρ:Env):Res Fl:=match o0 with
 | some k=>.ok .nx (ρ.set i (some (l.put (.lst (ds.set k d)))))
 | none=>.bad
def qmO (i:Nat) (d:D) (o0:X) (o1:Option (L×List D)) (ρ:Env):Res Fl:=match o0,o1 with
 | .d (.int j),some (l,ds)=>slG i d l ds (ixN ds.length j) ρ
 | _,_=>.bad
def qcn (i:Nat) (d:D):X→Env→Res Fl:=fun y ρ3=>qmO i d y (qaQ ρ3 i) ρ3
def stL (i:Nat) (mi:EM):Option (D×Env)→Res Fl
 | some (d,ρ2)=>if (owE ρ2[i]?).isSome=true then bindR (mi ρ2) (qcn i d) else .bad
 | none=>.bad
def qe6 (i:Nat) (mi:EM):X→Env→Res Fl:=fun x ρ1=>stL i mi (fz ρ1 x)
@[simp] theorem qle {i:Nat} {mi mv:EM}:Iw i mi mv ρ=bindR (mv ρ) (qe6 i mi):=(rfl)
@[simp] theorem qjp {i:Nat} {mi:EM} {x:X}:qe6 i mi x ρ=stL i mi (fz ρ x):=(rfl)
@[simp] theorem qp3 {i:Nat} {mi:EM} {d:D}:stL i mi (some (d,ρ))=if (owE ρ[i]?).isSome=true then bindR (mi ρ) (qcn i d) else .bad:=(rfl)
@[simp] theorem qjo {i:Nat} {d:D} {y:X}:qcn i d y ρ=qmO i d y (owE ρ[i]?) ρ:=(rfl)
@[simp] theorem qmN {i:Nat} {d:D} {j:Int} {l:L} {ds:List D}:qmO i d (.d (.int j)) (some (l,ds)) ρ=slG i d l ds (ixN ds.length j) ρ:=(rfl)
@[simp] theorem qqb {i k:Nat} {d:D} {l:L} {ds:List D}:slG i d l ds (some k) ρ=.ok .nx (ρ.set i (some (l.put (.lst (ds.set k d))))):=(rfl)
def sqI:Option (D×Env)→Res (List D)
 | some (.lst ds,ρ2)=>.ok ds ρ2
 | some (.ro ds,ρ2)=>.ok ds ρ2
 | some (.tup ds,ρ2)=>.ok ds ρ2
 | _=>.bad
def qrz:X→Env→Res (List D):=fun x ρ1=>sqI (fz ρ1 x)
@[simp] theorem qnF {m:EM}:Ge m ρ=bindR (m ρ) qrz:=(rfl)
@[simp] theorem qn2 {x:X}:qrz x ρ=sqI (fz ρ x):=(rfl)
@[simp] theorem qs6 {ds:List D}:sqI (some (.lst ds,ρ))=.ok ds ρ:=(rfl)
@[simp] theorem qs5 {ds:List D}:sqI (some (.tup ds,ρ))=.ok ds ρ:=(rfl)
def kR1:List X→Env→Res (List D):=fun xs ρ1=>match xs with
 | [.d (.int j)]=>if qbI j then .ok (Z4 0 j.toNat) ρ1 else .bad
 | _=>.bad
@[simp] theorem qlK {m:AM}:Dx m ρ=bindR (m ρ) kR1:=(rfl)
@[simp] theorem qrF {j:Int}:kR1 [.d (.int j)] ρ=if qbI j then .ok (Z4 0 j.toNat) ρ else .bad:=(rfl)
def kR2:List X→Env→Res (List D):=fun xs ρ1=>match xs with
 | [.d (.int i),.d (.int j)]=>if qbI i∧qbI j then .ok (Z4 i (j-i).toNat) ρ1 else .bad
 | _=>.bad
@[simp] theorem qlJ {m:AM}:qaY m ρ=bindR (m ρ) kR2:=(rfl)
@[simp] theorem qrE {i j:Int}:kR2 [.d (.int i),.d (.int j)] ρ=if qbI i∧qbI j then .ok (Z4 i (j-i).toNat) ρ else .bad:=(rfl)
def kFor (gm:GM) (b:SM):List D→Env→Res Fl:=fun ds ρ1=>Zy gm b ds ρ1
@[simp] theorem qmT {im:IM} {gm:GM} {b:SM}:N7 im gm b ρ=bindR (im ρ) (kFor gm b):=(rfl)
@[simp] theorem qom {gm:GM} {b:SM} {ds:List D}:kFor gm b ds ρ=Zy gm b ds ρ:=(rfl)
@[simp] theorem qqp {js:List Nat} {m:SM}:sFg js m ρ=fgE js (m ρ):=(rfl)
@[simp] theorem qsk {js:List Nat} {l:L}:fgE js (.ok (.rt l) ρ)=.ok (.rt l) ρ:=(rfl)
@[simp] theorem qsl {js:List Nat}:fgE js (.ok .nx ρ)=if Mc ρ js=true then .ok .nx (Vb ρ js) else .bad:=(rfl)
@[simp] theorem qsm {js:List Nat}:fgE js (.ok .bk ρ)=if Mc ρ js=true then .ok .bk (Vb ρ js) else .bad:=(rfl)
@[simp] theorem qhF:Mc ρ []=true:=(rfl)
@[simp] theorem qfH {j:Nat} {js:List Nat}:Mc ρ (j::js)=(noR ρ j && Mc ρ js):=(rfl)
def nrE:Option (Option L)→Bool
 | some (some (.r _))=>false
 | _=>true
@[simp] theorem qqR {j:Nat}:noR ρ j=nrE ρ[j]?:=(rfl)
@[simp] theorem qtv {x:D}:nrE (some (some (.d x)))=true:=(rfl)
@[simp] theorem qtu:nrE (some none)=true:=(rfl)
@[simp] theorem qh5:Vb ρ []=ρ:=(rfl)
@[simp] theorem qhG {j:Nat} {js:List Nat}:Vb ρ (j::js)=(Vb ρ js).set j none:=(rfl)
def rsE (ρ':Env) (j:Nat):Option (Option L)→Env
 | some o=>ρ'.set j o
 | none=>ρ'
@[simp] theorem qix:J4 ρ1 ρ []=ρ:=(rfl)
@[simp] theorem qhL {j:Nat} {js:List Nat}:J4 ρ1 ρ (j::js)=rsE (J4 ρ1 ρ js) j ρ1[j]?:=by
 rw[J4];cases ρ1[j]?<;>rfl
@[simp] theorem qqs {j:Nat} {o:Option L}:rsE ρ j (some o)=ρ.set j o:=(rfl)
def clE:Option (Option L)→Bool
 | some none=>true
 | some (some (.d _))=>true
 | _=>false
@[simp] theorem qkS:clean ρ []=true:=(rfl)
@[simp] theorem qhZ {j:Nat} {js:List Nat}:clean ρ (j::js)=(clE ρ[j]? && clean ρ js):=(rfl)
@[simp] theorem qui:clE (some none)=true:=(rfl)
def maE:Option (Option L)→Option L
 | some (some (.m x))=>some (.r x)
 | some (some (.r x))=>some (.r x)
 | some (some (.d x))=>some (.d x)
 | _=>none
@[simp] theorem qny {x:D}:mkArg ρ (.d x)=some (.d x):=(rfl)
@[simp] theorem qnx {i:Nat}:mkArg ρ (.s i)=maE ρ[i]?:=(rfl)
@[simp] theorem qtB {x:D}:maE (some (some (.m x)))=some (.r x):=(rfl)
@[simp] theorem qtA {x:D}:maE (some (some (.r x)))=some (.r x):=(rfl)
def qrf:Option L→Option (List L)→Option (List L)
 | some a,some as=>some (a::as)
 | _,_=>none
@[simp] theorem qhR:Jx ρ []=some []:=(rfl)
@[simp] theorem qgE {x:X} {xs:List X}:Jx ρ (x::xs)=qrf (mkArg ρ x) (Jx ρ xs):=by
 rw[Jx];cases mkArg ρ x<;>cases Jx ρ xs<;>rfl
@[simp] theorem qnD {a:L} {as:List L}:qrf (some a) (some as)=some (a::as):=(rfl)
@[simp] theorem qis:slots []=[]:=(rfl)
@[simp] theorem qmL {x:D} {xs:List X}:slots (.d x::xs)=slots xs:=(rfl)
@[simp] theorem qmK {i:Nat} {xs:List X}:slots (.s i::xs)=i::slots xs:=(rfl)
def ptE (i:Nat) (y:D) (o0:Option (Option L)) (ρ:Env):Env:=match o0 with
 | some (some l)=>ρ.set i (some (l.put y))
 | _=>ρ
@[simp] theorem qm5 {i:Nat} {y:D}:putS ρ i y=ptE i y ρ[i]? ρ:=(rfl)
@[simp] theorem qqB {i:Nat} {y:D} {l:L}:ptE i y (some (some l)) ρ=ρ.set i (some (l.put y)):=(rfl)
@[simp] theorem qlo {as bs:List L}:Yd ρ [] as bs=ρ:=by cases as<;>rfl
@[simp] theorem qqA {x:D} {xs:List X} {a b:L} {as bs:List L}:Yd ρ (.d x::xs) (a::as) (b::bs)=Yd ρ xs as bs:=(rfl)
@[simp] theorem qqz {i:Nat} {xs:List X} {x y:D} {as bs:List L}:Yd ρ (.s i::xs) (.r x::as) (.r y::bs)=Yd (putS ρ i y) xs as bs:=(rfl)
def qjD (n:Nat) (F:List L→FRes):List X→Env→Res X:=fun xs ρ1=>clL n F xs (Jx ρ1 xs) ρ1
@[simp] theorem qeD {n:Nat} {F:List L→FRes} {ma:AM}:Q9 n F ma ρ=bindR (ma ρ) (qjD n F):=by
 unfold Q9;congr 1
@[simp] theorem ql9 {n:Nat} {F:List L→FRes} {xs:List X}:qjD n F xs ρ=clL n F xs (Jx ρ xs) ρ:=(rfl)
@[simp] theorem qsC {n:Nat} {F:List L→FRes} {xs:List X} {as:List L}:clL n F xs (some as) ρ=if xs.length=n∧(slots xs).Nodup then clR xs as (F as) ρ else .bad:=(rfl)
@[simp] theorem quh {xs:List X} {as bs:List L} {x:D}:clR xs as (.ok (.d x) bs) ρ=.ok (.d x) (Yd ρ xs as bs):=(rfl)
@[simp] theorem qug {xs:List X} {as bs:List L} {x:D}:clR xs as (.ok (.m x) bs) ρ=.ok (.d x) (Yd ρ xs as bs):=(rfl)
def qpm (xs:List X) (as:List L) (o0:FRes) (ρ:Env):Res D:=match o0 with
 | .ok (.m x) bs=>.ok x (Yd ρ xs as bs)
 | .ok _ _=>.bad
 | .ex e bs=>.ex e (Yd ρ xs as bs)
 | .bad=>.bad
def qpo (n:Nat) (F:List L→FRes) (xs:List X) (o0:Option (List L)) (ρ:Env):Res D:=match o0 with
 | none=>.bad
 | some as=>if xs.length=n∧(slots xs).Nodup then qpm xs as (F as) ρ else .bad
def qfa (n:Nat) (F:List L→FRes):List X→Env→Res D:=fun xs ρ1=>qpo n F xs (Jx ρ1 xs) ρ1
@[simp] theorem qml {n:Nat} {F:List L→FRes} {ma:AM}:x8 n F ma ρ=bindR (ma ρ) (qfa n F):=by
 unfold x8;congr 1
@[simp] theorem qjC {n:Nat} {F:List L→FRes} {xs:List X}:qfa n F xs ρ=qpo n F xs (Jx ρ xs) ρ:=(rfl)
@[simp] theorem qpn {n:Nat} {F:List L→FRes} {xs:List X} {as:List L}:qpo n F xs (some as) ρ=if xs.length=n∧(slots xs).Nodup then qpm xs as (F as) ρ else .bad:=(rfl)
@[simp] theorem qsB {xs:List X} {as bs:List L} {x:D}:qpm xs as (.ok (.m x) bs) ρ=.ok x (Yd ρ xs as bs):=(rfl)
def fnE (as:List L):Res Fl→FRes
 | .ok .nx ρ'=>.ok (.d .non) (Ux ρ' 0 as)
 | .ok (.rt l) ρ'=>.ok l (Ux ρ' 0 as)
 | .ex e ρ'=>.ex e (Ux ρ' 0 as)
 | _=>.bad
@[simp] theorem D7 {n:Nat} {body:SM} {as:List L}:Q7 n body as=fnE as (body (as.map some++List.replicate (n-as.length) none)):=(rfl)
@[simp] theorem qsi {as:List L}:fnE as (.ok .nx ρ)=.ok (.d .non) (Ux ρ 0 as):=(rfl)
@[simp] theorem qsh {as:List L} {l:L}:fnE as (.ok (.rt l) ρ)=.ok l (Ux ρ 0 as):=(rfl)
@[simp] theorem qsj {as:List L}:fnE as (.ex e ρ)=.ex e (Ux ρ 0 as):=(rfl)
@[simp] theorem qkV {i:Nat}:Ux ρ i []=[]:=(rfl)
@[simp] theorem qh0 {i:Nat} {a:L} {as:List L}:Ux ρ i (a::as)=qbh a ρ[i]?::Ux ρ (i+1) as:=(rfl)
@[simp] theorem qpw {x:D} {o:Option (Option L)}:qbh (.d x) o=.d x:=(rfl)
@[simp] theorem qpv {x:D} {l:L}:qbh (.r x) (some (some l))=l:=(rfl)
def rsR (c f:Str):Option (D×Env)→Res Fl
 | some (d,ρ2)=>.ex ⟨c,some [(f,d)]⟩ ρ2
 | none=>.bad
def qe7 (c f:Str):List X→Env→Res Fl:=fun xs ρ1=>match xs with
 | [x]=>rsR c f (fz ρ1 x)
 | _=>.bad
@[simp] theorem qiu {c f:Str} {ma:AM}:Uz c f ma ρ=bindR (ma ρ) (qe7 c f):=by
 unfold Uz;congr 1
@[simp] theorem qjt {c f:Str} {x:X}:qe7 c f [x] ρ=rsR c f (fz ρ x):=(rfl)
@[simp] theorem qqr {c f:Str} {d:D}:rsR c f (some (d,ρ))=.ex ⟨c,some [(f,d)]⟩ ρ:=(rfl)
end
section
variable {i j:Int} {a b c:D} {x y:Str} {ds es:List D} {ρ:Env}
@[simp] theorem Oc {n:Nat} (h:n≤100000):n≤mx:=Nat.le_trans h (by decide)
@[simp] theorem qtC {n:Nat} (h:n≤100000):n<mx:=Nat.lt_of_le_of_lt h (by decide)
@[simp] theorem qqt:qbI i:=(rfl)
@[simp] theorem qsS:Kk (.int i) (.int j)=some (.int (i+j)):=(rfl)
@[simp] theorem qsR:Kk (.lst ds) (.lst es)=if ds.length+es.length≤mx then some (.lst (ds++es)) else none:=(rfl)
@[simp] theorem qsQ:Kk (.tup ds) (.tup es)=if ds.length+es.length≤mx then some (.tup (ds++es)) else none:=(rfl)
@[simp] theorem qp2:Gn (.int i) (.int j)=some (.int (i-j)):=(rfl)
@[simp] theorem qq4:U2 (.int i) (.int j)=if J9 i j then some (.int (i*j)) else none:=(rfl)
@[simp] theorem qoV:Np (.int i) (.int j)=if Rw j then some (.int (i.fdiv j)) else none:=(rfl)
@[simp] theorem qq8:qbk (.int i) (.int j)=if j≠0 then some (.int (i.fmod j)) else none:=(rfl)
@[simp] theorem qqD:qlp (.int i) (.int j)=if 0≤j∧j≤1000000∧i.natAbs<2 ^ 64 then some (.int (i ^ j.toNat)) else none:=(rfl)
@[simp] theorem qqS:Ro (.int i)=some (.int (-i)):=(rfl)
@[simp] theorem qtD:ltD (.int i) (.int j)=some (.bl (decide (i<j))):=(rfl)
@[simp] theorem qtG:leD (.int i) (.int j)=some (.bl (decide (i≤j))):=(rfl)
@[simp] theorem qt1:gtD (.int i) (.int j)=some (.bl (decide (j<i))):=(rfl)
@[simp] theorem qt3:geD (.int i) (.int j)=some (.bl (decide (j≤i))):=(rfl)
@[simp] theorem qtY:isD a .non=some (.bl (isNone a)):=by cases a<;>rfl
@[simp] theorem qr1:qhT a .non=some (.bl (!isNone a)):=by cases a<;>rfl
@[simp] theorem qme:isNone .non=true:=(rfl)
@[simp] theorem qmf:isNone (.int i)=false:=(rfl)
@[simp] theorem qmd:isNone (.tup ds)=false:=(rfl)
@[simp] theorem qst:eqD a b=(eqB a b).map .bl:=(rfl)
@[simp] theorem qqT:neD a b=(eqB a b).map fun c=>.bl (!c):=(rfl)
@[simp] theorem qt5:eqB (.int i) (.int j)=some (decide (i=j)):=(rfl)
@[simp] theorem qqk:qaE (.lst ds)=some ds:=(rfl)
@[simp] theorem qqj:qaE (.tup ds)=some ds:=(rfl)
@[simp] theorem qtU:ixD (.lst ds) (.int i)=L2.atI ds i:=(rfl)
@[simp] theorem qtT:ixD (.ro ds) (.int i)=L2.atI ds i:=(rfl)
@[simp] theorem qtS:ixD (.tup ds) (.int i)=L2.atI ds i:=(rfl)
theorem qdm:L2.atI (a::ds) 0=some a:=L2.atI_nat (xs:=a::ds) (j:=0) rfl
theorem qdl {n:Nat} {v:D} (h:ds[n]?=some v):L2.atI ds (n:Int)=some v:=L2.atI_nat h
@[simp] theorem qmt:L2.atI (a::ds) 0=some a:=qdm
@[simp] theorem qms:L2.atI (a::b::ds) 1=some b:=L2.atI_nat (xs:=a::b::ds) (j:=1) rfl
@[simp] theorem qmr:L2.atI (a::b::c::ds) 2=some c:=L2.atI_nat (xs:=a::b::c::ds) (j:=2) rfl
@[simp] theorem qmq {d:D}:L2.atI (a::b::c::d::ds) 3=some d:=L2.atI_nat (xs:=a::b::c::d::ds) (j:=3) rfl
@[simp] theorem Mw:L2.atI (ds++[a]) (-1)=some a:=L2.atI_last ds a
@[simp] theorem qs9 {lo hi:Option Int}:slD (.lst ds) lo hi=some (.lst (cutD ds lo hi)):=(rfl)
@[simp] theorem qs8 {lo hi:Option Int}:slD (.tup ds) lo hi=some (.tup (cutD ds lo hi)):=(rfl)
@[simp] theorem qrq:Oa [.lst ds]=some (.int ds.length):=(rfl)
@[simp] theorem qrp:Oa [.ro ds]=some (.int ds.length):=(rfl)
@[simp] theorem qro:Oa [.tup ds]=some (.int ds.length):=(rfl)
@[simp] theorem qsU:qmu [.int i]=some (.int i.natAbs):=by
 show some (D.int (if i<0 then -i else i))=_;congr 2;split<;>omega
@[simp] theorem qr6:intD [.int i]=some (.int i):=(rfl)
@[simp] theorem qnC:qq [.int i,.int j]=some (.int (max i j)):=by
 show some (D.int (if j > i then j else i))=_;congr 2;split<;>omega
@[simp] theorem qnz:An [.int i,.int j]=some (.int (min i j)):=by
 show some (D.int (if j<i then j else i))=_;congr 2;split<;>omega
@[simp] theorem qoD {ns:List Int}:T5 (ns.map .int)=some ns:=Fu ns
def foE (f:List Int→Option Int):Option (List Int)→Option D
 | some ns=>(f ns).map .int
 | none=>none
@[simp] theorem qmj {f:List Int→Option Int}:zt f [.lst ds]=foE f (T5 ds):=(rfl)
@[simp] theorem qsg {f:List Int→Option Int} {ns:List Int}:foE f (some ns)=(f ns).map .int:=(rfl)
@[simp] theorem qlc:Bi [.lst ds]=some (.tup ds):=(rfl)
@[simp] theorem qoC {T:String}:qfh T a=(qhJ a).map fun t=>.bl (jm t T):=(rfl)
@[simp] theorem qpQ:qhJ (.int i)=some "int":=(rfl)
@[simp] theorem qpP:qhJ (.lst ds)=some "list":=(rfl)
@[simp] theorem qpO:qhJ (.tup ds)=some "tuple":=(rfl)
@[simp] theorem qr4:jm "int" "int"=true:=by decide
@[simp] theorem qr5:jm "int" "bool"=false:=by decide
@[simp] theorem qr2:jm "tuple" "tuple"=true:=by decide
@[simp] theorem qr3:jm "list" "list"=true:=by decide
@[simp] theorem qpS {p:Bool}:qdu (.bl p)=some p:=(rfl)
end
theorem qbJ {lo:Int} {n i:Nat} {d:D} (h:(Z4 lo n)[i]?=some d):i<n∧d=.int (lo+(i:Int)):=by
 unfold Z4 at h;rw[List.getElem?_map]at h;by_cases hi:i<n
 ·rw[List.getElem?_range hi]at h;exact⟨hi,(Option.some.inj h).symm⟩
 ·rw[List.getElem?_eq_none (by simpa using hi)]at h;cases h
@[simp] theorem B0 {lo:Int} {n:Nat}:(Z4 lo n).length=n:=by simp[Z4]
@[simp] theorem Fz {gm:GM} {b:SM} {ρ:Env}:Zy gm b [] ρ=.ok .nx ρ:=(rfl)
@[simp] theorem qlm {lo:Int}:Z4 lo 0=[]:=(rfl)
theorem qcI {gm:GM} {b:SM} (P:Nat→Env→Prop):∀{ds:List D} {ρ:Env},P 0 ρ→(∀i d ρ,ds[i]?=some d→P i ρ→∃ρ1 ρ2,gm d ρ=some ρ1∧b ρ1=.ok .nx ρ2∧P (i+1) ρ2)→∃ρ',Zy gm b ds ρ=.ok .nx ρ'∧P ds.length ρ':=by
 intro ds;induction ds generalizing P with
 | nil=>exact fun {ρ} h _=>⟨ρ,rfl,h⟩
 | cons d ds ih=>
  intro ρ h st;obtain⟨ρ1,ρ2,e1,e2,h2⟩:=st 0 d ρ rfl h;obtain⟨ρ',e3,h3⟩:=ih (fun i ρ=>P (i+1) ρ) h2 (fun i d ρ hd hp=>st (i+1) d ρ hd hp);refine⟨ρ',?_,h3⟩;unfold Zy;simp only[e1,e2];exact e3
theorem qfl {S:Type} {gm:GM} {b:SM} {ds:List D} (f:S→Env) (P:Nat→S→Prop) {s:S} (h0:P 0 s)
  (st:∀i d s,ds[i]?=some d→P i s→∃ρ1 s',gm d (f s)=some ρ1∧b ρ1=.ok .nx (f s')∧P (i+1) s'):∃s',Zy gm b ds (f s)=.ok .nx (f s')∧P ds.length s':=by
 obtain⟨ρ',e,s',rfl,h⟩:=qcI (gm:=gm) (b:=b) (ds:=ds) (ρ:=f s) (fun i ρ=>∃s,ρ=f s∧P i s) ⟨s,rfl,h0⟩ (by
  rintro i d ρ hd ⟨s,rfl,hp⟩;obtain⟨ρ1,s',e1,e2,h⟩:=st i d s hd hp;exact⟨ρ1,_,e1,e2,s',rfl,h⟩)
 exact⟨s',e,h⟩
theorem qfm {S:Type} {gm:GM} {b:SM} {lo:Int} {n:Nat} (f:S→Env) (P:Nat→S→Prop) {s:S} (h0:P 0 s)
  (st:∀i s,i<n→P i s→∃ρ1 s',gm (.int (lo+(i:Int))) (f s)=some ρ1∧b ρ1=.ok .nx (f s')∧P (i+1) s'):∃s',Zy gm b (Z4 lo n) (f s)=.ok .nx (f s')∧P n s':=by
 have:=qfl (gm:=gm) (b:=b) (ds:=Z4 lo n) f P h0 fun i d s hd hp=>by
  obtain⟨hi,rfl⟩:=qbJ hd;exact st i s hi hp
 rw[B0]at this;exact this
theorem Fy {S:Type} {gm:GM} {b:SM} {n:Nat} (f:S→Env) (P:Nat→S→Prop) {s:S} (h0:P 0 s)
  (st:∀i s,i<n→P i s→∃ρ1 s',gm (.int (i:Int)) (f s)=some ρ1∧b ρ1=.ok .nx (f s')∧P (i+1) s'):∃s',Zy gm b (Z4 0 n) (f s)=.ok .nx (f s')∧P n s':=
 qfm f P h0 fun i s hi hp=>by
  rw[Int.zero_add];exact st i s hi hp
theorem qke {α:Type} {im:IM} {js:List Nat} {gm:GM} {me:EM} {ρ ρ1:Env} {xs:List α} (c e:α→D) (hi:im ρ=.ok (xs.map c) ρ1) (hc:clean ρ1 js=true) (hl:xs.length≤mx)
  (h:∀x∈xs,∃ρ2 z ρ3 ρ4,gm (c x) (Vb ρ1 js)=some ρ2∧me ρ2=.ok z ρ3∧fz ρ3 z=some (e x,ρ4)∧J4 ρ1 ρ4 js=ρ1):fLc im js gm qt me ρ=.ok (.lst (xs.map e)) ρ1:=by
 unfold fLc;simp only[hi,bindR,hc,if_true];suffices ∀(ys:List α) (acc:List D),acc.length+ys.length≤mx→(∀x∈ys,x∈xs)→qbl js gm qt me ρ1 (ys.map c) acc ρ1=.ok (acc++ys.map e) ρ1 by
  rw[this xs [] (by simpa using hl) fun _ h=>h];simp
 intro ys;induction ys with
 | nil=>intro acc _ _;simp[qbl]
 | cons y ys ih=>
  intro acc hl hm;obtain⟨ρ2,z,ρ3,ρ4,e1,e2,e3,e4⟩:=h y (hm y List.mem_cons_self);have hl':acc.length<mx:=by simp at hl;omega
  rw[List.map_cons];unfold qbl;simp only[e1,qt,bindR,e2,e3,e4,hl',if_true];rw[ih (acc++[e y]) (by simp at hl ⊢;omega) fun x hx=>hm x (List.mem_cons_of_mem _ hx)];simp
theorem qkf {α:Type} {im:IM} {js:List Nat} {gm:GM} {mt:TM} {me:EM} {ρ ρ1:Env} {xs:List α} (c e:α→D) (p:α→Bool) (hi:im ρ=.ok (xs.map c) ρ1) (hc:clean ρ1 js=true) (hl:xs.length≤mx)
  (h:∀x∈xs,∃ρ2 ρt,gm (c x) (Vb ρ1 js)=some ρ2∧mt ρ2=.ok (p x) ρt∧(p x=false→J4 ρ1 ρt js=ρ1)∧(p x=true→∃z ρ3 ρ4,me ρt=.ok z ρ3∧fz ρ3 z=some (e x,ρ4)∧J4 ρ1 ρ4 js=ρ1)) :
  fLc im js gm mt me ρ=.ok (.lst ((xs.filter p).map e)) ρ1:=by
 unfold fLc;simp only[hi,bindR,hc,if_true];suffices ∀(ys:List α) (acc:List D),acc.length+ys.length≤mx→(∀x∈ys,x∈xs)→qbl js gm mt me ρ1 (ys.map c) acc ρ1=.ok (acc++(ys.filter p).map e) ρ1 by
  rw[this xs [] (by simpa using hl) fun _ h=>h];simp
 intro ys;induction ys with
 | nil=>intro acc _ _;simp[qbl]
 | cons y ys ih=>
  intro acc hl hm;obtain⟨ρ2,ρt,e1,e2,e3,e4⟩:=h y (hm y List.mem_cons_self);have hl':acc.length<mx:=by simp at hl;omega
  rw[List.map_cons];unfold qbl;cases hp:p y with
  | false=>
   simp only[e1,bindR,e2,hp,Bool.false_eq_true,if_false,e3 hp];rw[ih acc (by simp at hl ⊢;omega) fun x hx=>hm x (List.mem_cons_of_mem _ hx),List.filter_cons_of_neg (by simp[hp])]
  | true=>
   obtain⟨z,ρ3,ρ4,q1,q2,q3⟩:=e4 hp;simp only[e1,bindR,e2,hp,if_true,q1,q2,q3,hl'];rw[ih (acc++[e y]) (by simp at hl ⊢;omega) fun x hx=>hm x (List.mem_cons_of_mem _ hx),List.filter_cons_of_pos hp];simp
def bdF (b:SM):Option Env→Res Fl
 | some ρ1=>b ρ1
 | none=>.bad
def bdE (gm:GM) (b:SM) (d:D) (ρ:Env):Res Fl:=bdF b (gm d ρ)
@[simp] theorem qsE {gm:GM} {b:SM} {d:D} {ρ:Env}:bdE gm b d ρ=bdF b (gm d ρ):=(rfl)
@[simp] theorem qsD {b:SM} {ρ:Env}:bdF b (some ρ)=b ρ:=(rfl)
theorem jc {gm:GM} {b:SM} {d:D} {ρ:Env} {r:Res Fl} (h:bdE gm b d ρ=r) (hr:r≠.bad):∃ρ1,gm d ρ=some ρ1∧b ρ1=r:=by
 unfold bdE at h;cases e:gm d ρ with
 | none=>rw[e]at h;exact absurd h.symm hr
 | some ρ1=>rw[e]at h;exact⟨ρ1,rfl,h⟩
theorem Qs {gm:GM} {b:SM} {d:D} {ds:List D} {ρ ρ2:Env} (h:bdE gm b d ρ=.ok .nx ρ2):Zy gm b (d::ds) ρ=Zy gm b ds ρ2:=by
 obtain⟨ρ1,e1,e2⟩:=jc h (fun z=>nomatch z);rw[Zy];simp only[e1,e2]
theorem T9 {gm:GM} {b:SM} {d:D} {ds:List D} {ρ ρ2:Env} (h:bdE gm b d ρ=.ok .bk ρ2):Zy gm b (d::ds) ρ=.ok .nx ρ2:=by
 obtain⟨ρ1,e1,e2⟩:=jc h (fun z=>nomatch z);rw[Zy];simp only[e1,e2]
theorem Ea {gm:GM} {b:SM} {d:D} {ds:List D} {ρ ρ2:Env} {l:L} (h:bdE gm b d ρ=.ok (.rt l) ρ2):Zy gm b (d::ds) ρ=.ok (.rt l) ρ2:=by
 obtain⟨ρ1,e1,e2⟩:=jc h (fun z=>nomatch z);rw[Zy];simp only[e1,e2]
theorem qt4 {S:Type} {gm:GM} {b:SM} {ds:List D} (f:S→Env) (P:Nat→S→Prop) {s:S} (h0:P 0 s)
  (st:∀i d s,ds[i]?=some d→P i s→∃s',bdE gm b d (f s)=.ok .nx (f s')∧P (i+1) s'):∃s',Zy gm b ds (f s)=.ok .nx (f s')∧P ds.length s':=
 qfl f P h0 fun i d s hd hp=>by
  obtain⟨s',e,hp'⟩:=st i d s hd hp;obtain⟨ρ1,e1,e2⟩:=jc e (fun z=>nomatch z);exact⟨ρ1,s',e1,e2,hp'⟩
theorem qoU {S:Type} {gm:GM} {b:SM} {lo:Int} {n:Nat} (f:S→Env) (P:Nat→S→Prop) {s:S} (h0:P 0 s)
  (st:∀i s,i<n→P i s→∃s',bdE gm b (.int (lo+(i:Int))) (f s)=.ok .nx (f s')∧P (i+1) s'):∃s',Zy gm b (Z4 lo n) (f s)=.ok .nx (f s')∧P n s':=
 qfm f P h0 fun i s hi hp=>by
  obtain⟨s',e,hp'⟩:=st i s hi hp;obtain⟨ρ1,e1,e2⟩:=jc e (fun z=>nomatch z);exact⟨ρ1,s',e1,e2,hp'⟩
theorem qj7 {S:Type} {gm:GM} {b:SM} {n:Nat} (f:S→Env) (P:Nat→S→Prop) {s:S} (h0:P 0 s)
  (st:∀i s,i<n→P i s→∃s',bdE gm b (.int (i:Int)) (f s)=.ok .nx (f s')∧P (i+1) s'):∃s',Zy gm b (Z4 0 n) (f s)=.ok .nx (f s')∧P n s':=
 qoU f P h0 fun i s hi hp=>by
  rw[Int.zero_add];exact st i s hi hp
def qlO (ρ1:Env) (js:List Nat):Option (D×Env)→Option (D×Env)
 | some (y,ρ4)=>some (y,J4 ρ1 ρ4 js)
 | none=>none
def qlP (ρ1:Env) (js:List Nat):Res X→Option (D×Env)
 | .ok z ρ3=>qlO ρ1 js (fz ρ3 z)
 | _=>none
def qnT (me:EM) (ρ1:Env) (js:List Nat):Option Env→Option (D×Env)
 | some ρ2=>qlP ρ1 js (me ρ2)
 | none=>none
def lcE (gm:GM) (me:EM) (js:List Nat) (ρ1:Env) (d:D):Option (D×Env):=qnT me ρ1 js (gm d (Vb ρ1 js))
section
variable {gm:GM} {me:EM} {mt:TM} {js:List Nat} {ρ ρ1 ρ2 ρ3 ρ4:Env} {d y:D} {z:X} {b:Bool}
@[simp] theorem qrt:lcE gm me js ρ1 d=qnT me ρ1 js (gm d (Vb ρ1 js)):=(rfl)
@[simp] theorem qnS:qnT me ρ1 js (some ρ2)=qlP ρ1 js (me ρ2):=(rfl)
@[simp] theorem qnR:qlP ρ1 js (.ok z ρ3)=qlO ρ1 js (fz ρ3 z):=(rfl)
@[simp] theorem qnQ:qlO ρ1 js (some (y,ρ4))=some (y,J4 ρ1 ρ4 js):=(rfl)
theorem qeb {p:D×Env} (h:lcE gm me js ρ1 d=some p):∃ρ2 z ρ3 ρ4,gm d (Vb ρ1 js)=some ρ2∧me ρ2=.ok z ρ3∧fz ρ3 z=some (p.1,ρ4)∧J4 ρ1 ρ4 js=p.2:=by
 unfold lcE at h;cases e1:gm d (Vb ρ1 js) with
 | none=>rw[e1]at h;cases h
 | some ρ2=>
  rw[e1]at h;have h:qlP ρ1 js (me ρ2)=some p:=h;cases e2:me ρ2 with
  | bad=>rw[e2]at h;cases h
  | ex _ _=>rw[e2]at h;cases h
  | ok z ρ3=>
   rw[e2]at h;have h:qlO ρ1 js (fz ρ3 z)=some p:=h;cases e3:fz ρ3 z with
   | none=>rw[e3]at h;cases h
   | some q=>
    rw[e3]at h;obtain⟨y,ρ4⟩:=q;have h:some (y,J4 ρ1 ρ4 js)=some p:=h;cases h;exact⟨ρ2,z,ρ3,ρ4,rfl,e2,e3,rfl⟩
theorem qci {α:Type} {im:IM} {xs:List α} (c e:α→D) (hi:im ρ=.ok (xs.map c) ρ1) (hc:clean ρ1 js=true) (hl:xs.length≤mx) (h:∀x∈xs,lcE gm me js ρ1 (c x)=some (e x,ρ1)):fLc im js gm qt me ρ=.ok (.lst (xs.map e)) ρ1:=
 qke c e hi hc hl fun x hx=>by
  obtain⟨ρ2,z,ρ3,ρ4,e1,e2,e3,e4⟩:=qeb (h x hx);exact⟨ρ2,z,ρ3,ρ4,e1,e2,e3,e4⟩
def qlM (ρ1:Env) (js:List Nat):Option (D×Env)→Option (Option D×Env)
 | some (y,ρ4)=>some (some y,J4 ρ1 ρ4 js)
 | none=>none
def qlN (ρ1:Env) (js:List Nat):Res X→Option (Option D×Env)
 | .ok z ρ3=>qlM ρ1 js (fz ρ3 z)
 | _=>none
def qjj (me:EM) (ρ1:Env) (js:List Nat):Res Bool→Option (Option D×Env)
 | .ok true ρt=>qlN ρ1 js (me ρt)
 | .ok false ρt=>some (none,J4 ρ1 ρt js)
 | _=>none
def qnP (mt:TM) (me:EM) (ρ1:Env) (js:List Nat):Option Env→Option (Option D×Env)
 | some ρ2=>qjj me ρ1 js (mt ρ2)
 | none=>none
def lcI (gm:GM) (mt:TM) (me:EM) (js:List Nat) (ρ1:Env) (d:D):Option (Option D×Env):=qnP mt me ρ1 js (gm d (Vb ρ1 js))
@[simp] theorem qrs:lcI gm mt me js ρ1 d=qnP mt me ρ1 js (gm d (Vb ρ1 js)):=(rfl)
@[simp] theorem qnO:qnP mt me ρ1 js (some ρ2)=qjj me ρ1 js (mt ρ2):=(rfl)
@[simp] theorem qrm:qjj me ρ1 js (.ok true ρ2)=qlN ρ1 js (me ρ2):=(rfl)
@[simp] theorem qrn:qjj me ρ1 js (.ok false ρ2)=some (none,J4 ρ1 ρ2 js):=(rfl)
@[simp] theorem qnN:qlN ρ1 js (.ok z ρ3)=qlM ρ1 js (fz ρ3 z):=(rfl)
@[simp] theorem qnM:qlM ρ1 js (some (y,ρ4))=some (some y,J4 ρ1 ρ4 js):=(rfl)
theorem vq {p:Option D×Env} (h:lcI gm mt me js ρ1 d=some p):∃ρ2 ρt,gm d (Vb ρ1 js)=some ρ2∧((mt ρ2=.ok false ρt∧p=(none,J4 ρ1 ρt js))∨(mt ρ2=.ok true ρt∧∃z ρ3 y ρ4,me ρt=.ok z ρ3∧fz ρ3 z=some (y,ρ4)∧p=(some y,J4 ρ1 ρ4 js))):=by
 unfold lcI at h;cases e1:gm d (Vb ρ1 js) with
 | none=>rw[e1]at h;cases h
 | some ρ2=>
  rw[e1]at h;have h:qjj me ρ1 js (mt ρ2)=some p:=h;cases e2:mt ρ2 with
  | bad=>rw[e2]at h;cases h
  | ex _ _=>rw[e2]at h;cases h
  | ok t ρt=>
   rw[e2]at h;cases t with
   | false=>exact⟨ρ2,ρt,rfl,.inl ⟨e2,(Option.some.inj h).symm⟩⟩
   | true=>
    have h:qlN ρ1 js (me ρt)=some p:=h;cases e4:me ρt with
    | bad=>rw[e4]at h;cases h
    | ex _ _=>rw[e4]at h;cases h
    | ok z ρ3=>
     rw[e4]at h;have h:qlM ρ1 js (fz ρ3 z)=some p:=h;cases e3:fz ρ3 z with
     | none=>rw[e3]at h;cases h
     | some q=>
      rw[e3]at h;obtain⟨y,ρ4⟩:=q;exact⟨ρ2,ρt,rfl,.inr ⟨e2,z,ρ3,y,ρ4,e4,e3,(Option.some.inj h).symm⟩⟩
theorem qcj {α:Type} {im:IM} {xs:List α} (c e:α→D) (p:α→Bool) (hi:im ρ=.ok (xs.map c) ρ1) (hc:clean ρ1 js=true) (hl:xs.length≤mx)
  (ht:∀x∈xs,p x=true→lcI gm mt me js ρ1 (c x)=some (some (e x),ρ1)) (hf:∀x∈xs,p x=false→lcI gm mt me js ρ1 (c x)=some (none,ρ1)) :
  fLc im js gm mt me ρ=.ok (.lst ((xs.filter p).map e)) ρ1:=
 qkf c e p hi hc hl fun x hx=>by
  cases hp:p x with
  | true=>
   obtain⟨ρ2,ρt,e1,h⟩:=vq (ht x hx hp);rcases h with ⟨_,e⟩ | ⟨e2,z,ρ3,y,ρ4,e3,e4,e5⟩
   ·cases (Prod.mk.inj e).1
   ·obtain⟨e6,e7⟩:=Prod.mk.inj e5;cases e6;exact⟨ρ2,ρt,e1,e2,⟨fun q=>Bool.noConfusion q,fun _=>⟨z,ρ3,ρ4,e3,e4,e7.symm⟩⟩⟩
  | false=>
   obtain⟨ρ2,ρt,e1,h⟩:=vq (hf x hx hp);rcases h with ⟨e2,e⟩ | ⟨e2,z,ρ3,y,ρ4,e3,e4,e5⟩
   ·exact⟨ρ2,ρt,e1,e2,⟨fun _=>(Prod.mk.inj e).2.symm,fun q=>Bool.noConfusion q⟩⟩
   ·cases (Prod.mk.inj e5).1
end
def qfT (x:Str):Bool:=x.cps.all (· < 0x110000)
mutual
def plD (k:Nat):D→Bool
 | .non=>true
 | .bl _=>true
 | .int _=>true
 | .str x=>qfT x
 | .lst ds=>match k with
  | 0=>false
  | k+1=>qhM k ds
 | .ro ds=>match k with
  | 0=>false
  | k+1=>qhM k ds
 | .tup ds=>match k with
  | 0=>false
  | k+1=>qhM k ds
 | .dct _=>false
 | .ins _ _=>false
 | .dcT _=>false
def qhM (k:Nat):List D→Bool
 | []=>true
 | d::ds=>plD k d && qhM k ds
end
mutual
def eqP:D→D→Bool
 | .non,.non=>true
 | .bl a,.bl b=>a == b
 | .bl a,.int j=>(if a then 1 else 0) == j
 | .int i,.bl b=>i == (if b then 1 else 0)
 | .int i,.int j=>i == j
 | .str x,.str y=>x == y
 | .lst x,.lst y=>qfq x y
 | .lst x,.ro y=>qfq x y
 | .ro x,.lst y=>qfq x y
 | .ro x,.ro y=>qfq x y
 | .tup x,.tup y=>qfq x y
 | _,_=>false
def qfq:List D→List D→Bool
 | [],[]=>true
 | x::xs,y::ys=>eqP x y && qfq xs ys
 | _,_=>false
end
mutual
theorem j4:∀(k:Nat) (d:D),plD k d=true→∃p,toP d=some p∧p.canLay0=true∧p.depth≤k
 | k,.non,_=>⟨_,rfl,rfl,Nat.zero_le _⟩
 | k,.bl _,_=>⟨_,rfl,rfl,Nat.zero_le _⟩
 | k,.int _,_=>⟨_,rfl,rfl,Nat.zero_le _⟩
 | k,.str x,h=>⟨_,rfl,by simpa [plD,PyData.canLay0,qfT,PyData.strOk] using h,Nat.zero_le _⟩
 | 0,.lst ds,h=>by simp[plD]at h
 | k+1,.lst ds,h=>by
  obtain⟨ps,e,h1,h2⟩:=Tw k ds (by simpa [plD] using h);exact⟨.list ps,by simp[toP,e],by simpa [PyData.canLay0] using h1,by simp[PyData.depth];exact h2⟩
 | 0,.ro ds,h=>by simp[plD]at h
 | k+1,.ro ds,h=>by
  obtain⟨ps,e,h1,h2⟩:=Tw k ds (by simpa [plD] using h);exact⟨.list ps,by simp[toP,e],by simpa [PyData.canLay0] using h1,by simp[PyData.depth];exact h2⟩
 | 0,.tup ds,h=>by simp[plD]at h
 | k+1,.tup ds,h=>by
  obtain⟨ps,e,h1,h2⟩:=Tw k ds (by simpa [plD] using h);exact⟨.tuple ps,by simp[toP,e],by simpa [PyData.canLay0] using h1,by simp[PyData.depth];exact h2⟩
 | k,.dct _,h=>by simp[plD]at h
 | k,.ins _ _,h=>by simp[plD]at h
 | k,.dcT _,h=>by simp[plD]at h
theorem Tw:∀(k:Nat) (ds:List D),qhM k ds=true→∃ps,yy ds=some ps∧PyData.canLayAll0 ps=true∧PyData.depthAll ps≤k
 | k,[],_=>⟨[],rfl,rfl,Nat.zero_le _⟩
 | k,d::ds,h=>by
  rw[qhM,Bool.and_eq_true]at h;obtain⟨p,e1,h1,h2⟩:=j4 k d h.1;obtain⟨ps,e2,h3,h4⟩:=Tw k ds h.2;exact⟨p::ps,by simp[yy,e1,e2],by simp[PyData.canLayAll0,h1,h3],by simp only[PyData.depthAll];exact Nat.max_le.mpr ⟨h2,h4⟩⟩
end
mutual
theorem qcU:∀(a b:D) (p q:PyData),toP a=some p→toP b=some q→PyData.eqv p q=eqP a b
 | a,b,p,q,ha,hb=>by
  cases a<;>simp only[toP,Option.map_eq_some_iff,reduceCtorEq,Option.some.injEq]at ha;all_goals first | subst ha | (obtain⟨ps,ea,rfl⟩:=ha)
  all_goals (cases b<;>simp only[toP,Option.map_eq_some_iff,reduceCtorEq,Option.some.injEq]at hb)
  all_goals first | subst hb | (obtain⟨qs,eb,rfl⟩:=hb)
  all_goals first | rfl | (simp only[PyData.eqv,eqP];exact qai _ _ _ _ ea eb) | simp only[PyData.eqv,eqP]
theorem qai:∀(as bs:List D) (ps qs:List PyData),yy as=some ps→yy bs=some qs→PyData.eqvAll ps qs=qfq as bs
 | [],[],ps,qs,ha,hb=>by cases ha;cases hb;rfl
 | [],b::bs,ps,qs,ha,hb=>by
  cases ha;rw[yy]at hb;split at hb
  ·cases hb;rfl
  ·cases hb
 | a::as,[],ps,qs,ha,hb=>by
  cases hb;rw[yy]at ha;split at ha
  ·cases ha;rfl
  ·cases ha
 | a::as,b::bs,ps,qs,ha,hb=>by
  rw[yy]at ha hb;split at ha
  ·rename_i p ps' e1 e2;split at hb
   ·rename_i q qs' e3 e4;cases ha;cases hb;rw[PyData.eqvAll,qfq,qcU a b p q e1 e3,qai as bs ps' qs' e2 e4]
   ·cases hb
  ·cases ha
end
theorem qfr {a b:D} (ha:plD 60 a=true) (hb:plD 60 b=true):eqB a b=some (eqP a b):=by
 obtain⟨p,e1,h1,h2⟩:=j4 60 a ha;obtain⟨q,e2,h3,h4⟩:=j4 60 b hb;have h5:=qcU a b p q e1 e2;have s1:SeqAt.shaped p=true:=by unfold SeqAt.shaped;simp[h1];omega
 have s2:SeqAt.shaped q=true:=by unfold SeqAt.shaped;simp[h3];omega
 unfold eqB;split
 ·rfl
 ·rw[e1,e2];simp only;rw[if_pos ⟨s1,s2⟩,h5]
section
variable {k:Nat} {a b:D} {ds es:List D} {i j:Int} {x y:Str} {p q:Bool}
@[simp] theorem qtn:plD k (.bl p)=true:=by simp[plD]
@[simp] theorem qtm:plD k (.str x)=qfT x:=by simp[plD]
@[simp] theorem qsu:eqB (.bl p) (.bl q)=some (p == q):=by rw[qfr (by simp) (by simp)];simp[eqP]
@[simp] theorem qky (hx:qfT x=true) (hy:qfT y=true):eqB (.str x) (.str y)=some (x == y):=by rw[qfr (by simpa using hx) (by simpa using hy)];simp[eqP]
end
end DL
namespace PySem.ErrX
open PySem PySem.W PySem.Spec PySem.Calls PyProof.Rows
end PySem.ErrX
namespace DL
open PySem PySem.Spec PyProof.Rows L2
def CN.v (K:PySem.W.Frag):CN→V
 | .own x=>.ref (cA K x)
 | .ty n=>.ty n
theorem CN.rel (K:PySem.W.Frag) (c:CN):RelV (c.v K) (c.u K):=by cases c<;>rfl
theorem CN.eq {K:PySem.W.Frag} {c:CN} {u:Value} (h:RelV (c.v K) u):u=c.u K:=by
 cases c with
 | own x=>exact h
 | ty n=>exact h
def qcT (H:Hp) (d:Option Addr):Prop:=∃dd fs,d=some dd∧H dd=some (.xd fs)
section
variable {F:PySem.W.Frag} {a:Addr} {cls:Value} {d:Option Addr} {e:Exn} {C:Str} {i:Nat} {b:Bool} {W:WX}
theorem qcT.mono {G G':Hp} (s:Same G G') (h:qcT G d):qcT G' d:=let ⟨dd,fs,e1,e2⟩:=h;⟨dd,fs,e1,s _ _ e2⟩
end
def Ef:List D→Option D
 | [.int i,.int j]=>if Rw j then some (.tup [.int (i.fdiv j),.int (i.fmod j)]) else none
 | _=>none
theorem qbd {X:Cx}:CallR X (.builtin "divmod") (rDn X.K Ef):=by
 intro pins s σ H vs us Q I r h;obtain⟨G,as,d,sG,va,e,q⟩:=h;unfold Ef at e;split at e
 ·rename_i i j;split at e
  ·rename_i hj;cases e;obtain⟨x,y,rfl,hx,hy⟩:=qgl va;cases hx.int;cases hy.int;obtain⟨t,u,rfl⟩:=Vals.int2 r;have fresh:H s.heap.objs.size=none:=I.hok.fresh (Nat.le_refl _);refine PyProof.Rows.divmod_int hj.1 ⟨.ref s.heap.objs.size,_,?_,rfl,Sd sG (.cons (.int _) (.cons (.int _) .nil)) q _ (tOb #[.int (i.fdiv j) s.toks,.int (i.fmod j) (s.toks+1)]) rfl fresh⟩ (.inl hj.ok);refine I.laid (fun b o e=>Heap.get?_push_of_some _ e) (Nat.le_refl _) ⟨Heap.get?_push_size s.heap rfl,(by show 2≤sizeLine;decide),[.int (i.fdiv j) s.toks,.int (i.fmod j) (s.toks+1)],.cons ⟨_,rfl⟩ (.cons ⟨_,rfl⟩ .nil),⟨_,Heap.get?_push_size s.heap rfl,rfl,0,rfl⟩⟩
  ·cases e
 ·cases e
where qrr {n:Nat} (h:n≤100):n≤mx:=Nat.le_trans h (by decide)
def qbn (kvs:List (Key×D)) (k:Key):Option D:=(kvs.find? fun kv=>decide (kv.1=k)).map (·.2)
def qaN (kvs:List (Key×D)) (k:Key) (d:D):List (Key×D):=
 if (kvs.any fun kv=>decide (kv.1=k))=true then kvs.map (fun kv=>if kv.1=k then (kv.1,d) else kv) else kvs++[(k,d)]
section
variable {K:PySem.W.Frag} {G H:Hp}
theorem qcm {v:V} {d:D} {k:Key} (h:Vw K G H v d) (e:qbm d=some k):v=kV k:=by
 cases d<;>simp only[qbm,reduceCtorEq,Option.some.injEq]at e
 ·subst e;exact h.int
 ·subst e;exact h.str
theorem DqK.get {k:Key}:∀{vs:List (Key×V)} {ds:List (Key×D)},DqK K G vs ds→match qbn ds k with
  | some d=>∃v,valV vs k=some v∧Dq K G v d
  | none=>valV vs k=none
 | _,_,.nil=>rfl
 | _,_,.cons (k:=j) h t=>by
  unfold qbn valV;by_cases e:j=k
  ·simp only[List.find?_cons,decide_eq_true e,Option.map_some];exact⟨_,rfl,h⟩
  ·simp only[List.find?_cons,decide_eq_false e];exact DqK.get t
theorem DqK.length:∀{vs:List (Key×V)} {ds:List (Key×D)},DqK K G vs ds→vs.length=ds.length
 | _,_,.nil=>rfl
 | _,_,.cons _ t=>by simp[DqK.length t]
theorem DqK.anyk {k:Key}:∀{vs:List (Key×V)} {ds:List (Key×D)},DqK K G vs ds→(vs.any fun kv=>decide (kv.1=k))=ds.any fun kv=>decide (kv.1=k)
 | _,_,.nil=>rfl
 | _,_,.cons _ t=>by rw[List.any_cons,List.any_cons,DqK.anyk t]
theorem DqK.mapk {k:Key} {v:V} {d:D} (q:Dq K G v d):∀{vs:List (Key×V)} {ds:List (Key×D)},DqK K G vs ds→DqK K G (vs.map fun kv=>if kv.1=k then (kv.1,v) else kv) (ds.map fun kv=>if kv.1=k then (kv.1,d) else kv)
 | _,_,.nil=>.nil
 | _,_,.cons (k:=j) h t=>by
  rw[List.map_cons,List.map_cons];by_cases e:j=k
  ·simp only[if_pos e];exact .cons q (DqK.mapk q t)
  ·simp only[if_neg e];exact .cons h (DqK.mapk q t)
theorem DqK.app:∀{vs us:List (Key×V)} {ds es:List (Key×D)},DqK K G vs ds→DqK K G us es→DqK K G (vs++us) (ds++es)
 | _,_,_,_,.nil,b=>b
 | _,_,_,_,.cons h t,b=>.cons h (DqK.app t b)
theorem DqK.put {vs:List (Key×V)} {ds:List (Key×D)} {k:Key} {v:V} {d:D} (h:DqK K G vs ds) (q:Dq K G v d):DqK K G (putK vs k v) (qaN ds k d):=by
 unfold putK qaN;rw[h.anyk];split
 ·exact h.mapk q
 ·exact h.app (.cons q .nil)
end
def inX (a b:D):Option D:=match b with
 | .dct kvs=>(qbm a).map fun k=>.bl (qbn kvs k).isSome
 | b=>inD a b
def ixX (a b:D):Option D:=match a with
 | .dct kvs=>(qbm b).bind fun k=>qbn kvs k
 | a=>ixD a b
section
variable {X:Cx}
theorem qhh {K:PySem.W.Frag} {G H:Hp} {y:V} {a:Addr} {xs:List (Key×V)} {kvs:List (Key×D)} {k:Key} (hp:H a=some (.dK xs)) (q:DqK K G xs kvs):∃o,DGet H a (kV k) o∧o.isSome=(qbn kvs k).isSome∧∀d,qbn kvs k=some d→∃v,o=some v∧Dq K G v d:=by
 refine⟨_,DGet.k hp,?_,fun d e=>?_⟩
 ·have:=q.get (k:=k);split at this
  ·rename_i d e;obtain⟨v,e1,_⟩:=this;rw[e1,e];rfl
  ·rename_i e;rw[this,e];rfl
 ·have:=q.get (k:=k);rw[e]at this;exact this
theorem qdF {prog:Program} {w:World} {A:Around} {E:Value→Shared→Prop} {s:Shared} {value slice:Expr} {o i:Value} {Q:Value→Shared→Prop} (hT:s.TypeIs o "dict") (hs:subscripted slice false o i=operate [o,i] (getItem o i))
  (h:wpAny (model prog w) A (getItem o i) Q E s):wpAny (model prog w) A (subscriptTail value slice o i) Q E s:=by
 rw[subscriptTail];refine wpAny_bind ?_;rw[getitemInPython_of_ne hT.not_modules];refine wpAny_bind (wpAny_specialOf hT PySem.F.slot_dict_getitem.lookup ?_);have last:wpAny (model prog w) A (subscripted slice false o i) (fun r t=>wpAny (model prog w) A (letTemporaryGo value o r >>= fun _=>pure r) Q E t) E s:=by
  rw[hs];exact wpAny_operating (wpAny_mono h (fun r t ht=>wpAny_bind (wpAny_letTemporaryGo (wpAny_pure ht))) fun _ _ z=>z)
 first
  | exact wpAny_pure (wpAny_bind last)
  | exact wpAny_bind (wpAny_pure (wpAny_bind last))
  | exact wpAny_bind last
theorem qtR (hu:X.A.units+1<cLine):IxR X (rD2 X.K ixX):=by
 intro value slice pins s σ H x y v u Q I rx ry h hs;obtain⟨G,a,b,d,sG,va,vb,e,q⟩:=h;cases a with
 | dct kvs=>
  obtain⟨k,e1,e2⟩:=Option.bind_eq_some_iff.mp e;obtain⟨p,xs,rfl,hp,hq⟩:=va;have ex:=qcm vb e1;subst ex;cases rx;obtain⟨o,g,_,eo⟩:=qhh (k:=k) (y:=.non) hp hq;obtain⟨z,ez,qz⟩:=eo d e2;subst ez;exact qdF (dict_typeIs I g) hs (d_getItem hu I g ry fun w' s' I' rw'=>⟨z,H,I',rw',qdy sG q qz⟩)
 | _=>exact qrY value slice pins s σ H x y v u Q I rx ry ⟨G,_,b,d,sG,va,vb,e,q⟩ hs
end
variable {K:Kx} {W:WX}
def qhN (ρ:Env) (i:Nat):Option (L×List (Key×D)):=match ρ[i]? with
 | some (some (.m (.dct ds)))=>some (.m (.dct ds),ds)
 | some (some (.r (.dct ds)))=>some (.r (.dct ds),ds)
 | _=>none
theorem qbZ {σ:L2.St} {G H:Hp} {ρ:Env} {i:Nat} {l:L} {ds:List (Key×D)} (R:Rel K σ G H ρ) (h:qhN ρ i=some (l,ds)) :
  ρ[i]?=some (some l)∧l.own=true∧∃a xs,σ[i]?=some (some (.ref a))∧G a=none∧H a=some (.dK xs)∧DqK K G xs ds:=by
 unfold qhN at h;split at h
 ·rename_i es he;cases Option.some.inj h;obtain⟨v,h1,h2⟩:=R.at_ i _ he;obtain⟨a,xs,rfl,h3,h4,h5⟩:=(show MOk K G H v (.dct ds) from h2);exact⟨he,rfl,a,xs,h1,h3,h4,h5⟩
 ·rename_i es he;cases Option.some.inj h;obtain⟨v,h1,h2⟩:=R.at_ i _ he;obtain⟨a,xs,rfl,h3,h4,h5⟩:=(show MOk K G H v (.dct ds) from h2);exact⟨he,rfl,a,xs,h1,h3,h4,h5⟩
 ·cases h
def skG (i:Nat) (d:D) (l:L) (ds:List (Key×D)) (ρ:Env):Option Key→Res Fl
 | some k=>if ds.length<mx then .ok .nx (ρ.set i (some (l.put (.dct (qaN ds k d))))) else .bad
 | none=>.bad
def skF (i:Nat) (d:D) (y:Option D) (o:Option (L×List (Key×D))) (ρ:Env):Res Fl:=match y,o with
 | some y,some (l,ds)=>skG i d l ds ρ (qbm y)
 | _,_=>.bad
def vx (i:Nat) (d:D):X→Env→Res Fl:=fun y ρ3=>skF i d (look ρ3 y) (qhN ρ3 i) ρ3
def skE (i:Nat) (mi:EM) (p:Option (D×Env)):Res Fl:=match p with
 | some (d,ρ2)=>if (qhN ρ2 i).isSome=true then bindR (mi ρ2) (vx i d) else .bad
 | none=>.bad
def vy (i:Nat) (mi:EM):X→Env→Res Fl:=fun x ρ1=>skE i mi (fz ρ1 x)
def qaH (i:Nat) (mi mv:EM):SM:=fun ρ=>bindR (mv ρ) (vy i mi)
theorem qfV {i:Nat} {tv ti:TE} {mv mi:EM} (hv:Yh K W tv mv) (hi:Yh K W ti mi):Nt K W (sDPut (tVar i) ti tv) (qaH i mi mv):=fun σ G H ρ R D h=>by
 unfold qaH bindR at h;refine hv.fst R (fun x ρ1 e v G1 H1 S1 R1 x1=>?_) (fun e ρ1 q=>by rw[q]at h;exact Z6.x h) (fun q=>by rw[q]at h;exact h);rw[e]at h;have h:=Z6.step S1 h;simp only[vy]at h;cases e2:fz ρ1 x with
 | none=>rw[e2]at h;exact h.elim
 | some p=>
  obtain⟨d,ρ2⟩:=p;rw[e2]at h;obtain⟨G2,S2,R2,q2⟩:=Nn R1 x1 e2;have h:=Z6.step S2 h;simp only[skE]at h;split at h
  ·rename_i hh;obtain⟨⟨l0,ds0⟩,hl0⟩:=Option.isSome_iff_exists.mp hh;obtain⟨_,_,a,xs,hvs,_,_,_⟩:=qbZ R2 hl0;refine⟨_,hvs,?_⟩;unfold bindR at h;refine hi.fst R2 (fun y ρ3 e3 u G3 H3 S3 R3 x3=>?_) (fun e ρ1 q=>by rw[q]at h;exact Z6.x h) (fun q=>by rw[q]at h;exact h);rw[e3]at h;have h:=Z6.step S3 h;simp only[vx]at h;cases e4:look ρ3 y with
   | none=>rw[e4]at h;cases e5:qhN ρ3 i<;>(rw[e5]at h;exact h.elim)
   | some yd=>
    rw[e4]at h;cases e5:qhN ρ3 i with
    | none=>rw[e5]at h;exact h.elim
    | some q=>
     obtain⟨l,ds⟩:=q;rw[e5]at h;simp only[skF]at h;cases e6:qbm yd with
     | none=>rw[e6]at h;exact h.elim
     | some k=>
      rw[e6]at h;simp only[skG]at h;split at h
      ·rename_i hlen;obtain⟨k1,k2,b,ys,kv,kG,kH,kq⟩:=qbZ R3 e5;rw[hvs]at kv;cases Option.some.inj (Option.some.inj kv);have ey:=qcm (J5 R3 x3 e4) e6;subst ey;obtain⟨S4,R4⟩:=E7 (x':=.dct (qaN ds k d)) (o:=.dK (putK ys k v)) R3 k1 k2 hvs ⟨a,_,rfl,kG,upd_same,kq.put (q2.mono S3.g)⟩;exact⟨a,_,rfl,DPut.k kH (by rw[kq.length];exact Gp hlen),h _ _ _ S4 R4⟩
      ·exact h.elim
  ·exact h.elim
section
variable {X:Cx} {xa:Option XA} {W:WX} {a b e:Expr} {ma mb m:EM} {pos p p':Pos} {x:Str} {i:Nat}
theorem qrW (hu:X.A.units+1<cLine) (ha:JE X xa W a ma) (hb:JE X xa W b mb) (hs:PlainIx b:=by intro _ _;rfl):JE X xa W (.Subscript a b pos) (eOp ixX ma mb):=
 let ⟨_,h1,h2⟩:=ha;let ⟨_,h3,h4⟩:=hb;⟨_,pe_ix (qtR hu) h1 h3 hs,qcQ h2 h4⟩
theorem qct (hu:X.A.units+1<cLine) (h:JE X xa W e m) (hx:JE X xa W b mb) (hi:X.N[i]?=some x:=by rfl) (hv:Vis X.env.scope x:=by first | exact .inl rfl | exact .inr (.inl rfl) | exact .inr (.inr rfl)) (hd:(x == ("__debug__" : Str))=false:=by decide) (hcd:(x == ("__classdict__" : Str))=false:=by decide)
  (hs:swapsWith e (some (.Subscript (.Name x p) b p')) pos.line X.env=pure false:=by rfl):JS X xa W (.Assign [.Subscript (.Name x p) b p'] e pos) (qaH i mb m):=
 let ⟨_,h1,h2⟩:=h;let ⟨_,h3,h4⟩:=hx;⟨_,ps_dput hu (pe_var hi hv hd hcd) h3 h1 hs,qfV h2 h4⟩
end
inductive Sl where
 | p (i:Nat) | k (j:Nat) | m (j:Nat)
def slA {α:Type} (us mv ws:List α):Sl→Option α
 | .p i=>us[i]?
 | .k j=>ws[j]?
 | .m j=>mv[j]?
def gS {α:Type} (sl:List Sl) (us mv ws:List α):List α:=sl.filterMap (slA us mv ws)
theorem I9 {α β:Type} {R:α→β→Prop}:∀{xs:List α} {ys:List β},Paired R xs ys→∀i:Nat,match xs[i]?,ys[i]? with
  | some x,some y=>R x y
  | none,none=>True
  | _,_=>False
 | _,_,.nil,i=>by simp
 | _,_,.cons h _,0=>by simpa using h
 | _,_,.cons _ t,i+1=>by simpa using I9 t i
theorem qag {α β:Type} {R:α→β→Prop} {us mv ws:List α} {us' mv' ws':List β} (h1:Paired R us us') (h2:Paired R mv mv') (h3:Paired R ws ws'):∀{sl:List Sl},Paired R (gS sl us mv ws) (gS sl us' mv' ws')
 | []=>.nil
 | s::sl=>by
  have ih:=qag h1 h2 h3 (sl:=sl);have q:match slA us mv ws s,slA us' mv' ws' s with
   | some x,some y=>R x y
   | none,none=>True
   | _,_=>False:=by
   cases s with
   | p i=>exact I9 h1 i
   | k i=>exact I9 h3 i
   | m i=>exact I9 h2 i
  unfold gS at ih ⊢;rw[List.filterMap_cons,List.filterMap_cons];cases e1:slA us mv ws s<;>cases e2:slA us' mv' ws' s<;>simp only[e1,e2]at q
  ·exact ih
  ·exact .cons q ih
def cV:D→V
 | .int i=>.int i
 | .bl b=>.bl b
 | .str x=>.str x
 | _=>.non
def cOk:D→Bool
 | .int _=>true
 | .bl _=>true
 | .str _=>true
 | .non=>true
 | _=>false
def qhK (n m:Nat) (dm:List V) (sl:List Sl) (t tk:TA):TA:=fun σ H Q=>t σ H fun vs H1=>tk σ H1 fun zs H2=>vs.length=n∧zs.length=m∧Q (gS sl vs dm zs) H2
def qcp (n m:Nat) (ds:List D) (sl:List Sl) (xs:List X):List X→Env→Res (List X):=fun zs ρ2=>if xs.length=n∧zs.length=m then .ok (gS sl xs (ds.map .d) zs) ρ2 else .bad
def qcq (n m:Nat) (ds:List D) (sl:List Sl) (mk:AM):List X→Env→Res (List X):=fun xs ρ1=>bindR (mk ρ1) (qcp n m ds sl xs)
def yk (n m:Nat) (ds:List D) (sl:List Sl) (ma mk:AM):AM:=fun ρ=>bindR (ma ρ) (qcq n m ds sl mk)
section
variable {K:Kx} {W:WX}
theorem qc5 {σ:L2.St} {G:Hp}:∀{ds:List D},ds.all cOk=true→Nr K σ G (ds.map cV) (ds.map .d)
 | [],_=>.nil
 | x::ds,h=>by
  rw[List.all_cons,Bool.and_eq_true]at h;refine .cons ?_ (qc5 h.2);have hc:=h.1;show Dq K.k G (cV x) x;cases x<;>first | cases hc | skip
  ·exact .non
  ·exact .bl _
  ·exact .int _
  ·exact .str _
theorem qkX {n m:Nat} {ds:List D} {sl:List Sl} {t tk:TA} {ma mk:AM} (hs:ds.all cOk=true) (ht:R8 K W t ma) (hk:R8 K W tk mk):R8 K W (qhK n m (ds.map cV) sl t tk) (yk n m ds sl ma mk):=fun σ G H ρ R Q h=>by
 unfold yk bindR at h;refine ht.fst R (fun xs ρ1 e vs G1 H1 S1 R1 x1=>?_) (fun e ρ1 q=>by rw[q]at h;exact h) (fun q=>by rw[q]at h;exact h);rw[e]at h;have h:=D5.step S1 h;simp only[qcq]at h;unfold bindR at h;refine hk.fst R1 (fun ys ρ2 e2 zs G2 H2 S2 R2 x2=>?_) (fun e ρ1 q=>by rw[q]at h;exact h) (fun q=>by rw[q]at h;exact h);rw[e2]at h;have h:=D5.step S2 h;simp only[qcp]at h;split at h
 ·rename_i hl;exact⟨x1.len.trans hl.1,x2.len.trans hl.2,h _ G2 H2 (Stp.refl _ _ _ _) R2 (qag (x1.mono S2.g) (qc5 hs) x2)⟩
 ·exact h.elim
end
section
variable {X:Cx} {CX:CXT} {k n:Nat} {f:Addr} {fd:FuncData} {ps ks:List Str} {sp:Sp} {E:L2.St→XK} {x:Str} {p pos:Pos} {e:Expr} {es:List Expr} {kws:List Keyword} {t tk:TA} {g:List Value→List Value→List Value} {gV:List V→List V→List V}
def jq (n m:Nat) (sp:Sp) (gV:List V→List V→List V) (E:L2.St→XK) (t tk:TA):TE:=fun σ H Q=>t σ H fun vs H1=>tk σ H1 fun zs H2=>vs.length=n∧zs.length=m∧sp (gV vs zs) H2 Q (E σ)
theorem qbX (F:FnOk X.prog X.w X.K X.mg X.base CX k f fd ps sp) (hr:Room k X.A) (hg:Gl X x) (hm:X.mg x=some (.ref f)) (hk:PySem.W.keepIn X.K (.ref f)=true) (hb:KBn X.K fd ps n ks g gV) (hx:∀σ,PassesAt CX X σ (E σ))
  (ha:PA X (e::es) t) (hkw:PK X kws tk) (hall:(backToKw pos (keywordEach kws X.env)).all (·.1.isSome)=true:=by rfl) (hks:(backToKw pos (keywordEach kws X.env)).filterMap (·.1)=ks:=by rfl)
  (hdb:(x == ("__debug__" : Str))=false:=by decide) (he:starEach (e::es) X.env=(false,eval e X.env)::starEach es X.env:=by rfl)
  (hpl:((backTo pos (starEach (e::es) X.env)).any (·.1) || (backToKw pos (keywordEach kws X.env)).any (·.1.isNone))=false:=by rfl) :
  PE X (.Call (.Name x p) (e::es) kws pos) (jq n ks.length sp gV E t tk):=⟨fun pins s σ H Q I h=>by
 refine wpAny_Call_Name_kw (ld_glob I hg hm ?_ hdb);refine PySem.W.callWith_KW (h₀:=X.base) I.ok.mod.kin hk hall (thn (ha.run pos pins s σ H _ I h) fun us s1 hh=>?_) hpl he;obtain⟨vs,H1,I1,r,q⟩:=hh;refine thn (hkw.run pos pins s1 σ H1 _ I1 q) fun ws s2 hh=>?_;obtain⟨zs,H2,I2,rz,l1,l2,q2⟩:=hh;refine⟨I2.kIn,?_⟩;rw[hks];have r2:=hb.rel r rz;refine wpAny_call (codeAny_mono (F.run X.A X.stack s2 H2 ⟨us,ks.zip ws⟩ (g us ws) (gV vs zs) Q (E σ) hr I2.env0 (hb.to s2 us ws I2.kIn (r.length.symm.trans l1) (rz.length.symm.trans l2)) r2 q2) fun ans s' hq=>?_);cases ans with
 | error z=>exact hx σ pins H2 s2 z s' I2 hq
 | ok fl=>
  cases fl with
  | ret u=>exact I2.after hq
  | next=>exact False.elim hq
  | brk=>exact False.elim hq
  | cont=>exact False.elim hq⟩
end
theorem kb0 {K:PySem.W.Frag} {x qual:Str} {params:Arguments} {body:List Stmt} {scope:Scope} {kws:List (Str×V)} {f:Addr} {fd:FuncData} {ps:List Str} (F:FunD K x qual params body scope [] kws f fd) (n:Nat) (ks:List Str) (ms:List (Str×V)) (sl:List Sl) (hk:kws≠[]) (hms:∀q∈ms,q∈kws)
  (h:∀(D:Addr) (doc pm:Value) (an:Option Addr) (cdv ct:Value) (us mv ws:List Value),us.length=n→mv.length=ms.length→ws.length=ks.length→
   KwChain D ((ms.map (·.1)).zip mv) (bindArgs (PySem.W.fnOf x qual params body scope .none (.ref D) doc pm an cdv ct) ⟨us,ks.zip ws⟩) (ps.zip (gS sl us mv ws))) :
  ∃g,KBn K fd ps n ks g (fun vs zs=>gS sl vs (ms.map (·.2)) zs):=by
 obtain⟨oc,od,dV,kV,doc,pm,an,cdv,ct,osl,rfl,lk,hcd,hD,hK⟩:=F.ex;rcases hD with ⟨_,rfl⟩ | ⟨z,_⟩
 ·rcases hK with z | ⟨D,rfl,hq⟩
  ·exact absurd z hk
  ·obtain⟨mv,l,rk,hks⟩:=kwd_vals (ms:=ms) fun q hm=>hq q (hms q hm);exact⟨fun us ws=>gS sl us mv ws,fun s us ws X l1 l2=>BindsTo.of_looks fun M=>KwChain.looks X hks (h D doc pm an cdv ct us mv ws l1 l l2),fun r1 r2=>qag r1 rk r2⟩
 ·exact absurd rfl z
structure FnK (P:Program) (w:World) (K:PySem.W.Frag) (mg:Str→Option Value) (base:Heap) (k:Nat) (x:Str) (st:Stmt) (dvs:List V) (kws:List (Str×V)) (ps:List Str) (R:List L→FRes):Prop where
 ex:∃fd,FnOk P w K mg base (L2.CX P w) k (cA K x) fd ps (spF K ps.length R)∧FunD K x x (defArgs st) (defBody st) (defScope st) dvs kws (cA K x) fd
 g:mg x=some (.ref (cA K x))
theorem qfn {P:Program} {w:World} {K:PySem.W.Frag} {mg:Str→Option Value} {base:Heap} {x qual:Str} {st:Stmt} {dvs:List V} {kws:List (Str×V)} {f:Addr} {fd:FuncData} {N ps:List Str} {k:Nat} {body:SM} (F:FunD K x qual (defArgs st) (defBody st) (defScope st) dvs kws f fd) (S:FnScope N ps (defScope st))
  (hb:∀(cdv:Value) (A:Around) (outer:List PySem.Env) (s:Shared) (H:Hp) (E:XK),Room k (A.deeper (envOfC qual (defScope st) s.heap.objs.size f cdv))→
   JSs (cxOf (L2.CX P w) P w K mg base N qual (defScope st) f cdv A outer s H E) none (fun cls d _ H=>E cls d H) (defBody st) body) :
  FnOk P w K mg base (L2.CX P w) (k+1) f fd ps (spF K ps.length (Q7 N.length body)):=by
 refine F.ok S (fun vs H Q E h=>h.1) (fun cdv A outer s H vs Q E hr h=>?_);obtain⟨hl,G,as,Aok,hp⟩:=h;obtain⟨t,h1,h2⟩:=hb cdv A outer s H E hr;refine⟨t,h1,?_⟩;have len:as.length=vs.length:=by
  have:=Aok.1.len;simpa using this.symm
 have est:L2.start N vs=vs.map some++List.replicate (N.length-as.length) none:=by
  unfold L2.start;rw[len]
 rw[est];refine h2 _ G H (as.map some++List.replicate (N.length-as.length) none) (Rel.enter Aok) _ ?_;unfold Q7 at hp;cases e:body (as.map some++List.replicate (N.length-as.length) none) with
 | bad=>rw[e]at hp;exact hp
 | ex x ρ'=>
  rw[e]at hp;intro c d σ' G' H' S' R' q;obtain⟨a,b⟩:=Rel.leave Aok S' R';exact hp c d G' H' a b q
 | ok fl ρ'=>
  rw[e]at hp;cases fl with
  | nx=>
   intro σ' G' H' S' R';obtain⟨a,b⟩:=Rel.leave Aok S' R';exact hp _ G' H' a b .non
  | bk=>exact hp.elim
  | ct=>exact hp.elim
  | rt l=>
   intro σ' v G' H' S' R' q;obtain⟨a,b⟩:=Rel.leave Aok S' R';refine hp v G' H' a b ?_;cases l with
   | d x=>exact q
   | r x=>exact q.elim
   | p x=>exact q.elim
   | xh=>exact q.elim
   | u _ _=>
    obtain⟨t,va,vb,h1,h2,h3,h4,h5⟩:=q;refine⟨t,va,vb,h1,h2,h3,h4,fun b eb=>?_⟩;rcases h5 b eb with h | ⟨i,l,e1,o,_⟩
    ·exact h
    ·have:=Aok.2 l (List.mem_of_getElem? (Vl e1));rw[o]at this;cases this
   | m x=>
    refine⟨q.1,fun b eb=>?_⟩;rcases q.2 b eb with h | ⟨i,l,e1,o,_⟩
    ·exact h
    ·have:=Aok.2 l (List.mem_of_getElem? (Vl e1));rw[o]at this;cases this
abbrev qpE (K:PySem.W.Frag) (x:Str) (st:Stmt) (dvs:List V) (kws:List (Str×V)):Prop:=∃fd,FunD K x x (defArgs st) (defBody st) (defScope st) dvs kws (cA K x) fd
theorem qfo {P:Program} {w:World} {K:PySem.W.Frag} {mg:Str→Option Value} {base:Heap} {x:Str} {st:Stmt} {dvs:List V} {kws:List (Str×V)} {N ps:List Str} {k:Nat} {body:SM} (F:qpE K x st dvs kws) (g:mg x=some (.ref (cA K x))) (S:FnScope N ps (defScope st))
  (hb:∀(cdv:Value) (A:Around) (outer:List PySem.Env) (s:Shared) (H:Hp) (E:XK),Room k (A.deeper (envOfC x (defScope st) s.heap.objs.size (cA K x) cdv))→
   JSs (cxOf (L2.CX P w) P w K mg base N x (defScope st) (cA K x) cdv A outer s H E) none (fun cls d _ H=>E cls d H) (defBody st) body) :
  FnK P w K mg base (k+1) x st dvs kws ps (Q7 N.length body):=by
 obtain⟨fd,F⟩:=F;exact⟨⟨fd,qfn F S hb,F⟩,g⟩
def JK (X:Cx) (xa:Option XA) (W:WX) (kws:List Keyword) (m:AM):Prop:=∃t,PK X kws t∧R8 ⟨X.K,xa⟩ W t m
section
variable {X:Cx} {xa:Option XA} {W:WX} {e:Expr} {es:List Expr} {kws:List Keyword} {am mk:AM} {m:EM} {pos p kpos:Pos} {x:Str} {st:Stmt} {dvs:List V} {kwv:List (Str×V)} {k n:Nat} {ps ks:List Str} {R:List L→FRes} {nm:Option Str} {ds:List D} {sl:List Sl}
theorem Fq:JK X xa W [] Qx:=⟨_,pk_nil,qaw⟩
theorem Jj (ha:JE X xa W e m) (hr:JK X xa W kws mk):JK X xa W (⟨nm,e,kpos⟩::kws) (Qf m mk):=let ⟨_,h1,h2⟩:=ha;let ⟨_,h3,h4⟩:=hr;⟨_,pk_cons h1 h3,qdk h2 h4⟩
theorem v9 (ks:List Str) (B:FnK X.prog X.w X.K X.mg X.base k x st dvs kwv ps R) (hkb:∀fd,FunD X.K x x (defArgs st) (defBody st) (defScope st) dvs kwv (cA X.K x) fd→∃g,KBn X.K fd ps n ks g (fun vs zs=>gS sl vs (ds.map cV) zs)) (hds:ds.all cOk=true) (hr:Room k X.A) (tk:Takes X W) (ha:JA X xa W (e::es) am) (hkw:JK X xa W kws mk)
  (hg:Gl X x:=by rfl) (hall:(backToKw pos (keywordEach kws X.env)).all (·.1.isSome)=true:=by rfl) (hks:(backToKw pos (keywordEach kws X.env)).filterMap (·.1)=ks:=by rfl)
  (hdb:(x == ("__debug__" : Str))=false:=by decide) (he:starEach (e::es) X.env=(false,eval e X.env)::starEach es X.env:=by rfl)
  (hpl:((backTo pos (starEach (e::es) X.env)).any (·.1) || (backToKw pos (keywordEach kws X.env)).any (·.1.isNone))=false:=by rfl) :
  JE X xa W (.Call (.Name x p) (e::es) kws pos) (Q9 ps.length R (yk n ks.length ds sl am mk)):=by
 obtain⟨t,h1,h2⟩:=ha;obtain⟨u,h3,h4⟩:=hkw;obtain⟨fd,F,D⟩:=B.ex;obtain⟨g,hb⟩:=hkb fd D;refine⟨tCallSD (spF X.K ps.length R) [] (WE W) (qhK n ks.length (ds.map cV) sl t u),?_,qcR (qkX hds h2 h4)⟩;have P:=qbX (p:=p) (E:=WE W) F hr hg B.g D.kp hb (fun σ=>passAt tk σ) h1 h3 hall hks hdb he hpl;have eq:jq n ks.length (spF X.K ps.length R) (fun vs zs=>gS sl vs (ds.map cV) zs) (WE W) t u=tCallSD (spF X.K ps.length R) [] (WE W) (qhK n ks.length (ds.map cV) sl t u):=by
  funext σ H Q
  unfold jq tCallSD qhK;simp only[List.append_nil]
 rw[← eq];exact P
end
end DL
namespace DL
open PySem L2
section
variable {ρ:Env} {e:Exn} {i j:Int} {a b d:D} {ds:List D}
def ixE (e:Exn) (C:Str) (b:Bool) (o:Option (Option L)) (ρ:Env):Res X:=match o with
 | some (some .xh)=>if e.cls=C∧e.fs.isSome=true then .ok (.d (.bl b)) ρ else .bad
 | _=>.bad
@[simp] theorem qkK:Ef [.int i,.int j]=if Rw j then some (.tup [.int (i.fdiv j),.int (i.fmod j)]) else none:=(rfl)
@[simp] theorem qru:qbm (.int i)=some (.inl i):=(rfl)
def okE:Option (Option L)→Option (L×List (Key×D))
 | some (some (.m (.dct ds)))=>some (.m (.dct ds),ds)
 | some (some (.r (.dct ds)))=>some (.r (.dct ds),ds)
 | _=>none
@[simp] theorem qts {ds:List (Key×D)}:okE (some (some (.m (.dct ds))))=some (.m (.dct ds),ds):=(rfl)
@[simp] theorem qlf {i:Nat} {mi mv:EM}:qaH i mi mv ρ=bindR (mv ρ) (vy i mi):=(rfl)
@[simp] theorem qjr {i:Nat} {mi:EM} {x:X}:vy i mi x ρ=skE i mi (fz ρ x):=(rfl)
@[simp] theorem qqf {i:Nat} {mi:EM}:skE i mi (some (d,ρ))=if (okE ρ[i]?).isSome=true then bindR (mi ρ) (vx i d) else .bad:=(rfl)
@[simp] theorem qjq {i:Nat} {y:X}:vx i d y ρ=skF i d (look ρ y) (okE ρ[i]?) ρ:=(rfl)
@[simp] theorem qqe {i:Nat} {y:D} {l:L} {ds:List (Key×D)}:skF i d (some y) (some (l,ds)) ρ=skG i d l ds ρ (qbm y):=(rfl)
@[simp] theorem qqd {i:Nat} {k:Key} {l:L} {ds:List (Key×D)}:skG i d l ds ρ (some k)=if ds.length<mx then .ok .nx (ρ.set i (some (l.put (.dct (qaN ds k d))))) else .bad:=(rfl)
@[simp] theorem qpA {n m:Nat} {sl:List Sl} {ma mk:AM}:yk n m ds sl ma mk ρ=bindR (ma ρ) (qcq n m ds sl mk):=(rfl)
@[simp] theorem ql4 {n m:Nat} {sl:List Sl} {mk:AM} {xs:List X}:qcq n m ds sl mk xs ρ=bindR (mk ρ) (qcp n m ds sl xs):=(rfl)
@[simp] theorem ql3 {n m:Nat} {sl:List Sl} {xs zs:List X}:qcp n m ds sl xs zs ρ=if xs.length=n∧zs.length=m then .ok (gS sl xs (ds.map .d) zs) ρ else .bad:=(rfl)
variable {α:Type} {us mv ws:List α} {x:α}
@[simp] theorem qsf:gS [] us mv ws=[]:=(rfl)
def gsC {α:Type} (us mv ws:List α) (sl:List Sl):Option α→List α
 | some x=>x::gS sl us mv ws
 | none=>gS sl us mv ws
@[simp] theorem qul {i:Nat} {sl:List Sl}:gS (.p i::sl) us mv ws=gsC us mv ws sl us[i]?:=by
 unfold gS gsC;rw[List.filterMap_cons];show (match us[i]? with | none=>_ | some b=>_)=_;cases us[i]?<;>rfl
@[simp] theorem qun {i:Nat} {sl:List Sl}:gS (.k i::sl) us mv ws=gsC us mv ws sl ws[i]?:=by
 unfold gS gsC;rw[List.filterMap_cons];show (match ws[i]? with | none=>_ | some b=>_)=_;cases ws[i]?<;>rfl
@[simp] theorem qum {i:Nat} {sl:List Sl}:gS (.m i::sl) us mv ws=gsC us mv ws sl mv[i]?:=by
 unfold gS gsC;rw[List.filterMap_cons];show (match mv[i]? with | none=>_ | some b=>_)=_;cases mv[i]?<;>rfl
@[simp] theorem qsd {sl:List Sl}:gsC us mv ws sl (some x)=x::gS sl us mv ws:=(rfl)
end
variable {K:Kx} {W:WX}
def Aa (D:Addr) (H:Hp):Hp:=fun a=>if a=D then none else H a
theorem Ht {D a:Addr} {H:Hp} (h:a≠D):Aa D H a=H a:=if_neg h
theorem Um {D:Addr} {H:Hp}:Aa D H D=none:=if_pos rfl
theorem E9 {D:Addr} {H:Hp} {o:HO} (h:H D=some o):upd (Aa D H) D o=H:=by
 funext a
 by_cases e:a=D
 ·subst e;rw[upd_same,h]
 ·rw[upd_ne e,Ht e]
theorem Rel.outD {σ:St} {G H:Hp} {ρ:Env} {D:Addr} (R:Rel K σ G H ρ) (g:G D=none) (n:¬Own σ ρ D):Rel K σ G (Aa D H) ρ:=by
 refine⟨fun b u e=>?_,R.len,fun i l e=>?_,R.exo,R.sep⟩
 ·rw[Ht (ne_of_none e g)];exact R.same b u e
 ·obtain⟨v,e1,e2⟩:=R.at_ i l e;refine⟨v,e1,?_⟩;have ow:∀y,l.own=true→MOk K G H v y→MOk K G (Aa D H) v y:=fun y ol hm=>by
   refine hm.mono (Same.refl _) fun c ec=>?_;subst ec;obtain⟨c',ec',gc,_⟩:=hm.ref;cases ec';refine⟨gc,fun u eu=>?_⟩;have nc:c≠D:=fun q=>by
    subst q;exact n ⟨i,l,e,ol,e1⟩
   rw[Ht nc];exact eu
  cases l with
  | d y=>exact e2
  | m y=>exact ow y rfl e2
  | r y=>exact ow y rfl e2
  | p y=>exact⟨ow y rfl e2.1,e2.2⟩
  | xh=>exact e2
  | u _ _=>exact e2
theorem Stp.outD {σ σ':St} {G H G' H':Hp} {ρ ρ':Env} {D:Addr} (S:Stp σ ρ G H σ' ρ' G' H') (h:H D=none):Stp σ ρ G H σ' ρ' G' (Aa D H'):=by
 refine⟨S.g,S.gf,fun a u e n=>?_,fun a e=>?_,S.ow,S.om,S.pin⟩
 ·rw[Ht (ne_of_none e h)];exact S.fr a u e n
 ·by_cases q:a=D
  ·subst q;exact absurd h e
  ·rw[Ht q];exact S.hn a e
structure LcI (K:Kx) (σ:St) (G1 H1:Hp) (ρ1:Env) (js:List Nat) (A:Addr) (accV:List V) (acc:List D) (G':Hp) (ρ':Env) (H':Hp):Prop where
 S:Stp σ ρ1 G1 H1 σ ρ' G' H'
 R:Rel K σ G' H' ρ'
 h:H' A=some (.lst accV)
 g:G' A=none
 no:¬Own σ ρ' A
 q:DqA K G' accV acc
 len:ρ'.length=ρ1.length
 same:∀i∈js,ρ'[i]?=ρ1[i]?
theorem LcI.start {σ:St} {G1 H1:Hp} {ρ1:Env} {js:List Nat} {A:Addr} {accV:List V} {acc:List D} (R:Rel K σ G1 H1 ρ1) (hA:H1 A=none) (q:DqA K G1 accV acc):LcI K σ G1 H1 ρ1 js A accV acc G1 ρ1 (upd H1 A (.lst accV)):=by
 have g1:G1 A=none:=R.same.free hA;have no:¬Own σ ρ1 A:=fun⟨i,l,e1,o,e3⟩=>by
  obtain⟨v,e4,e5⟩:=R.at_ i l e1;rw[e3]at e4;cases Option.some.inj (Option.some.inj e4);have:∀y,MOk K G1 H1 (.ref A) y→False:=fun y hm=>by
   obtain⟨a,ea,_,hn⟩:=hm.ref;cases ea;exact hn hA
  cases l with
  | d y=>cases o
  | m y=>exact this y e5
  | r y=>exact this y e5
  | p y=>exact this y e5.1
  | xh=>cases o
  | u _ _=>cases o
 exact⟨(Stp.refl _ _ _ _).side hA,R.side g1 no,upd_same,g1,no,q,rfl,fun _ _=>rfl⟩
theorem LcI.item {σ:St} {G1 H1 G' H':Hp} {ρ1 ρ':Env} {js:List Nat} {A:Addr} {accV:List V} {acc:List D} (I:LcI K σ G1 H1 ρ1 js A accV acc G' ρ' H') {G2 H2:Hp} (gr:Gro G' H' G2 H2):LcI K σ G1 H1 ρ1 js A accV acc G2 ρ' H2:=by
 refine⟨I.S.trans (gr.stp (σ:=σ) (ρ:=ρ')),I.R.gro gr,gr.h A _ I.h,?_,I.no,I.q.mono gr.g,I.len,I.same⟩;cases q:G2 A with
 | none=>rfl
 | some o=>
  rcases gr.gf A o q with z | z
  ·rw[I.g]at z;cases z
  ·rw[I.h]at z;cases z
theorem LcI.leave {σ σ2:St} {G1 H1 G2 H2 G3 H3:Hp} {ρ1 ρ' ρ2 ρ3:Env} {js ks:List Nat} {A:Addr} {accV Lc:List V} {acc qk3:List D} (I:LcI K σ G1 H1 ρ1 js A accV acc G2 ρ' H2) (hA:H1 A=none) (hcl:clean ρ1 js=true) (hks:∀i∈ks,i∈js)
  (T:Tg ks (wipe σ js) σ2 (Vb ρ' js) ρ2) (S4:Stp σ2 ρ2 G2 (Aa A H2) σ2 ρ3 G3 (Aa A H3)) (R4:Rel K σ2 G3 (Aa A H3) ρ3) (h3:H3 A=some (.lst Lc)) (g3:G3 A=none) (q3:DqA K G3 Lc qk3) :
  LcI K σ G1 H1 ρ1 js A Lc qk3 G3 (J4 ρ1 ρ3 js) H3:=by
 have R2:Rel K σ G2 (Aa A H2) ρ':=I.R.outD I.g I.no;have S2:Stp σ ρ1 G1 H1 σ ρ' G2 (Aa A H2):=I.S.outD hA;obtain⟨S5,R5⟩:=Rel.turn R2 I.len I.same hcl ks hks T S4 R4;have l3:ρ3.length=ρ1.length:=by
  have e1:=R4.len;have e2:=T.len;rw[wipe_length]at e2;have e3:=R2.len;have e4:=I.len;omega
 have no3:¬Own σ (J4 ρ1 ρ3 js) A:=fun⟨i,l,e1,o,e3⟩=>by
  obtain⟨v,e4,e5⟩:=R5.at_ i l e1;rw[e3]at e4;cases Option.some.inj (Option.some.inj e4);have:∀y,MOk K G3 (Aa A H3) (.ref A) y→False:=fun y hm=>by
   obtain⟨a,ea,_,hn⟩:=hm.ref;cases ea;exact hn Um
  cases l with
  | d y=>cases o
  | m y=>exact this y e5
  | r y=>exact this y e5
  | p y=>exact this y e5.1
  | xh=>cases o
  | u _ _=>cases o
 have S6:=(S2.trans S5).side (o:=.lst Lc) hA;have R6:=R5.side (o:=.lst Lc) g3 no3;rw[E9 h3]at S6 R6;exact⟨S6,R6,h3,g3,no3,q3,by rw[V6];exact l3,fun i hi=>U0 l3 hi⟩
theorem Stp.inD {σ:St} {G H G' H':Hp} {ρ ρ':Env} {A:Addr} {o:HO} (S:Stp σ ρ G H σ ρ' G' H') (h:H A=some o) (n:¬Own σ ρ A) (g:G A=none):Stp σ ρ G (Aa A H) σ ρ' G' (Aa A H')∧H' A=some o∧G' A=none:=by
 have om:¬Ss σ ρ A:=fun z=>n z.own;refine⟨⟨S.g,fun a u e=>?_,fun a u e k=>?_,fun a e=>?_,fun a e=>?_,fun a e=>?_,S.pin⟩,S.fr A _ h n,?_⟩
 ·rcases S.gf a u e with z | z | z
  ·exact .inl z
  ·by_cases q:a=A
   ·exact .inr (.inl (by rw[q];exact Um))
   ·exact .inr (.inl (by rw[Ht q];exact z))
  ·exact .inr (.inr z)
 ·by_cases q:a=A
  ·rw[q,Um]at e;cases e
  ·rw[Ht q]at e ⊢;exact S.fr a u e k
 ·by_cases q:a=A
  ·rw[q,Um]at e;exact absurd rfl e
  ·rw[Ht q]at e ⊢;exact S.hn a e
 ·rcases S.ow a e with z | z
  ·exact .inl z
  ·by_cases q:a=A
   ·exact .inr (by rw[q];exact Um)
   ·exact .inr (by rw[Ht q];exact z)
 ·rcases S.om a e with z | z
  ·exact .inl z
  ·by_cases q:a=A
   ·exact .inr (by rw[q];exact Um)
   ·exact .inr (by rw[Ht q];exact z)
 ·cases q:G' A with
  | none=>rfl
  | some u=>
   rcases S.gf A u q with z | z | z
   ·rw[g]at z;cases z
   ·rw[h]at z;cases z
   ·exact absurd z om
end DL
namespace DL
open PySem PySem.Spec PyProof.Rows L2
def qhB:D→D→Option D
 | .int i,.int j=>some (.int (i+j))
 | _,_=>none
theorem A0 {X:Cx}:PIp X .Add (rD2 X.K qhB):=by
 intro pins s σ H x y v u Q I rx ry h;obtain⟨G,a,b,d,sG,va,vb,e,q⟩:=h;unfold qhB at e;split at e
 ·cases Option.some.inj e;rw[va.int]at rx;rw[vb.int]at ry;exact ip_add pins s σ H _ _ v u Q I rx ry ⟨_,_,rfl,rfl,Xa sG q⟩
 ·cases e
section
variable {X:Cx} {xa:Option XA} {W:WX} {e elt iter qtW tg tg1:Expr} {m:EM} {pos p':Pos} {x:Str} {i:Nat} {im im1:IM} {gm gm1:GM} {scope:Scope}
theorem v7 {op:Operator} {g:D→D→Option D} (hN:X.N.Nodup) (ho:PIp X op (rD2 X.K g)) (h:JE X xa W e m) (hi:X.N[i]?=some x:=by rfl) (hx:Loc X.env.scope x:=by first | exact .inl rfl | exact .inr rfl) (hf:X.fn x=true∨X.env.scope.names.lookup x=some .local:=by first | exact .inl rfl | exact .inr rfl | assumption) :
  JS X xa W (.AugAssign (.Name x p') op e pos) (qeY i g m):=let ⟨_,a,b⟩:=h;⟨_,ps_aug hN hi hx a ho hf,qip b⟩
def iOf (K:Kx) (W:WX) (m:IM):TI:=fun σ H Q=>∃G ρ,Rel K σ G H ρ∧Ry K W σ G H ρ Q (m ρ)
theorem JI.can {tg e:Expr} {m:IM} (h:JI X xa W tg e m):PI X tg e (iOf ⟨X.K,xa⟩ W m):=by
 obtain⟨t,h1,h2⟩:=h;exact⟨fun pins s σ H Q I ⟨G,ρ,R,hp⟩=>h1.run pins s σ H Q I (h2 σ G H ρ R Q hp)⟩
end
end DL
namespace L2
open PySem PySem.Spec PyProof.Rows
set_option maxHeartbeats 1000000 in
theorem qcV {v:Value} {ob:Obj} {Hq:Heap→Prop} (B:Begins v ob Hq) :
  Meets (Builtin.«enumerate.__new__» ⟨[.type "enumerate",v],[]⟩) (fun _ Rr st=>Hq st.heap∧
   Rr (.ok (.ret (.ref (st.heap.push ob).objs.size))) { st with heap:=(st.heap.push ob).push { cls:=.type "enumerate",data:=.fields #[.none,.bool false,.ref st.heap.objs.size,rawInt 0,.none,.none] } }):=
 .of_wp fun pg wd Ar Rr st hst=>by
  obtain⟨hp,gs,dn,t0,os⟩:=st;obtain⟨k1,k2⟩:=hst;have hsub:=sub_enumerate;have q1:∀{Ar':Around} {Ex:Value→Shared→Prop} {Qq:Value→Shared→Prop},Qq (.ref hp.objs.size) ⟨hp.push ob,gs,dn,t0,os⟩→wpAny (model pg wd) Ar' (pyIter v) Qq Ex ⟨hp,gs,dn,t0,os⟩:=
   fun q=>B.iter pg wd _ _ ⟨hp,gs,dn,t0,os⟩ _ k1 q
  wp_walk using q1
  refine wpAny_stack_any fun stk=>wpAny_pure ?_;split
  ·rename_i cl _ _ _ _ _;cases (cl == Value.type "enumerate")<;>(wp_walk using q1;exact⟨_,rfl,k2⟩)
  ·wp_walk using q1
   exact⟨_,rfl,k2⟩
theorem qex {pg:Program} {wd:World} {Ar:Around} {Ex:Value→Shared→Prop} {st:Shared} {l:Addr} {its:Array Value} {Qq:Value→Shared→Prop} (hL:st.heap.IsTuple l its)
  (k:∀g',IsEnum g' (st.heap.objs.size+1) st.heap.objs.size 0 .none→g'.IsTupleIter st.heap.objs.size l 0→(∀b o,st.heap.get? b=some o→g'.get? b=some o)→Qq (.ref (st.heap.objs.size+1)) { st with heap:=g' }) :
  wpAny (model pg wd) Ar (call (.type "enumerate") [.ref l]) Qq Ex st:=by
 refine callType_new F.called_enumerate (by decide) (F.typeCall_enumerate_1 _) (F.newCall_enumerate_1 _) (fun ob=>F.args_object_init_2 ob _) F.entry_enumerate_new (qcV (begins_tuple l its)) ⟨hL,?_⟩;have hz:∀ob:Obj,(st.heap.push ob).objs.size=st.heap.objs.size+1:=fun ob=>Heap.size_push ..;show _∧_;rw[hz];have he:=Heap.get?_push_size (st.heap.push { cls:=.type "tuple_iterator",data:=.fields #[.ref l,.int 0 0] }) (o:={ cls:=.type "enumerate",data:=.fields #[.none,.bool false,.ref st.heap.objs.size,rawInt 0,.none,.none] }) rfl;rw[hz]at he;exact⟨⟨_,he,rfl⟩,k _ he ⟨_,Heap.get?_push_of_some _ (Heap.get?_push_size _ rfl),rfl,rfl⟩ fun b o x=>Heap.get?_push_of_some _ (Heap.get?_push_of_some _ x)⟩
def ItE (K:PySem.W.Frag) (a:Addr):It:=
 ⟨fun i H=>∃(xs:List V) (x:V),SqT K H a xs∧xs[i]?=some x,fun i H v H'=>∃x,qpD H v H' [.int (i:Nat),x]∧(∀ys,SqT K H a ys→ys[i]?=some x),fun i H=>∃xs,SqT K H a xs∧xs.length≤i⟩
theorem qa9 {Pg:Program} {wd:World} {K:PySem.W.Frag} {es:List Expr} {kq:Nat} {tp:Pos} (a e it:Addr) :
  Turn Pg wd K (.Tuple es kq tp) (ItE K a) [e,it] e (fun i g=>(∃old,IsEnum g e it ((i:Nat):Int) old)∧g.IsTupleIter it a i∧e≠it) where
 mem:=List.mem_cons_self
 obj:=fun i g st b hb=>by
  obtain⟨⟨old,he⟩,⟨o,ho,hc,hd⟩,_⟩:=st;rcases List.mem_cons.mp hb with z | z
  ·subst z;exact⟨_,he,fun v q=>by cases q⟩
  ·cases List.mem_singleton.mp z;exact⟨o,ho,fun v q=>by rw[hd]at q;cases q⟩
 keep:=by
  intro i g g' s1 k;obtain⟨⟨old,he⟩,hi,hne⟩:=s1;exact⟨⟨old,k e List.mem_cons_self _ he⟩,hi.at fun o q=>k it (List.mem_cons_of_mem _ (List.mem_singleton.mpr rfl)) o q,hne⟩
 item:=by
  intro X hP hw hK hc i pins st σ H E I hf s1 hg;subst hP hw hK;obtain⟨⟨old,he⟩,hit,hne⟩:=s1;obtain⟨xs,x,hq,hx⟩:=hg;obtain⟨its,rv,pt,hz⟩:=I.tuple hq;obtain⟨u,hu,ru⟩:=rv.get hx;have hel:e<st.heap.objs.size:=Heap.lt_size he;have hil:it<st.heap.objs.size:=by obtain⟨_,q,_⟩:=hit;exact Heap.lt_size q
  have hlt:i<its.length:=(List.getElem?_eq_some_iff.mp hu).1;have hae:a≠e:=fun q=>by
   obtain⟨ob,ho,hcl,_⟩:=pt;rw[q]at ho;rw[he]at ho;rw[← Option.some.inj ho]at hcl;exact absurd (show Value.type "enumerate"=Value.type "tuple" from hcl) (by decide)
  have hai:a≠it:=fun q=>by
   obtain⟨ob,ho,hcl,_⟩:=pt;obtain⟨o2,ho2,hc2,_⟩:=hit;rw[q]at ho;rw[ho2]at ho;rw[← Option.some.inj ho,hc2]at hcl;exact absurd (show Value.type "tuple_iterator"=Value.type "tuple" from hcl) (by decide)
  have Dr:=Draws.tuple (prog:=X.prog) (w:=X.w) (A:=X.A.in1) (show X.A.in1.handled=none from I.ok.hd hc) it a hai its.toArray;refine wpAny_pyNext_enum_itemD Dr he ⟨hit,pt⟩ (by simpa using hlt) hne (by simp[hne,Ne.symm hae]) fun y g' tk hy ho hst' hT hsz hk=>?_;have ey:y=u:=by
   have hy':its[i]?=some y:=by simpa using hy
   rw[hu]at hy';exact (Option.some.inj hy').symm
  subst ey;refine⟨_,rfl,wpAny_letOwnedTupleGo_enum (s:={ st with heap:=g',toks:=tk+1 }) ho fun g2 he' sb=>?_⟩;have hT2:=(sb.2 _ (Nat.ne_of_gt hel)).trans hT;have new:ObjOk X.prog X.w (upd H st.heap.objs.size (.frz { cls:=.type "tuple",data:=.seq #[.int i tk,y] } (.tup [.int (i:Nat),x]))) g2 st.heap.objs.size (.frz { cls:=.type "tuple",data:=.seq #[.int i tk,y] } (.tup [.int (i:Nat),x])):=
   ⟨hT2,by show 2≤sizeLine;decide,[.int i tk,y],.cons ⟨_,rfl⟩ (.cons ru .nil),⟨_,hT2,rfl,_,rfl⟩⟩
  have I1:=I.turnedNew (t':=tk+1) (ch:=[e,it]) (fun b ob hb q=>(sb.2 b (fun z=>hb (by rw[z];exact List.mem_cons_self))).trans (hk b ob (fun z=>hb (by rw[z];exact List.mem_cons_self)) (fun z=>hb (by rw[z];exact List.mem_cons_of_mem _ (List.mem_singleton.mpr rfl))) q)) hf (Nat.le_refl _) new;refine⟨.ref st.heap.objs.size,_,I1,rfl,⟨x,⟨_,tOb #[.int i tk,y],rfl,rfl,I.hok.fresh (Nat.le_refl _),rfl⟩,fun ys hys=>by rw[I.tuple_inj hys hq];exact hx⟩,⟨⟨y,?_⟩,hst'.1.at fun o q=>(sb.2 it (Ne.symm hne)).trans q,hne⟩,fun b hb=>?_⟩
  ·rw[show ((i+1:Nat):Int)=(i:Int)+1 by omega];exact he'
  ·have hb':b<st.heap.objs.size:=by
    rcases List.mem_cons.mp hb with z | z
    ·rw[z];exact hel
    ·rw[List.mem_singleton.mp z];exact hil
   rw[upd_ne (Nat.ne_of_lt hb')];exact (hf b hb).1
 done:=by
  intro X hP hw hK hc i pins st σ H E I hf s1 hg;subst hP hw hK;obtain⟨⟨old,he⟩,hit,hne⟩:=s1;obtain⟨xs,hq,hx⟩:=hg;obtain⟨its,rv,pt,hz⟩:=I.tuple hq;have hf1:=hf it (List.mem_cons_of_mem _ (List.mem_singleton.mpr rfl));have hae:a≠e:=fun q=>by
   obtain⟨ob,ho,hcl,_⟩:=pt;rw[q]at ho;rw[he]at ho;rw[← Option.some.inj ho]at hcl;exact absurd (show Value.type "enumerate"=Value.type "tuple" from hcl) (by decide)
  have hai:a≠it:=fun q=>by
   obtain⟨ob,ho,hcl,_⟩:=pt;obtain⟨o2,ho2,hc2,_⟩:=hit;rw[q]at ho;rw[ho2]at ho;rw[← Option.some.inj ho,hc2]at hcl;exact absurd (show Value.type "tuple_iterator"=Value.type "tuple" from hcl) (by decide)
  have hn:its.toArray[i]?=none:=by
   have h1:=rv.length;have h2:xs.length≤i:=hx;simp;omega
  have tE:st.TypeIs (.ref e) "enumerate":=⟨_,he,rfl⟩;unfold pyNext;refine wpAny_bind (wpAny_attempt (wpAny_callSpecial?_slot (name:=Str.ofString "__next__") tE F.slot_enumerate_next (wpAny_call_entry F.slot_enumerate_next tE F.entry_enumerate_next ?_ (F.args_enumerate_next_1 _))));show wpAny _ _ (field (.ref e) 2 >>= _) _ _ _;refine wpAny_bind (wpAny_field he rfl (x:=.ref it) rfl ?_);refine wpAny_bind (wpAny_nextOf_tuple_end (show X.A.in1.handled=none from I.ok.hd hc) hit pt hn fun g' ex eb ⟨ob,ho,hcl⟩=>?_);exact wpAny_bind (wpAny_isInstance (T:="StopIteration") (b:=true) ⟨ob,ho,hcl⟩ isSubtype_stop (wpAny_pure ⟨rfl,I.turned (t':=st.toks) (fun b o hb q=>eb b o hb q) hf1.1 hf1.2.1 hf1.2.2.2.1 hf1.2.2.2.2.1 hf1.2.2.2.2.2⟩))
 self:=by
  intro Ar i st Q E s1 k;obtain⟨⟨_,he⟩,_⟩:=s1;exact wpAny_pyIter_enum he k
end L2
namespace DL
open PySem PySem.Spec PyProof.Rows L2
def qsb (K:PySem.W.Frag) (tl:TE):TI:=fun σ H R=>tl σ H fun x H1=>(∃a,x=.ref a∧(∃xs,SqL K H1 a xs)∧R (qk7 K a) H1)∨(∃a,x=.ref a∧(∃xs,SqT K H1 a xs)∧R (ItE K a) H1)
def enP (K:PySem.W.Frag) (R:It→Hp→Prop):List V→Hp→Prop
 | [x],H1=>(∃a,x=.ref a∧(∃xs,SqL K H1 a xs)∧R (qk7 K a) H1)∨(∃a,x=.ref a∧(∃xs,SqT K H1 a xs)∧R (ItE K a) H1)
 | _,_=>False
theorem qhd {K:PySem.W.Frag} {R:It→Hp→Prop} {vs:List V} {H1:Hp} (h:enP K R vs H1):∃x,vs=[x]∧((∃a,x=.ref a∧(∃xs,SqL K H1 a xs)∧R (qk7 K a) H1)∨(∃a,x=.ref a∧(∃xs,SqT K H1 a xs)∧R (ItE K a) H1)):=by
 rcases vs with _ | ⟨x,_ | ⟨y,r⟩⟩
 ·exact h.elim
 ·exact⟨x,rfl,h⟩
 ·exact h.elim
theorem qiN {X:Cx} {l:Expr} {tl:TE} {p pos tp:Pos} {es:List Expr} {kq:Nat} (hg:Gl X "enumerate") (hm:X.mg "enumerate"=none) (hl:PE X l tl) (hs:starEach [l] X.env=[(false,eval l X.env)]:=by rfl) :
  PI X (.Tuple es kq tp) (.Call (.Name "enumerate" p) [l] [] pos) (qsb X.K tl):=by
 refine⟨fun pins s σ H R I h=>?_⟩;refine Call_ (ld_blt I hg hm boot_enumerate (PyProof.Rows.callWith_type1 (thn ((pa_cons hl pa_nil hs).run pos pins s σ H (enP X.K R) I h) fun us s1 ⟨vs,H1,I1,r1,q0⟩=>?_) hs rfl));obtain⟨x,ex,q1⟩:=qhd q0
 ·subst ex;cases r1 with
  | cons r rr=>
   cases rr;have fp:∀b:Addr,b∈[s1.heap.objs.size+1,s1.heap.objs.size]→FpOk X pins H1 b:=fun b hb=>by
    have hle:s1.heap.objs.size≤b:=by
     rcases List.mem_cons.mp hb with z | z
     ·rw[z];exact Nat.le_add_right _ _
     ·rw[List.mem_singleton.mp z];exact Nat.le_refl _
    exact I1.fpOk hle (I1.hok.fresh hle)
   rcases q1 with ⟨a,rfl,⟨xs,hq⟩,q⟩ | ⟨a,rfl,⟨xs,hq⟩,q⟩
   ·cases r;obtain⟨its,rv,pt,hz⟩:=I1.list hq;exact call_enumerate_list pt.isList fun g' he hit hsz hk=>wpAny_pyIter_enum he ⟨_,_,_,_,H1,rfl,I1.kept (t':=s1.toks) hk,qaB a (s1.heap.objs.size+1) s1.heap.objs.size,⟨⟨.none,he⟩,hit,Nat.succ_ne_self _⟩,fp,q⟩
   ·cases r;obtain⟨its,rv,pt,hz⟩:=I1.tuple hq;exact qex pt fun g' he hit hk=>wpAny_pyIter_enum he ⟨_,_,_,_,H1,rfl,I1.kept (t':=s1.toks) hk,qa9 a (s1.heap.objs.size+1) s1.heap.objs.size,⟨⟨.none,he⟩,hit,Nat.succ_ne_self _⟩,fp,q⟩
def Ms:Nat→List D→List D
 | _,[]=>[]
 | i,d::ds=>.tup [.int (i:Int),d]::Ms (i+1) ds
theorem zx:∀{ds:List D} {i n:Nat} {d:D},(Ms n ds)[i]?=some d→∃x,ds[i]?=some x∧d=.tup [.int ((n+i:Nat):Int),x]
 | [],_,_,_,h=>by cases h
 | x::ds,0,n,d,h=>⟨x,rfl,(Option.some.inj h).symm⟩
 | x::ds,i+1,n,d,h=>by
  obtain⟨y,e1,e2⟩:=zx (ds:=ds) (i:=i) (n:=n+1) (d:=d) h;exact⟨y,e1,by rw[e2,show n+1+i=n+(i+1) by omega]⟩
theorem zu:∀{ds:List D} {n:Nat},(Ms n ds).length=ds.length
 | [],_=>rfl
 | _::ds,n=>by rw[Ms,List.length_cons,List.length_cons,zu]
def enF:Option (D×Env)→Res (List D)
 | some (.lst ds,ρ2)=>.ok (Ms 0 ds) ρ2
 | some (.ro ds,ρ2)=>.ok (Ms 0 ds) ρ2
 | some (.tup ds,ρ2)=>.ok (Ms 0 ds) ρ2
 | _=>.bad
def kEn:X→Env→Res (List D):=fun x ρ1=>enF (fz ρ1 x)
def mEn (m:EM):IM:=fun ρ=>bindR (m ρ) kEn
section
variable {K:Kx} {W:WX}
theorem qc0 {G:Hp} {J:It} {ds:List D} {xs:List V} (q:DqA K G xs ds) (Sq:Hp→List V→Prop) (mono:∀G1 H1,Same G G1→Same G1 H1→Sq H1 xs)
  (go:∀i (H:Hp) x,Sq H xs→xs[i]?=some x→J.go i H) (st:∀(H:Hp),Sq H xs→J.stop xs.length H)
  (yl:∀i (H:Hp) v H' x,Sq H xs→xs[i]?=some x→J.yld i H v H'→qpD H v H' [.int (i:Nat),x]):Walk K G J (Ms 0 ds):=fun G1 H1 s1 s2=>by
 have hs:=mono G1 H1 s1 s2;refine⟨fun i d hd=>?_,?_⟩
 ·obtain⟨y,e1,e2⟩:=zx hd;obtain⟨u,h1,h2⟩:=q.get e1;refine⟨go i H1 u hs h1,fun v H' hy=>?_⟩;obtain⟨T,ob,hob,rfl,hT,rfl⟩:=yl i H1 v H' u hs h1 hy;have g:=Gro.new (o:=.frz ob (.tup [.int (i:Nat),u])) s2 hT;refine⟨_,g,?_⟩;rw[e2,Nat.zero_add];exact .tup (.inl ⟨ob,upd_same,hob⟩) (.cons (.int _) (.cons ((h2.mono s1).mono g.g) .nil))
 ·rw[zu,← q.length];exact st H1 hs
theorem qoB {t:TE} {m:EM} (ht:Yh K W t m):qds K W (qsb K t) (mEn m):=fun σ G H ρ R Q h=>by
 unfold mEn bindR at h;refine ht.fst R (fun x ρ1 e v G1 H1 S1 R1 x1=>?_) (fun e ρ1 q=>by rw[q]at h;exact h) (fun q=>by rw[q]at h;exact h);rw[e]at h;have h:=Ry.step S1 h;simp only at h;unfold kEn enF at h;have lists:∀{G2:Hp} {a:Addr} {xs:List V} {ds:List D},SqL K.k G2 a xs→DqA K G2 xs ds→Walk K G2 (qk7 K.k a) (Ms 0 ds):=fun {G2 a xs ds} hq ha=>
  qc0 ha (fun H ys=>SqL K.k H a ys) (fun G3 H3 s1 s2=>s2.seq (s1.seq hq)) (fun i H x hs hx=>⟨xs,x,hs,hx⟩) (fun H hs=>⟨xs,hs,Nat.le_refl _⟩) (fun i H v H' x hs hx ⟨y,e1,e4⟩=>by
   have:=e4 xs hs;rw[hx]at this;cases Option.some.inj this;exact e1)
 split at h
 ·rename_i ds ρ2 e2;obtain⟨G2,S2,R2,q2⟩:=Nn R1 x1 e2;have h:=Ry.step S2 h;cases q2 with
  | lst hq' ha=>
   rename_i a xs;have hq:SqL K.k G2 a xs:=.inl (.inl hq');exact .inl ⟨a,rfl,⟨xs,R2.same.seq hq⟩,h _ G2 H1 (Stp.refl _ _ _ _) R2 (lists hq ha)⟩
 ·rename_i ds ρ2 e2;obtain⟨G2,S2,R2,q2⟩:=Nn R1 x1 e2;have h:=Ry.step S2 h;cases q2 with
  | ro hq ha=>
   rename_i a xs;exact .inl ⟨a,rfl,⟨xs,R2.same.seq hq⟩,h _ G2 H1 (Stp.refl _ _ _ _) R2 (lists hq ha)⟩
 ·rename_i ds ρ2 e2;obtain⟨G2,S2,R2,q2⟩:=Nn R1 x1 e2;have h:=Ry.step S2 h;cases q2 with
  | tup hq ha=>
   rename_i a xs;refine .inr ⟨a,rfl,⟨xs,(Same.seqN R2.same hq).sq⟩,h _ G2 H1 (Stp.refl _ _ _ _) R2 ?_⟩;exact qc0 ha (fun H ys=>SqT K.k H a ys) (fun G3 H3 s1 s2=>(Same.seqN s2 (Same.seqN s1 hq)).sq) (fun i H x hs hx=>⟨xs,x,hs,hx⟩) (fun H hs=>⟨xs,hs,Nat.le_refl _⟩) (fun i H v H' x hs hx ⟨y,e1,e4⟩=>by
    have:=e4 xs hs;rw[hx]at this;cases Option.some.inj this;exact e1)
 ·exact h.elim
end
theorem qjO {X:Cx} {xa:Option XA} {W:WX} {l:Expr} {m:EM} {p pos tp:Pos} {es:List Expr} {kq:Nat} (hm:X.mg "enumerate"=none) (h:JE X xa W l m) (hg:Gl X "enumerate":=by rfl) (hs:starEach [l] X.env=[(false,eval l X.env)]:=by rfl) :
  JI X xa W (.Tuple es kq tp) (.Call (.Name "enumerate" p) [l] [] pos) (mEn m):=let ⟨_,h1,h2⟩:=h;⟨_,qiN hg hm h1 hs,qoB h2⟩
end DL
namespace L2
open PySem PySem.Spec PyProof.Rows HT
section
variable {pg:Program} {wd:World} {Ar:Around} {Ex:Value→Shared→Prop} {st:Shared}
theorem jz {sl:Addr} {v:Value} {n:Nat} {Qq:Int×Int×Nat→Shared→Prop} (hs:st.heap.IsSliceOf sl .none .none v) (pv:IsPart v (some (-1))) (k:Qq ((n:Int)-1,-1,n) st) :
  wpAny (model pg wd) Ar (Builtin.Slice.sliceApplied (.ref sl) (pure (n:Int))) Qq Ex st:=by
 obtain⟨ob,hos,hcs,hds⟩:=id hs;unfold Builtin.Slice.sliceApplied Builtin.Slice.sliceFields;refine wpAny_bind (wpAny_bind (wpAny_field hos hds (x:=Value.none) rfl (wpAny_bind (wpAny_field hos hds (x:=Value.none) rfl (wpAny_bind (wpAny_field hos hds (x:=v) rfl (wpAny_pure ?_)))))));refine wpAny_bind (slicePart_ pv ?_);show wpAny _ _ (if ((-1:Int) == 0)=true then _ else _) _ _ st;rw[if_neg (by decide)];refine wpAny_bind (slicePart_none (wpAny_bind (slicePart_none (wpAny_bind (wpAny_pure ?_)))));have e:Builtin.Slice.slicePlaces ((n:Int)-1) (-1) (-1)=n:=by
  unfold Builtin.Slice.slicePlaces;rw[if_neg (by decide)];by_cases q:(n:Int)-1 > -1
  ·rw[if_pos q,show (- -1:Int)=1 by decide,Int.ediv_one];omega
  ·rw[if_neg q];omega
 show wpAny _ _ (pure ((n:Int)-1,(-1:Int),Builtin.Slice.slicePlaces ((n:Int)-1) (-1) (-1))) _ _ st;rw[e];exact wpAny_pure k
theorem qcN {α β:Type} {f g:α→Option β}:∀{l:List α},(∀x∈l,f x=g x)→l.filterMap f=l.filterMap g
 | [],_=>rfl
 | x::l,h=>by
  rw[List.filterMap_cons,List.filterMap_cons,h x List.mem_cons_self,qcN fun y hy=>h y (List.mem_cons_of_mem _ hy)]
theorem qbS (xs:Array Value):((List.range xs.size).filterMap fun (m:Nat)=>xs[((xs.size:Int)-1+(m:Int)*(-1)).toNat]?).toArray=xs.toList.reverse.toArray:=by
 have h:=PySem.W.krv_all xs;rw[← h,← List.filterMap_reverse,← PySem.W.krv_range,List.filterMap_map];congr 1;refine qcN fun m hm=>?_;have hm:m<xs.size:=by simpa using hm
 show xs[((xs.size:Int)-1+(m:Int)*(-1)).toNat]?=xs[xs.size-1-m]?;rw[show ((xs.size:Int)-1+(m:Int)*(-1)).toNat=xs.size-1-m by omega]
theorem qfM {t sl:Addr} {its:Array Value} {v:Value} {Qq:Value→Shared→Prop} (ht:IsTup st.heap t its) (hs:st.heap.IsSliceOf sl .none .none v) (pv:IsPart v (some (-1)))
  (k:Qq (.ref st.heap.objs.size) { st with heap:=st.heap.push { cls:=.type "tuple",data:=.seq its.toList.reverse.toArray } }) (hz:its.size≤sizeLine):wpAny (model pg wd) Ar (getItem (.ref t) (.ref sl)) Qq Ex st:=by
 have hk:sizeOk (.seq its.toList.reverse.toArray):=by
  show its.toList.reverse.toArray.size≤sizeLine;rw[List.size_toArray,List.length_reverse,Array.length_toList];exact hz
 obtain⟨ob,hos,hcs,hds⟩:=id hs;have tS:st.TypeIs (.ref sl) "slice":=⟨ob,hos,hcs⟩;unfold getItem;try with_reducible refine wpAny_holding ?_
 first | refine wpAny_bind (wpAny_pure ?_) | skip
 refine wpAny_bind (wpAny_sequenceKey ht.typeIs (by decide) ?_);refine wpAny_bind (wpAny_callSpecial?_slot (name:=Str.ofString "__getitem__") ht.typeIs PyProof.Rows.slot_tuple_getitem (wpAny_call_entry PyProof.Rows.slot_tuple_getitem ht.typeIs entry_tuple_getitem ?_ (args_tuple_getitem _ _)));show wpAny _ _ (Builtin.Tuple.tupleItemsOf (.ref t) >>= _) _ _ st;refine wpAny_bind (tupleItemsOf_ ht (wpAny_bind (wpAny_typeOf tS ?_)));rw[if_pos (by decide)];refine wpAny_bind (jz hs pv ?_);have no:¬((((its.size:Int)-1) == 0 && (-1:Int) == 1 && its.size == its.size)=true):=by
  intro q;rw[Bool.and_eq_true,Bool.and_eq_true]at q;exact absurd q.1.2 (by decide)
 show wpAny _ _ (if (((its.size:Int)-1) == 0 && (-1:Int) == 1 && its.size == its.size)=true then _ else _) _ _ st;rw[if_neg no,qbS];first
  | exact wpAny_bind (m:=Builtin.Tuple.tupleExact _) (wpAny_newObj_type (wpAny_pure ⟨_,rfl,wpAny_pure k⟩) hk)
  | exact wpAny_bind (m:=Builtin.Tuple.tupleExact _) (wpAny_newObj_type (wpAny_bind (wpAny_pure (wpAny_pure ⟨_,rfl,wpAny_pure k⟩))) hk)
  | exact wpAny_bind (wpAny_bind (m:=Builtin.Tuple.tupleExact _) (wpAny_newObj_type (wpAny_pure (wpAny_pure ⟨_,rfl,wpAny_pure k⟩)) hk))
  | exact wpAny_bind (wpAny_bind (m:=Builtin.Tuple.tupleExact _) (wpAny_newObj_type (wpAny_pure ⟨_,rfl,wpAny_pure k⟩) hk))
end
end L2
namespace DL
open PySem PySem.Spec PyProof.Rows L2
def qm2 (K:PySem.W.Frag) (Q:VK) (x:V):Option Int→Hp→Prop:=fun o H2=>o=some (-1)∧((∃a xs,x=.ref a∧SqL K H2 a xs∧∀p,H2 p=none→Q (.ref p) (upd H2 p (.lst xs.reverse)))∨(∃a xs,x=.ref a∧SqT K H2 a xs∧qh2 H2 xs.reverse Q))
def qpU (K:PySem.W.Frag) (te:TE) (ts:TO):TE:=fun σ H Q=>te σ H fun x H1=>ts σ H1 (qm2 K Q x)
theorem qiO {X:Cx} {e:Expr} {te:TE} {ts:TO} {stp:Expr} {p3 pos:Pos} (he:PE X e te) (hs:PO X (some stp) ts)
  (hst:∀a b,subscripted (.Slice none none (some stp) p3) false (.ref a) (.ref b)=operate [.ref a,.ref b] (getItem (.ref a) (.ref b)):=by intro _ _;with_unfolding_all rfl):PE X (.Subscript e (.Slice none none (some stp) p3) pos) (qpU X.K te ts):=by
 refine⟨fun pins s σ H Q I h=>?_⟩;refine Subscript_ (thn (he.run pins s σ H _ I h) fun v s1 ⟨x,H1,I1,r1,q1⟩=>?_);refine wpAny_Slice (thn ((po_none (X:=X)).run pins s1 σ H1 (fun o H2=>o=none∧ts σ H2 (qm2 X.K Q x)) I1 ⟨rfl,q1⟩) fun vl s2 ⟨l,H2,I2,pl,el,q2⟩=>?_);subst el;refine thn ((po_none (X:=X)).run pins s2 σ H2 (fun o H3=>o=none∧ts σ H3 (qm2 X.K Q x)) I2 ⟨rfl,q2⟩) fun vu s3 ⟨u,H3,I3,pu,eu,q3⟩=>?_;subst eu;refine thn (hs.run pins s3 σ H3 _ I3 q3) fun vs s4 ⟨o,H4,I4,ps,eo,q⟩=>?_;subst eo;cases pl;cases pu;have I5:Inv X pins σ H4 { s4 with heap:=s4.heap.push { cls:=.type "slice",data:=.fields #[.none,.none,vs] } }:=I4.kept (t':=s4.toks) fun b ob q=>Heap.get?_push_of_some _ q;rcases q with ⟨a,xs,rfl,hx,q⟩ | ⟨a,xs,rfl,hx,q⟩
 ·cases r1;obtain⟨its,r,ht,hz⟩:=I5.list hx;have hlen:=r.length;show wpAny (model X.prog X.w) X.A (subscriptTail e (.Slice none none (some stp) p3) (.ref a) (.ref s4.heap.objs.size)) (EP X pins σ Q) X.xe { s4 with heap:=s4.heap.push { cls:=.type "slice",data:=.fields #[.none,.none,vs] } };refine tail_any (ops:=[.ref a,.ref s4.heap.objs.size]) ht.isList.typeIs (PySem.slot_list_getitem.lookup) ?_ (hst _ _);refine wpAny_getItem_list_slice ht.isList (Heap.IsSliceOf.new _ .none .none vs) .none .none ps (by decide) ?_ (by rw[List.size_toArray];omega);rw[PySem.W.krv_pick];refine⟨.ref _,_,I5.laid (t':=s4.toks) (o:=.lst xs.reverse) (fun b ob q=>Heap.get?_push_of_some _ q) (Nat.le_refl _) ?_,rfl,q _ (I5.hok.fresh (Nat.le_refl _))⟩;exact⟨by rw[List.length_reverse];exact hz,_,0,by simpa using r.reverse,Heap.get?_push_size _ rfl⟩
 ·cases r1;obtain⟨its,r,ht,hz⟩:=I5.tuple hx;have hlen:=r.length;show wpAny (model X.prog X.w) X.A (subscriptTail e (.Slice none none (some stp) p3) (.ref a) (.ref s4.heap.objs.size)) (EP X pins σ Q) X.xe { s4 with heap:=s4.heap.push { cls:=.type "slice",data:=.fields #[.none,.none,vs] } };refine tail_any (ops:=[.ref a,.ref s4.heap.objs.size]) ht.typeIs (PyProof.Rows.slot_tuple_getitem.lookup) ?_ (hst _ _);refine qfM ht (Heap.IsSliceOf.new _ .none .none vs) ps ?_ (by rw[List.size_toArray];omega);refine⟨.ref _,_,I5.laid (t':=s4.toks) (fun b ob q=>Heap.get?_push_of_some _ q) (Nat.le_refl _) ?_,rfl,q _ (tOb its.toArray.toList.reverse.toArray) rfl (I5.hok.fresh (Nat.le_refl _))⟩;exact⟨Heap.get?_push_size _ rfl,by rw[List.length_reverse];exact hz,_,by simpa using r.reverse,⟨_,Heap.get?_push_size _ rfl,rfl,_,rfl⟩⟩
def rvE (o:Option D) (st:Option Int) (ρ:Env):Res X:=match o with
 | some (.lst ds)=>if st=some (-1) then .ok (.d (.lst ds.reverse)) ρ else .bad
 | some (.ro ds)=>if st=some (-1) then .ok (.d (.lst ds.reverse)) ρ else .bad
 | some (.tup ds)=>if st=some (-1) then .ok (.d (.tup ds.reverse)) ρ else .bad
 | _=>.bad
def qef (x:X):Option Int→Env→Res X:=fun st ρ2=>rvE (look ρ2 x) st ρ2
def qeg (ms:OM):X→Env→Res X:=fun x ρ1=>bindR (ms ρ1) (qef x)
def qft (ma:EM) (ms:OM):EM:=fun ρ=>bindR (ma ρ) (qeg ms)
theorem DqA.rev {K:PySem.W.Frag} {G:Hp}:∀{xs:List V} {ds:List D},DqA K G xs ds→DqA K G xs.reverse ds.reverse
 | _,_,.nil=>.nil
 | _,_,.cons q t=>by
  rw[List.reverse_cons,List.reverse_cons];exact (DqA.rev t).append (.one q)
theorem qkk {K:Kx} {W:WX} {ta:TE} {ts:TO} {ma:EM} {ms:OM} (ha:Yh K W ta ma) (hs:qdq K W ts ms):Yh K W (qpU K ta ts) (qft ma ms):=fun σ G H ρ R Q h=>by
 unfold qft bindR at h;refine ha.fst R (fun x ρ1 e v G1 H1 S1 R1 x1=>?_) (fun e ρ1 q=>by rw[q]at h;exact h) (fun q=>by rw[q]at h;exact h);rw[e]at h;have h:=EPost.step S1 h;simp only at h;unfold qeg bindR at h;refine hs.fst R1 (fun st ρ4 e4 G4 H4 S4 R4=>?_) (fun e ρ1 q=>by rw[q]at h;exact h) (fun q=>by rw[q]at h;exact h);rw[e4]at h;have h:=EPost.step S4 h;simp only at h;unfold qef rvE at h;split at h
 ·rename_i ds ea;split at h
  ·rename_i es;have q:=J5 R4 (x1.mono S4.g) ea;obtain⟨a,xs,rfl,h1,h2⟩:=Gq R4.same q (ds:=ds) rfl;refine⟨es,.inl ⟨a,xs,rfl,h1,fun p hp=>?_⟩⟩;have g:=Gro.new (o:=.lst xs.reverse) R4.same hp;exact h _ _ _ g.stp (R4.gro g) (.lst upd_same (h2.rev.mono g.g))
  ·exact h.elim
 ·rename_i ds ea;split at h
  ·rename_i es;have q:=J5 R4 (x1.mono S4.g) ea;obtain⟨a,xs,rfl,h1,h2⟩:=Gq R4.same q (ds:=ds) rfl;refine⟨es,.inl ⟨a,xs,rfl,h1,fun p hp=>?_⟩⟩;have g:=Gro.new (o:=.lst xs.reverse) R4.same hp;exact h _ _ _ g.stp (R4.gro g) (.lst upd_same (h2.rev.mono g.g))
  ·exact h.elim
 ·rename_i ds ea;split at h
  ·rename_i es;have q:=J5 R4 (x1.mono S4.g) ea;obtain⟨a,xs,rfl,h1,h2⟩:=q.tup;refine⟨es,.inr ⟨a,xs,rfl,(Same.seqN R4.same h1).sq,fun p o ho hp=>?_⟩⟩;have g:=Gro.new (o:=.frz o (.tup xs.reverse)) R4.same hp;exact h _ _ _ g.stp (R4.gro g) (.tup (.inl ⟨o,upd_same,ho⟩) (h2.rev.mono g.g))
  ·exact h.elim
 ·exact h.elim
theorem qfc {X:Cx} {xa:Option XA} {W:WX} {a st:Expr} {p2 pos:Pos} {ma:EM} {os:OM} (ha:JE X xa W a ma) (hs:JO X xa W (some st) os)
  (hst:∀a b,subscripted (.Slice none none (some st) p2) false (.ref a) (.ref b)=operate [.ref a,.ref b] (getItem (.ref a) (.ref b)):=by intro _ _;with_unfolding_all rfl):JE X xa W (.Subscript a (.Slice none none (some st) p2) pos) (qft ma os):=
 let ⟨_,h1,h2⟩:=ha;let ⟨_,h7,h8⟩:=hs;⟨_,qiO h1 h7 hst,qkk h2 h8⟩
end DL
namespace DL
open PySem L2
section
variable {ρ ρ1 ρ2 ρ3 ρ4:Env} {e:Exn} {i j:Int} {a b d:D} {ds es:List D} {x:X}
@[simp] theorem qsP:qhB (.int i) (.int j)=some (.int (i+j)):=(rfl)
@[simp] theorem qrh {m:EM}:mEn m ρ=bindR (m ρ) kEn:=(rfl)
@[simp] theorem qrM:kEn x ρ=enF (fz ρ x):=(rfl)
@[simp] theorem qt8:enF (some (.lst ds,ρ))=.ok (Ms 0 ds) ρ:=(rfl)
@[simp] theorem qt7:enF (some (.tup ds,ρ))=.ok (Ms 0 ds) ρ:=(rfl)
@[simp] theorem qo7 {ma:EM} {ms:OM}:qft ma ms ρ=bindR (ma ρ) (qeg ms):=(rfl)
@[simp] theorem qlY {ms:OM}:qeg ms x ρ=bindR (ms ρ) (qef x):=(rfl)
@[simp] theorem qlX {st:Option Int}:qef x st ρ=rvE (look ρ x) st ρ:=(rfl)
@[simp] theorem qtc:rvE (some (.lst ds)) (some (-1)) ρ=.ok (.d (.lst ds.reverse)) ρ:=(rfl)
@[simp] theorem qtb:rvE (some (.tup ds)) (some (-1)) ρ=.ok (.d (.tup ds.reverse)) ρ:=(rfl)
end
end DL
namespace DL
open PySem PySem.Spec PyProof.Rows L2
structure PMs (X:Cx) (cs:List MatchCase) (t:V→TS):Prop where
 run:∀(first:Bool) (pins:List (Addr×Obj)) (s:Shared) (σ:L2.St) (H:Hp) (D:Ends) (v:V) (u:Value),Inv X pins σ H s→RelV v u→t v D σ H→wpAny (model X.prog X.w) X.A (matchCases cs X.env u first) (SP X pins D) X.xe s
section
variable {X:Cx}
def qdD (K:PySem.W.Frag) (x:Str) (tb:TS) (tr:V→TS):V→TS:=fun v D σ H=>rD2 K eqD v (.str x) H fun w H1=>∃b,w=.bl b∧if b=true then tb D σ H1 else tr v D σ H1
theorem qiH {x:Str} {j} {p p2:Pos} {body:List Stmt} {rest:List MatchCase} {tb:TS} {tr:V→TS} (hu:X.A.units+64<cLine) (hb:PSs X body tb) (hr:PMs X rest tr):PMs X (⟨.MatchValue (.Constant (.str x) j p) p2,none,body⟩::rest) (qdD X.K x tb tr):=by
 refine⟨fun first pins s σ H D v u I r h=>?_⟩;refine wpAny_matchCases_cons (wpAny_matchPattern_Value ?_);refine thn ((pe_str (X:=X) (x:=x) (j:=j) (pos:=p)).run pins s σ H (fun w H1=>w=.str x∧H1=H) I ⟨rfl,rfl⟩) fun xv s1 ⟨w,H1,I1,r1,ew,eH⟩=>?_;subst ew eH;refine thn (Q8 hu pins s1 σ H1 v (.str x) u xv _ I1 r r1 h) fun c s2 ⟨w2,H2,I2,r2,b,ew2,q⟩=>?_;subst ew2;cases r2;refine wpAny_truthy_bool ?_;cases b with
 | true=>exact wpAny_pure (hb.run pins s2 σ H2 D I2 q)
 | false=>exact hr.run false pins s2 σ H2 D v u I2 r q
def qii (tb:TS):V→TS:=fun _=>tb
theorem qiI {p:Pos} {body:List Stmt} {rest:List MatchCase} {tb:TS} (hb:PSs X body tb):PMs X (⟨.MatchAs none none p,none,body⟩::rest) (qii tb):=by
 refine⟨fun first pins s σ H D v u I r h=>?_⟩;refine wpAny_matchCases_cons (wpAny_matchPattern_Capture ?_);exact wpAny_pure (hb.run pins s σ H D I h)
def qeU (te:TE) (t:V→TS):TS:=fun D σ H=>te σ H fun v H1=>t v D σ H1
theorem qdR {e:Expr} {te:TE} {cs:List MatchCase} {t:V→TS} {pos:Pos} (he:PE X e te) (hc:PMs X cs t):PS X (.Match e cs pos) (qeU te t):=by
 refine⟨fun pins s σ H D I h=>?_⟩;exact wpAny_Match (thn (he.run pins s σ H _ I h) fun u s1 ⟨v,H1,I1,r1,q⟩=>hc.run true pins s1 σ H1 D v u I1 r1 q)
end
def qbp (n:Nat) (F:List L→FRes) (xs:List X) (ρ1:Env):Res X:=match Jx ρ1 xs with
 | none=>.bad
 | some as=>if xs.length=n∧(slots xs).Nodup then (match F as with
  | .ok (.d x) bs=>.ok (.d x) (Yd ρ1 xs as bs)
  | .ok (.m x) bs=>.ok (.d x) (Yd ρ1 xs as bs)
  | .ok _ _=>.bad
  | .ex e bs=>.ex e (Yd ρ1 xs as bs)
  | .bad=>.bad) else .bad
theorem xn {K:Kx} {W:WX} {n:Nat} {F:List L→FRes} {σ:L2.St} {G1 H1:Hp} {ρ1:Env} {vs:List V} {xs:List X} {Q:VK} (R1:Rel K σ G1 H1 ρ1) (x1:Nr K σ G1 vs xs) (h:EPost K W σ G1 H1 ρ1 Q (qbp n F xs ρ1)):spF K.k n F vs H1 Q (WE W σ):=by
 unfold qbp at h;split at h
 ·exact h.elim
 ·rename_i as ea;split at h
  ·rename_i hnn;have hnd:=hnn.2;refine⟨x1.len.trans hnn.1,G1,as,E3 R1 x1 ea hnd,?_⟩;cases eF:F as with
   | bad=>rw[eF]at h;exact h
   | ex x bs=>
    rw[eF]at h;intro c d G' H' S' R' q;obtain⟨a,b,_⟩:=Bj R1 x1 ea hnd S' R';exact h c d G' H' a b q
   | ok l bs=>
    rw[eF]at h;intro v G' H' S' R' q;obtain⟨a,b,o⟩:=Bj R1 x1 ea hnd S' R';cases l with
    | d x=>exact h v G' H' a b q
    | m x=>
     have F:Frs K σ H1 (Yd ρ1 xs as bs) G' H' v x:=⟨q.1,fun a ea=>⟨q.2 a ea,fun z=>Own.there R1 (o a z) (q.2 a ea)⟩⟩;obtain⟨G2,S2,R2,q2⟩:=Frs.lock a b F;exact h v G2 H' S2 R2 q2
    | r x=>exact h.elim
    | p x=>exact h.elim
    | xh=>exact h.elim
    | u _ _=>exact h.elim
  ·exact h.elim
structure MEnt (P:Program) (w:World) (K:PySem.W.Frag) (mg:Str→Option Value) (base:Heap) (k:Nat) (m:Str) (n:Nat) (C:Str) (R:List L→FRes):Prop where
 ex:∃f fd ps,Cls K (cA K C)∧Meth K (cA K C) m f∧FnOk P w K mg base (L2.CX P w) k f fd ps (spF K n R)∧Binds K fd ps []
def qfE (P:Program) (w:World) (K:PySem.W.Frag) (mg:Str→Option Value) (base:Heap) (k:Nat) (m:Str) (n:Nat) (tb:MTb):Prop:=∀q∈tb,MEnt P w K mg base k m n q.1 q.2
theorem qd5 {P:Program} {w:World} {K:PySem.W.Frag} {mg:Str→Option Value} {base:Heap} {k:Nat} {m:Str} {n:Nat}:qfE P w K mg base k m n []:=fun _ h=>nomatch h
theorem qb8 {P:Program} {w:World} {K:PySem.W.Frag} {mg:Str→Option Value} {base:Heap} {k:Nat} {m:Str} {n:Nat} {C:Str} {R:List L→FRes} {tb:MTb} (h:MEnt P w K mg base k m n C R) (t:qfE P w K mg base k m n tb):qfE P w K mg base k m n ((C,R)::tb):=fun q hq=>by
 rcases List.mem_cons.mp hq with rfl | hq
 ·exact h
 ·exact t q hq
theorem Ao {tb:MTb} {C:Str} {R:List L→FRes} (h:tb.lookup C=some R):(C,R)∈tb:=by
 induction tb with
 | nil=>cases h
 | cons q tb ih=>
  obtain⟨D,S⟩:=q;unfold List.lookup at h;split at h
  ·rename_i e;cases Option.some.inj h;rw[eq_of_beq e];exact List.mem_cons_self
  ·exact List.mem_cons_of_mem _ (ih h)
def qeT (K:PySem.W.Frag) (m:Str) (n:Nat) (tb:MTb) (E:L2.St→XK) (ta:TE) (t:TA):TE:=fun σ H Q=>ta σ H fun x H1=>∃a C R dx fs,x=.ref a∧H1 a=some (.ins (cA K C) dx fs)∧fs.lookup m=none∧tb.lookup C=some R∧t σ H1 fun vs H2=>spF K n R (x::vs) H2 Q (E σ)
section
variable {X:Cx} {xa:Option XA} {W:WX} {o e:Expr} {es:List Expr} {m:Str} {apos pos:Pos} {n k:Nat} {tb:MTb} {E:L2.St→XK} {ta:TE} {t:TA}
theorem qdV {pl:Sem Bool} (he:PE X o ta) (T:qfE X.prog X.w X.K X.mg X.base k m n tb) (hr:Room k X.A) (hx:∀σ,PassesAt (L2.CX X.prog X.w) X σ (E σ)) (ha:PA X (e::es) t)
  (hst:starEach (e::es) X.env=(false,eval e X.env)::starEach es X.env:=by rfl) (hpl:(backTo pos (starEach es X.env)).any (·.1)=false:=by rfl)
  (ht:eval (.Call (.Attribute o m apos) (e::es) [] pos) X.env=(do
   let ov ← eval o X.env
   standAt apos.atName
   let (f,first) ← holding [ov] (getMethod ov m pl)
   callWith pos f first (backTo pos (starEach (e::es) X.env)) (backToKw pos (keywordEach [] X.env))):=by rfl) :
  PE X (.Call (.Attribute o m apos) (e::es) [] pos) (qeT X.K m n tb E ta t):=by
 refine⟨fun pins s σ H Q I h=>?_⟩;refine PySem.W.methodCall_KW (pl:=pl) (thn (he.run pins s σ H _ I h) fun u s1 ⟨x,H1,I1,rx,a,C,R,dx,fs,ex,ea,l,eR,q⟩=>?_) ht;subst ex;obtain rfl:u=Value.ref a:=rx;obtain⟨f,fd,ps,hc,hm,F,hb⟩:=(T _ (Ao eR)).ex;refine getmeth_ok I1 ea hc hm l ?_;refine PySem.W.callWith_K (first:=[.ref a]) (h₀:=X.base) I.ok.mod.kin hm.kp (thn (ha.run pos pins s1 σ H1 _ I1 q) fun us s2 ⟨vs,H2,I2,r,q2⟩=>⟨I2.kIn,?_⟩) hst hpl;exact run_fnSD (us:=.ref a::us) (vs:=.ref a::vs) F hr hb .nil (hx σ) I2 (.cons rfl r) (by rw[List.append_nil];exact q2)
end
def Oz (n:Nat) (R:List L→FRes) (x:X):List X→Env→Res X:=fun xs ρ2=>qbp n R (x::xs) ρ2
def vz (tb:MTb) (m:Str) (n:Nat) (am:AM):X→Env→Res X:=fun x ρ1=>match look ρ1 x with
 | some (.ins C fs)=>(match tb.lookup C,fs.lookup m with
  | some R,none=>bindR (am ρ1) (Oz n R x)
  | _,_=>.bad)
 | _=>.bad
def yb (tb:MTb) (m:Str) (n:Nat) (ma:EM) (am:AM):EM:=fun ρ=>bindR (ma ρ) (vz tb m n am)
theorem DqF.lookN {K:PySem.W.Frag} {G:Hp} {m:Str}:∀{vs:List (Str×V)} {ds:List (Str×D)},DqF K G vs ds→ds.lookup m=none→vs.lookup m=none
 | _,_,.nil,_=>rfl
 | _,_,.cons (k:=k) _ t,e=>by
  unfold List.lookup at e ⊢;split at e
  ·cases e
  ·exact DqF.lookN t e
theorem qeu {K:Kx} {W:WX} {tb:MTb} {m:Str} {n:Nat} {ta:TE} {t:TA} {ma:EM} {am:AM} (ha:Yh K W ta ma) (hb:R8 K W t am):Yh K W (qeT K.k m n tb (WE W) ta t) (yb tb m n ma am):=fun σ G H ρ R Q h=>by
 unfold yb bindR at h;refine ha.fst R (fun x ρ1 e v G1 H1 S1 R1 x1=>?_) (fun e ρ1 q=>by rw[q]at h;exact h) (fun q=>by rw[q]at h;exact h);rw[e]at h;have h:=EPost.step S1 h;simp only at h;unfold vz at h;split at h
 ·rename_i C fs el;split at h
  ·rename_i Rr eR ef;have q:Vw K G1 H1 v (.ins C fs):=J5 R1 x1 el;obtain⟨_,_,_,rfl,q1,q2,q3⟩:=q;refine⟨_,C,Rr,_,_,rfl,q1,DqF.lookN q3 ef,eR,?_⟩;unfold bindR at h;refine hb.fst R1 (fun xs ρ2 e2 vs G2 H2 S2 R2 x2=>?_) (fun e ρ1 q=>by rw[q]at h;exact h) (fun q=>by rw[q]at h;exact h);rw[e2]at h;exact xn R2 (.cons (x1.mono S2.g) x2) (EPost.step S2 h)
  ·exact h.elim
 ·exact h.elim
theorem Az {X:Cx} {xa:Option XA} {W:WX} {o e:Expr} {es:List Expr} {m:Str} {apos pos:Pos} {n k:Nat} {tb:MTb} {ma:EM} {am:AM} (pl:Sem Bool) (T:qfE X.prog X.w X.K X.mg X.base k m n tb) (hr:Room k X.A) (tk:Takes X W) (ho:JE X xa W o ma) (ha:JA X xa W (e::es) am)
  (hst:starEach (e::es) X.env=(false,eval e X.env)::starEach es X.env:=by rfl) (hpl:(backTo pos (starEach es X.env)).any (·.1)=false:=by rfl)
  (ht:eval (.Call (.Attribute o m apos) (e::es) [] pos) X.env=(do
   let ov ← eval o X.env
   standAt apos.atName
   let (f,first) ← holding [ov] (getMethod ov m pl)
   callWith pos f first (backTo pos (starEach (e::es) X.env)) (backToKw pos (keywordEach [] X.env))):=by rfl):JE X xa W (.Call (.Attribute o m apos) (e::es) [] pos) (yb tb m n ma am):=
 let ⟨_,h1,h2⟩:=ho;let ⟨_,h3,h4⟩:=ha;⟨_,qdV (pl:=pl) h1 T hr (fun σ=>passAt tk σ) h3 hst hpl ht,qeu h2 h4⟩
structure FnM (P:Program) (w:World) (K:PySem.W.Frag) (mg:Str→Option Value) (base:Heap) (k:Nat) (C m:Str) (n:Nat) (R:List L→FRes):Prop where
 ex:∃fd ps,FnOk P w K mg base (L2.CX P w) k (maA K C m) fd ps (spF K n R)∧Binds K fd ps []
theorem qgG {P:Program} {w:World} {K:PySem.W.Frag} {mg:Str→Option Value} {base:Heap} {j k:Nat} {C C2 m:Str} {n:Nat} {R:List L→FRes} (c:Cls K (cA K C)) (h:Meth K (cA K C) m (maA K C2 m)) (F:FnM P w K mg base j C2 m n R) (hj:j≤k):MEnt P w K mg base k m n C R:=by
 obtain⟨fd,ps,F,hb⟩:=F.ex;exact⟨⟨_,fd,ps,c,h,F.mono hj,hb⟩⟩
theorem FnM.mono {P:Program} {w:World} {K:PySem.W.Frag} {mg:Str→Option Value} {base:Heap} {j k:Nat} {C m:Str} {n:Nat} {R:List L→FRes} (F:FnM P w K mg base j C m n R) (hj:j≤k):FnM P w K mg base k C m n R:=by
 obtain⟨fd,ps,F,hb⟩:=F.ex;exact⟨⟨fd,ps,F.mono hj,hb⟩⟩
theorem qcL {P:Program} {w:World} {K:PySem.W.Frag} {mg:Str→Option Value} {base:Heap} {C m x qual:Str} {st:Stmt} {N ps:List Str} {k:Nat} {body:SM} (F:∃fd,FunD K x qual (defArgs st) (defBody st) (defScope st) [] [] (maA K C m) fd) (S:FnScope N ps (defScope st))
  (hbind:∀(kV doc pm:Value) (an:Option Addr) (cdv ct:Value) (us:List Value),us.length=ps.length→bindArgs (PySem.W.fnOf x qual (defArgs st) (defBody st) (defScope st) .none kV doc pm an cdv ct) ⟨us,[]⟩=pure (ps.zip us))
  (hb:∀(cdv:Value) (A:Around) (outer:List PySem.Env) (s:Shared) (H:Hp) (E:XK),Room k (A.deeper (envOfC qual (defScope st) s.heap.objs.size (maA K C m) cdv))→
   JSs (cxOf (L2.CX P w) P w K mg base N qual (defScope st) (maA K C m) cdv A outer s H E) none (fun cls d _ H=>E cls d H) (defBody st) body) :
  FnM P w K mg base (k+1) C m ps.length (Q7 N.length body):=by
 obtain⟨fd,F⟩:=F;exact⟨⟨fd,ps,fn_ok (U6 F) S hb,(U6 F).binds hbind⟩⟩
theorem Eh {K:PySem.W.Frag} {C:Str} (q:qhq K C=true):Cls K (cA K C):=by
 unfold qhq at q;simp only[Bool.and_eq_true]at q;exact⟨q.1,q.2.1,q.2.2.1,He.eqO_ok q.2.2.2⟩
theorem qgB {K:PySem.W.Frag} {C m C2:Str} (q:qlD K C m C2=true):Meth K (cA K C) m (maA K C2 m):=by
 unfold qlD at q;simp only[Bool.and_eq_true]at q;exact⟨He.eqO_ok q.1,q.2.1,q.2.2⟩
def qiA (K:PySem.W.Frag):List V→Hp→VK→Prop:=fun vs H Q=>∃(a:Addr) (ns:List Int),vs=[V.ref a]∧SqT K H a (ns.map V.int)∧
 ∀(ns':List Int) (p:Addr),ns'.Perm ns→ns'.Pairwise (·≤·)→H p=none→Q (.ref p) (upd H p (.lst (ns'.map V.int)))
theorem qeJ {X:Cx}:CallR X (.builtin "sorted") (qiA X.K):=by
 intro pins s σ H vs us Q I r h;obtain⟨a,ns,rfl,hs,q⟩:=h;obtain⟨its,rv,ht,hz⟩:=I.tuple hs;obtain⟨o,ho,hc,n,hd⟩:=id ht;rw[Vals.ref1 r];have hi:=rv.ints;have hz':its.length≤sizeLine:=by rw[← rv.length];exact hz
 refine Calls.call_function_entry kind_sorted plain_sorted entry_sorted (args_sorted1 _) ?_;unfold Builtin.«sorted»;refine wpAny_bind (m:=checkCount "sorted" 1 1 _) (wpAny_pure ?_);refine wpAny_bind (wpAny_collect_seq a (.inr rfl) ho hc hd (fun h' hk=>?_) (by rw[List.size_toArray];exact hz'));have el:its.toArray.toList=its:=by simp
 rw[el];have I':Inv X pins σ H { s with heap:=h' }:=I.kept (t':=s.toks) hk;refine wpAny_bind (wpAny_newList ?_ hz');have hoL:(h'.push (seqObj "list" its.toArray 0)).get? h'.objs.size=some (seqObj "list" its.toArray 0):=Heap.get?_push_size _ rfl;refine wpAny_bind (wpAny_holding (wpAny_call_entry slot_list_sort ⟨_,hoL,rfl⟩ entry_list_sort
  (SrtO.list_sort_ord SrtO.swo_int hoL hz' (fun h2=>SrtO.ints_sortable hi h2) fun out h1 h2=>⟨_,rfl,?_⟩) (args_list_sort _)))
 obtain⟨k1,k2,k3⟩:=SrtO.ints_out hi h1 h2;obtain⟨ep,he'⟩:=sortedHeap_at (vs:=its) (out:=out.toArray) hoL;have hlen:((out.map SrtO.iv).map V.int).length≤sizeLine:=by
  rw[List.length_map,k2.length_eq];rw[List.length_map]at hz;exact hz
 refine wpAny_pure ⟨_,rfl,.ref _,upd H h'.objs.size (.lst ((out.map SrtO.iv).map V.int)),I'.laid (t':=s.toks) (fun b u e=>?_) (Nat.le_refl _) ⟨hlen,out,ep,vals_of_ints k1,he'⟩,rfl,q _ _ k2 k3 (I'.hok.fresh (Nat.le_refl _))⟩;have hlt:=Heap.lt_size e;show (sortedHeap (h'.push (seqObj "list" its.toArray 0)) h'.objs.size its out.toArray).get? b=some u;rw[sortedHeap_old (Nat.ne_of_lt hlt) (by rw[size_push'];exact Nat.lt_succ_of_lt hlt)];exact Heap.get?_push_of_some _ e
def insI (x:Int):List Int→List Int
 | []=>[x]
 | y::ys=>if x≤y then x::y::ys else y::insI x ys
def qdK:List Int→List Int
 | []=>[]
 | x::xs=>insI x (qdK xs)
theorem insI_perm (x:Int):∀ys:List Int,(insI x ys).Perm (x::ys)
 | []=>.refl _
 | y::ys=>by
  unfold insI;split
  ·exact .refl _
  ·exact ((insI_perm x ys).cons y).trans (.swap x y ys)
theorem Hx:∀xs:List Int,(qdK xs).Perm xs
 | []=>.refl _
 | x::xs=>(insI_perm x _).trans ((Hx xs).cons x)
theorem qac (x:Int):∀{ys:List Int},ys.Pairwise (·≤·)→(insI x ys).Pairwise (·≤·)
 | [],_=>List.pairwise_singleton _ _
 | y::ys,h=>by
  unfold insI;obtain⟨h1,h2⟩:=List.pairwise_cons.mp h;split
  ·rename_i hxy;refine List.pairwise_cons.mpr ⟨fun z hz=>?_,h⟩;rcases List.mem_cons.mp hz with rfl | hz
   ·exact hxy
   ·exact Int.le_trans hxy (h1 z hz)
  ·rename_i hxy;refine List.pairwise_cons.mpr ⟨fun z hz=>?_,qac x h2⟩;rcases List.mem_cons.mp ((insI_perm x ys).mem_iff.mp hz) with rfl | hz
   ·omega
   ·exact h1 z hz
theorem Iv:∀xs:List Int,(qdK xs).Pairwise (·≤·)
 | []=>List.Pairwise.nil
 | x::xs=>qac x (Iv xs)
theorem y6:∀{xs ys:List Int},xs.Perm ys→xs.Pairwise (·≤·)→ys.Pairwise (·≤·)→xs=ys
 | [],ys,p,_,_=>by rw[List.nil_perm.mp p]
 | x::xs,[],p,_,_=>nomatch (List.perm_nil.mp p)
 | x::xs,y::ys,p,h1,h2=>by
  obtain⟨a1,a2⟩:=List.pairwise_cons.mp h1;obtain⟨b1,b2⟩:=List.pairwise_cons.mp h2;have e:x=y:=by
   have hx:x∈y::ys:=p.mem_iff.mp List.mem_cons_self;have hy:y∈x::xs:=p.mem_iff.mpr List.mem_cons_self;rcases List.mem_cons.mp hx with e | hx
   ·exact e
   ·rcases List.mem_cons.mp hy with e | hy
    ·exact e.symm
    ·have:=a1 y hy;have:=b1 x hx;omega
  subst e;rw[y6 (p.cons_inv) a2 b2]
def Lr:List D→Option (List D)
 | [a]=>match qaE a with
  | some ds=>match T5 ds with
   | some ns=>some ((qdK ns).map .int)
   | none=>none
  | none=>none
 | _=>none
theorem Be {X:Cx}:CallR X (.builtin "sorted") (rFn X.K Lr):=by
 intro pins s σ H xs us Q I r h;obtain⟨G,as,d,sG,va,e,q⟩:=h;unfold Lr at e;split at e
 ·split at e
  ·rename_i ds es;split at e
   ·rename_i ns ei;cases Option.some.inj e;obtain⟨x,rfl,hx⟩:=Dm va;obtain⟨p,ys,rfl,h1,h2⟩:=Bp sG hx es;have ey:ys=ns.map V.int:=by
     have ed:=Nc ei;subst ed;exact h2.ints
    subst ey;have fin:∀(ns':List Int) (l:Addr),ns'.Perm ns→ns'.Pairwise (·≤·)→H l=none→Q (.ref l) (upd H l (.lst (ns'.map V.int))):=fun ns' l hp hw hl=>by
     have en:ns'=qdK ns:=y6 (hp.trans (Hx ns).symm) hw (Iv ns);subst en;exact q l _ hl (DqA.of_ints _)
    rcases h1 with h1 | h1
    ·exact cr_sortedI pins s σ H _ us Q I r ⟨p,ns,rfl,h1,fin⟩
    ·exact qeJ pins s σ H _ us Q I r ⟨p,ns,rfl,h1,fin⟩
   ·cases e
  ·cases e
 ·cases e
def qlR:Key→D
 | .inl i=>.int i
 | .inr x=>.str x
def qd9:List D→Option (List D)
 | [.dct kvs]=>some (kvs.map fun kv=>qlR kv.1)
 | [a]=>qaE a
 | _=>none
theorem DqK.keysA {K:PySem.W.Frag} {G:Hp}:∀{vs:List (Key×V)} {ds:List (Key×D)},DqK K G vs ds→DqA K G (vs.map fun kv=>kV kv.1) (ds.map fun kv=>qlR kv.1)
 | _,_,.nil=>.nil
 | _,_,.cons (k:=k) _ t=>by
  refine .cons ?_ (DqK.keysA t);cases k with
  | inl i=>exact .int i
  | inr x=>exact .str x
theorem qeK {X:Cx} (hc:X.calm=true):CallR X (.type "list") (rFn X.K qd9):=by
 intro pins s σ H xs us Q I r h;obtain⟨G,as,d,sG,va,e,q⟩:=h;unfold qd9 at e;split at e
 ·rename_i kvs;cases Option.some.inj e;obtain⟨x,rfl,hx⟩:=Dm va;obtain⟨p,ys,rfl,hp,hq⟩:=(show Vw X.K G H x (.dct kvs) from hx);exact call_list_dK hc pins s σ H _ us Q I r ⟨p,ys,rfl,hp,fun l hl=>q l _ hl hq.keysA⟩
 ·exact qeL pins s σ H xs us Q I r ⟨G,_,d,sG,va,e,q⟩
 ·cases e
def qk6 (K:Kx) (W:WX) (t:V→TS) (m:D→SM):Prop:=∀v d σ G H ρ,Rel K σ G H ρ→Dq K G v d→∀D,Z6 K W σ G H ρ D (m d ρ)→t v D σ H
def mcL (o:Option Bool) (mb mr:SM):SM:=fun ρ=>match o with
 | some true=>mb ρ
 | some false=>mr ρ
 | none=>.bad
def Px (x:Str) (mb:SM) (mr:D→SM):D→SM:=fun d=>mcL (eqB d (.str x)) mb (mr d)
def qaX (mb:SM):D→SM:=fun _=>mb
section
variable {K:Kx} {W:WX}
theorem qi9 {tb:TS} {mb:SM} (hb:Nt K W tb mb):qk6 K W (qii tb) (qaX mb):=fun v d σ G H ρ R q D h=>hb σ G H ρ R D h
theorem qb4 {x:Str} {tb:TS} {tr:V→TS} {mb:SM} {mr:D→SM} (hb:Nt K W tb mb) (hr:qk6 K W tr mr):qk6 K W (qdD K.k x tb tr) (Px x mb mr):=fun v d σ G H ρ R q D h=>by
 unfold Px mcL at h;cases e:eqB d (.str x) with
 | none=>rw[e]at h;exact h.elim
 | some c=>
  rw[e]at h;refine⟨G,d,.str x,.bl c,R.same,Dq.vw R.same q,Dq.vw R.same (.str x),by unfold eqD;rw[e];rfl,fun w G' H' g qw=>?_⟩;cases qw;refine⟨c,rfl,?_⟩;cases c with
  | true=>exact hb σ G' H' ρ (R.gro g) D (Z6.step g.stp h)
  | false=>exact hr v d σ G' H' ρ (R.gro g) (q.mono g.g) D (Z6.step g.stp h)
def qkL (ρ:Env):X→Option D
 | .d x=>some x
 | .s i=>match ρ[i]? with
  | some (some (.d x))=>some x
  | _=>none
def mtE (mc:D→SM) (o:Option D) (ρ:Env):Res Fl:=match o with
 | some d=>mc d ρ
 | none=>.bad
def kMt (mc:D→SM):X→Env→Res Fl:=fun x ρ1=>mtE mc (qkL ρ1 x) ρ1
def Bw (me:EM) (mc:D→SM):SM:=fun ρ=>bindR (me ρ) (kMt mc)
theorem qdJ {te:TE} {t:V→TS} {me:EM} {mc:D→SM} (he:Yh K W te me) (hc:qk6 K W t mc):Nt K W (qeU te t) (Bw me mc):=fun σ G H ρ R D h=>by
 unfold Bw bindR at h;refine he.fst R (fun x ρ1 e v G1 H1 S1 R1 x1=>?_) (fun e ρ1 q=>by rw[q]at h;exact Z6.x h) (fun q=>by rw[q]at h;exact h);rw[e]at h;have h:=Z6.step S1 h;simp only at h;unfold kMt mtE at h;cases ed:qkL ρ1 x with
 | none=>rw[ed]at h;exact h.elim
 | some d=>
  rw[ed]at h;refine hc v d σ G1 H1 ρ1 R1 ?_ D h;cases x with
  | d y=>
   cases Option.some.inj ed;exact x1
  | s i=>
   unfold qkL at ed;simp only at ed;split at ed
   ·rename_i y hy;cases Option.some.inj ed;obtain⟨u,h1,h2⟩:=R1.at_ i _ hy;have hv:σ[i]?=some (some v):=x1;rw[hv]at h1;cases Option.some.inj (Option.some.inj h1);exact h2
   ·cases ed
end
def JM (X:Cx) (xa:Option XA) (W:WX) (cs:List MatchCase) (m:D→SM):Prop:=∃t,PMs X cs t∧qk6 ⟨X.K,xa⟩ W t m
section
variable {X:Cx} {xa:Option XA} {W:WX} {e:Expr} {m:EM} {pos p p2:Pos} {body:List Stmt} {rest:List MatchCase} {mb:SM} {mr:D→SM} {x:Str} {j:Nat}
theorem N8 (hu:X.A.units+64<cLine) (hb:JSs X xa W body mb) (hr:JM X xa W rest mr):JM X xa W (⟨.MatchValue (.Constant (.str x) j p) p2,none,body⟩::rest) (Px x mb mr):=
 let ⟨_,a,b⟩:=hb;let ⟨_,c,d⟩:=hr;⟨_,qiH hu a c,qb4 b d⟩
theorem qcv (hb:JSs X xa W body mb):JM X xa W (⟨.MatchAs none none p,none,body⟩::rest) (qaX mb):=let ⟨_,a,b⟩:=hb;⟨_,qiI a,qi9 b⟩
theorem Aw {cs:List MatchCase} {mc:D→SM} (he:JE X xa W e m) (hc:JM X xa W cs mc):JS X xa W (.Match e cs pos) (Bw m mc):=let ⟨_,a,b⟩:=he;let ⟨_,c,d⟩:=hc;⟨_,qdR a c,qdJ b d⟩
end
theorem ja:bootBuiltins "sorted"=some (.builtin "sorted"):=by first | boot_by_name | rfl | kernel_rfl
mutual
theorem qbt {K:PySem.W.Frag}:∀{d:D} {u:Value},yw K u d=true→∃v,RelV v u∧∀G,Dq K G v d
 | .non,u,h=>by
  unfold yw at h;have h:=of_decide_eq_true h;exact⟨.non,h,fun G=>.non⟩
 | .bl b,u,h=>by
  unfold yw at h;have h:=of_decide_eq_true h;exact⟨.bl b,h,fun G=>.bl b⟩
 | .int i,u,h=>by
  unfold yw at h;split at h
  ·rename_i j t;have h:=of_decide_eq_true h;subst h;exact⟨.int i,⟨t,rfl⟩,fun G=>.int i⟩
  ·cases h
 | .str x,u,h=>by
  unfold yw at h;split at h
  ·rename_i y t;have h:=of_decide_eq_true h;subst h;exact⟨.str x,⟨t,rfl⟩,fun G=>.str x⟩
  ·cases h
 | .tup ds,u,h=>by
  unfold yw at h;split at h
  ·rename_i a;split at h
   ·rename_i o ho;rw[Bool.and_eq_true]at h;obtain⟨h1,h2⟩:=h;rw[Bool.and_eq_true]at h2;obtain⟨h0,h2⟩:=h2;split at h2
    ·rename_i its n hd;rw[Bool.and_eq_true]at h2;obtain⟨vs,r,q⟩:=yv h2.2;exact⟨.ref a,rfl,fun G=>.tup (.inr ⟨o,its,n,ho,of_decide_eq_true h1,Option.isNone_iff_eq_none.mp h0,hd,of_decide_eq_true h2.1,r⟩) (q G)⟩
    ·cases h2
   ·cases h
  ·cases h
 | .lst ds,u,h=>by simp[yw]at h
 | .ro ds,u,h=>by simp[yw]at h
 | .dct ds,u,h=>by simp[yw]at h
 | .ins _ _,u,h=>by simp[yw]at h
 | .dcT _,u,h=>by simp[yw]at h
theorem yv {K:PySem.W.Frag}:∀{ds:List D} {us:List Value},qbs K us ds=true→∃vs,Vals vs us∧∀G,DqA K G vs ds
 | [],us,h=>by
  unfold qbs at h;have h:=List.isEmpty_iff.mp h;subst h;exact⟨[],.nil,fun G=>.nil⟩
 | d::ds,us,h=>by
  unfold qbs at h;split at h
  ·rename_i u us;rw[Bool.and_eq_true]at h;obtain⟨v,r,q⟩:=qbt h.1;obtain⟨vs,r2,q2⟩:=yv h.2;exact⟨v::vs,.cons r r2,fun G=>.cons (q G) (q2 G)⟩
  ·cases h
end
structure CvC (K:PySem.W.Frag) (C f:Str) (d:D):Prop where
 ex:∃mc u v,ClX.CRead K (cA K C) mc∧ClX.CVal K (cA K C) mc f v u∧∀G,Dq K G v d
theorem qc6 {K:PySem.W.Frag} {C f:Str} {d:D} (c:cvB K C f d=true):CvC K C f d:=by
 unfold cvB at c;simp only[Bool.and_eq_true]at c;obtain⟨c1,c2,c3⟩:=c;split at c3
 ·rename_i u hu;obtain⟨v,r,q⟩:=qbt c3;exact⟨⟨_,u,v,⟨c1,He.eqO_ok c2⟩,⟨hu,r⟩,q⟩⟩
 ·cases c3
theorem qgT {X:Cx} {xa:Option XA} {W:WX} {C f:Str} {d:D} {p pos:Pos} (c:CvC X.K C f d) (hm:X.mg C=some (.ref (cA X.K C))) (hg:Gl X C:=by rfl) (hd:(C == ("__debug__" : Str))=false:=by decide) (hb:attributeBase (.Name C p) f X.env (eval (.Name C p) X.env)=eval (.Name C p) X.env:=by rfl) :
  JE X xa W (.Attribute (.Name C p) f pos) (eC d):=by
 obtain⟨mc,u,v,h1,h2,q⟩:=c.ex;exact⟨_,ClX.pe_cval (pe_glob (v:=.ref (cA X.K C)) hg hm rfl hd) hb,fun σ G H ρ R Q h=>⟨_,mc,v,u,rfl,h1,h2,h v G H (Stp.refl _ _ _ _) R (q G)⟩⟩
abbrev CTb:Type:=List (Str×D)
def qsV (K:PySem.W.Frag) (f:Str) (tb:CTb):Prop:=∀q∈tb,Cls K (cA K q.1)∧∃v u,L2.Con K (cA K q.1) f v u∧∀G,Dq K G v q.2
theorem qcf {tb:CTb} {C:Str} {d:D} (h:tb.lookup C=some d):(C,d)∈tb:=by
 induction tb with
 | nil=>cases h
 | cons q tb ih=>
  obtain⟨c,e⟩:=q;unfold List.lookup at h;split at h
  ·rename_i e1;cases Option.some.inj h;rw[eq_of_beq e1];exact List.mem_cons_self
  ·exact List.mem_cons_of_mem _ (ih h)
def ctG (o p:Option D) (ρ:Env):Res X:=match o,p with
 | some d,none=>.ok (.d d) ρ
 | _,_=>.bad
def ctF (tb:CTb) (f:Str) (o:Option D) (ρ:Env):Res X:=match o with
 | some (.ins C fs)=>ctG (tb.lookup C) (fs.lookup f) ρ
 | _=>.bad
def qrN (tb:CTb) (f:Str):X→Env→Res X:=fun x ρ1=>ctF tb f (look ρ1 x) ρ1
def qpg (tb:CTb) (f:Str) (m:EM):EM:=fun ρ=>bindR (m ρ) (qrN tb f)
theorem qku {K:Kx} {W:WX} {tb:CTb} {f:Str} {t:TE} {m:EM} (T:qsV K.k f tb) (ht:Yh K W t m):Yh K W (tCon K.k t f) (qpg tb f m):=fun σ G H ρ R Q h=>by
 unfold qpg bindR at h;refine ht.fst R (fun x ρ1 e v G1 H1 S1 R1 x1=>?_) (fun e ρ1 q=>by rw[q]at h;exact h) (fun q=>by rw[q]at h;exact h);rw[e]at h;have h:=EPost.step S1 h;simp only at h;unfold qrN ctF at h;split at h
 ·rename_i C fs el;unfold ctG at h;split at h
  ·rename_i d el2 ef;obtain⟨hc,w,u,hcon,q⟩:=T _ (qcf el2);have qv:Vw K G1 H1 v (.ins C fs):=J5 R1 x1 el;obtain⟨_,_,_,rfl,q1,q2,q3⟩:=qv;exact⟨_,_,_,_,w,u,rfl,q1,hc,hcon,DqF.lookN q3 ef,h w G1 H1 (Stp.refl _ _ _ _) R1 (q G1)⟩
  ·exact h.elim
 ·exact h.elim
theorem qrX {X:Cx} {xa:Option XA} {W:WX} {e:Expr} {f:Str} {m:EM} {pos:Pos} {tb:CTb} (T:qsV X.K f tb) (ha:JE X xa W e m) (hb:attributeBase e f X.env (eval e X.env)=eval e X.env:=by rfl):JE X xa W (.Attribute e f pos) (qpg tb f m):=
 let ⟨_,h1,h2⟩:=ha;⟨_,pe_con h1 hb,qku T h2⟩
structure IsiC (K:PySem.W.Frag) (C:Str):Prop where
 cl:Cls K (cA K C)
 ha:PySem.W.findIn K (.ref (cA K C)) "__class__"=some (some (.builtin "object.__class__"))
 hn:PySem.W.specialIn K (.builtin "object.__class__") "__get__"=some (some (.builtin "getset_descriptor.__get__"))
 htk:PySem.W.takesIn K (.builtin "object.__class__")=some true
 hm:PySem.W.mroIn K (cA K C) (.type "object")=some true
def qmx (K:PySem.W.Frag) (C:Str) (tb:ITb):Prop:=∀q∈tb,IsiC K q.1∧PySem.W.kitOne K (.ref (cA K q.1)) (.ref (cA K C))=some q.2
theorem qem {K:PySem.W.Frag} {C:Str} {tb:ITb} (c:tb.all (qgY K C)=true):qmx K C tb:=fun q hq=>by
 have c:=List.all_eq_true.mp c q hq;unfold qgY at c;simp only[Bool.and_eq_true]at c;obtain⟨c1,c2,c3,c4,c5,c6⟩:=c;exact⟨⟨Eh c1,He.eqO_ok c2,He.eqO_ok c3,of_decide_eq_true c4,of_decide_eq_true c5⟩,of_decide_eq_true c6⟩
theorem qce {tb:ITb} {C:Str} {d:Bool} (h:tb.lookup C=some d):(C,d)∈tb:=by
 induction tb with
 | nil=>cases h
 | cons q tb ih=>
  obtain⟨c,e⟩:=q;unfold List.lookup at h;split at h
  ·rename_i e1;cases Option.some.inj h;rw[eq_of_beq e1];exact List.mem_cons_self
  ·exact List.mem_cons_of_mem _ (ih h)
def iiG (o:Option Bool) (ρ:Env):Res X:=match o with
 | some b=>.ok (.d (.bl b)) ρ
 | none=>.bad
def iiF (tb:ITb) (o:Option D) (ρ:Env):Res X:=match o with
 | some (.ins C _)=>iiG (tb.lookup C) ρ
 | _=>.bad
def ql6 (tb:ITb):X→Env→Res X:=fun x ρ1=>iiF tb (look ρ1 x) ρ1
def qkF (tb:ITb) (m:EM):EM:=fun ρ=>bindR (m ρ) (ql6 tb)
theorem qkr {K:Kx} {W:WX} {tb:ITb} {C:Str} {t:TE} {m:EM} (T:qmx K.k C tb) (ht:Yh K W t m):Yh K W (tCB (rIsi K.k) (tCons t (tCons (tC (.ref (cA K.k C))) tNil))) (qkF tb m):=fun σ G H ρ R Q h=>by
 unfold qkF bindR at h;refine ht.fst R (fun x ρ1 e v G1 H1 S1 R1 x1=>?_) (fun e ρ1 q=>by rw[q]at h;exact h) (fun q=>by rw[q]at h;exact h);rw[e]at h;have h:=EPost.step S1 h;simp only at h;unfold ql6 iiF at h;split at h
 ·rename_i D fs el;unfold iiG at h;split at h
  ·rename_i b el2;obtain⟨hc,hk⟩:=T _ (qce el2);have qv:Vw K G1 H1 v (.ins D fs):=J5 R1 x1 el;obtain⟨_,_,_,rfl,q1,q2,q3⟩:=qv;exact⟨_,_,_,_,b,rfl,.own _,.base (.ins q1 hc.cl hc.ha hc.hn hc.htk hc.hm),hk,h _ _ _ (Stp.refl _ _ _ _) R1 (.bl b)⟩
  ·exact h.elim
 ·exact h.elim
theorem qjT {X:Cx} {xa:Option XA} {W:WX} {C:Str} {e:Expr} {m:EM} {tb:ITb} {p p' pos:Pos} (T:qmx X.K C tb) (hm:X.mg "isinstance"=none) (hC:X.mg C=some (.ref (cA X.K C))) (ha:JE X xa W e m)
  (hg:Gl X "isinstance":=by rfl) (hgC:Gl X C:=by rfl) (hdb:(C == ("__debug__" : Str))=false:=by decide)
  (he:starEach [e,.Name C p'] X.env=(false,eval e X.env)::starEach [.Name C p'] X.env:=by rfl) (he2:starEach [.Name C p'] X.env=(false,eval (.Name C p') X.env)::starEach [] X.env:=by rfl) (hpl:(backTo pos (starEach [.Name C p'] X.env)).any (·.1)=false:=by rfl) :
  JE X xa W (.Call (.Name "isinstance" p) [e,.Name C p'] [] pos) (qkF tb m):=
 let ⟨_,h1,h2⟩:=ha;⟨_,L2.pe_callB call_isi hg hm (by first | boot_by_name | rfl | kernel_rfl) (pa_cons h1 (pa_cons (pe_glob (v:=.ref (cA X.K C)) hgC hC rfl hdb) pa_nil he2) he) (by decide) (by decide) he hpl,qkr T h2⟩
structure FldC (K:PySem.W.Frag) (C f:Str):Prop where
 cl:Cls K (cA K C)
 no:NoAttr K (cA K C) f
def qbq (K:PySem.W.Frag) (f:Str) (cs:List Str):Prop:=∀C∈cs,FldC K C f
theorem Rv {K:PySem.W.Frag} {f:Str} {cs:List Str} (c:cs.all (qes K f)=true):qbq K f cs:=fun C hC=>by
 have c:=List.all_eq_true.mp c C hC;unfold qes at c;rw[Bool.and_eq_true]at c;exact⟨Eh c.1,He.eqO_ok c.2⟩
def fdG (o:Option D) (ρ:Env):Res X:=match o with
 | some d=>.ok (.d d) ρ
 | none=>.bad
def fdF (cs:List Str) (f:Str) (o:Option D) (ρ:Env):Res X:=match o with
 | some (.ins C fs)=>if C∈cs then fdG (fs.lookup f) ρ else .bad
 | _=>.bad
def ql7 (cs:List Str) (f:Str):X→Env→Res X:=fun x ρ1=>fdF cs f (look ρ1 x) ρ1
def Ma (cs:List Str) (f:Str) (m:EM):EM:=fun ρ=>bindR (m ρ) (ql7 cs f)
theorem DqF.lookS {K:PySem.W.Frag} {G:Hp} {m:Str} {d:D}:∀{vs:List (Str×V)} {ds:List (Str×D)},DqF K G vs ds→ds.lookup m=some d→∃v,vs.lookup m=some v∧Dq K G v d
 | _,_,.nil,e=>by cases e
 | _,_,.cons (k:=k) h t,e=>by
  unfold List.lookup at e ⊢;split at e
  ·cases Option.some.inj e;exact⟨_,rfl,h⟩
  ·exact DqF.lookS t e
theorem qkt {K:Kx} {W:WX} {cs:List Str} {f:Str} {t:TE} {m:EM} (T:qbq K.k f cs) (ht:Yh K W t m):Yh K W (tFld K.k t f) (Ma cs f m):=fun σ G H ρ R Q h=>by
 unfold Ma bindR at h;refine ht.fst R (fun x ρ1 e v G1 H1 S1 R1 x1=>?_) (fun e ρ1 q=>by rw[q]at h;exact h) (fun q=>by rw[q]at h;exact h);rw[e]at h;have h:=EPost.step S1 h;simp only at h;unfold ql7 fdF at h;split at h
 ·rename_i C fs el;split at h
  ·rename_i hC;unfold fdG at h;split at h
   ·rename_i d ef;have qv:Vw K G1 H1 v (.ins C fs):=J5 R1 x1 el;obtain⟨_,_,_,rfl,q1,q2,q3⟩:=qv;obtain⟨u,e1,e2⟩:=q3.lookS ef;exact⟨_,_,_,_,u,rfl,q1,(T C hC).cl,(T C hC).no,e1,h u G1 H1 (Stp.refl _ _ _ _) R1 e2⟩
   ·exact h.elim
  ·exact h.elim
 ·exact h.elim
theorem Jg {X:Cx} {xa:Option XA} {W:WX} {e:Expr} {f:Str} {m:EM} {pos:Pos} {cs:List Str} (T:qbq X.K f cs) (ha:JE X xa W e m) (hb:attributeBase e f X.env (eval e X.env)=eval e X.env:=by rfl):JE X xa W (.Attribute e f pos) (Ma cs f m):=
 let ⟨_,h1,h2⟩:=ha;⟨_,pe_fld h1 hb,qkt T h2⟩
def putD (f:Str) (v:D):List (Str×D)→List (Str×D)
 | []=>[(f,v)]
 | (g,x)::r=>if g=f then (g,v)::r else (g,x)::putD f v r
theorem DqF.put {K:PySem.W.Frag} {G:Hp} {f:Str} {v:V} {d:D} (q:Dq K G v d):∀{vs:List (Str×V)} {ds:List (Str×D)},DqF K G vs ds→DqF K G (putF f v vs) (putD f d ds)
 | _,_,.nil=>.cons q .nil
 | _,_,.cons (k:=k) h t=>by
  unfold putF putD;split
  ·exact .cons q t
  ·exact .cons h (DqF.put q t)
theorem DqF.len {K:PySem.W.Frag} {G:Hp}:∀{vs:List (Str×V)} {ds:List (Str×D)},DqF K G vs ds→vs.length=ds.length
 | _,_,.nil=>rfl
 | _,_,.cons _ t=>by simp[DqF.len t]
def qng (ρ:Env) (i:Nat):Option (L×Str×List (Str×D)):=match ρ[i]? with
 | some (some (.m (.ins C fs)))=>some (.m (.ins C fs),C,fs)
 | some (some (.r (.ins C fs)))=>some (.r (.ins C fs),C,fs)
 | _=>none
theorem qgo {K:Kx} {σ:L2.St} {G H:Hp} {ρ:Env} {i:Nat} {l:L} {C:Str} {fs:List (Str×D)} (R:Rel K σ G H ρ) (h:qng ρ i=some (l,C,fs)) :
  ρ[i]?=some (some l)∧l.own=true∧∃a dx xs,σ[i]?=some (some (.ref a))∧G a=none∧H a=some (.ins (cA K C) dx xs)∧G dx=some (.own a)∧DqF K G xs fs:=by
 unfold qng at h;split at h
 ·rename_i C' es he;cases Option.some.inj h;obtain⟨v,h1,h2⟩:=R.at_ i _ he;obtain⟨a,dx,xs,rfl,h3,h4,h5,h6⟩:=(show MOk K G H v (.ins C fs) from h2);exact⟨he,rfl,a,dx,xs,h1,h3,h4,h5,h6⟩
 ·rename_i C' es he;cases Option.some.inj h;obtain⟨v,h1,h2⟩:=R.at_ i _ he;obtain⟨a,dx,xs,rfl,h3,h4,h5,h6⟩:=(show MOk K G H v (.ins C fs) from h2);exact⟨he,rfl,a,dx,xs,h1,h3,h4,h5,h6⟩
 ·cases h
def qco (cs:List Str) (f:Str) (i:Nat) (d:D) (ρ2:Env):Res Fl:=match qng ρ2 i with
 | some (l,C,fs)=>if C∈cs∧fs.length<900 then .ok .nx (ρ2.set i (some (l.put (.ins C (putD f d fs))))) else .bad
 | none=>.bad
def Bv (cs:List Str) (f:Str) (i:Nat) (m:EM):SM:=fun ρ=>bindR (m ρ) fun x ρ1=>match fz ρ1 x with
 | some (d,ρ2)=>qco cs f i d ρ2
 | none=>.bad
theorem qfW {K:Kx} {W:WX} {cs:List Str} {f:Str} {i:Nat} {t:TE} {m:EM} (T:qbq K.k f cs) (ht:Yh K W t m):Nt K W (sFld K.k (tVar i) t f) (Bv cs f i m):=fun σ G H ρ R D h=>by
 unfold Bv bindR at h;refine ht.fst R (fun x ρ1 e v G1 H1 S1 R1 x1=>?_) (fun e ρ1 q=>by rw[q]at h;exact Z6.x h) (fun q=>by rw[q]at h;exact h);rw[e]at h;have h:=Z6.step S1 h;simp only at h;split at h
 ·rename_i d ρ2 e2;obtain⟨G2,S2,R2,q2⟩:=Nn R1 x1 e2;have h:=Z6.step S2 h;unfold qco at h;split at h
  ·rename_i l C fs eo;split at h
   ·rename_i hC;obtain⟨k1,k2,a,dx,xs,hv,hG,hH,hd,hq⟩:=qgo R2 eo;refine⟨_,hv,a,_,dx,xs,rfl,hH,(T C hC.1).cl,(T C hC.1).no,by rw[hq.len];omega,?_⟩;have hne:dx≠a:=fun z=>by rw[z,hG]at hd;cases hd
    obtain⟨S3,R3⟩:=E7 (x':=.ins C (putD f d fs)) (o:=.ins (cA K C) dx (putF f v xs)) R2 k1 k2 hv ⟨a,dx,_,rfl,hG,upd_same,hd,hq.put q2⟩;exact h _ _ _ S3 R3
   ·exact h.elim
  ·exact h.elim
 ·exact h.elim
theorem Ru {X:Cx} {xa:Option XA} {W:WX} {e:Expr} {f x:Str} {i:Nat} {m:EM} {p p' pos:Pos} {cs:List Str} (T:qbq X.K f cs) (h:JE X xa W e m) (hi:X.N[i]?=some x:=by rfl) (hv:Vis X.env.scope x:=by first | exact .inl rfl | exact .inr (.inl rfl) | exact .inr (.inr rfl)) (hd:(x == ("__debug__" : Str))=false:=by decide) (hcd:(x == ("__classdict__" : Str))=false:=by decide)
  (hs:swapsWith e (some (.Attribute (.Name x p) f p')) pos.line X.env=pure false:=by rfl):JS X xa W (.Assign [.Attribute (.Name x p) f p'] e pos) (Bv cs f i m):=
 let ⟨_,h1,h2⟩:=h;⟨_,ps_fld (pe_var hi hv hd hcd) h1 hs,qfW T h2⟩
theorem Own.push {σ:L2.St} {ρ:Env} {v:V} {l:L} {a:Addr} (hl:σ.length=ρ.length) (h:Own (σ++[some v]) (ρ++[some l]) a):Own σ ρ a∨(l.own=true∧v=.ref a):=by
 obtain⟨i,l',h1,h2,h3⟩:=h;by_cases hi:i < ρ.length
 ·rw[List.getElem?_append_left hi]at h1;rw[List.getElem?_append_left (by omega)]at h3;exact .inl ⟨i,l',h1,h2,h3⟩
 ·have hi2:i=ρ.length:=by
   have:=(List.getElem?_eq_some_iff.mp h1).1;simp at this;omega
  subst hi2;rw[List.getElem?_append_right (Nat.le_refl _)]at h1;rw[← hl,List.getElem?_append_right (Nat.le_refl _)]at h3;simp at h1 h3;subst h1;exact .inr ⟨h2,h3⟩
theorem Ss.push {σ:L2.St} {ρ:Env} {v:V} {l:L} {a:Addr} (hl:σ.length=ρ.length) (h:Ss (σ++[some v]) (ρ++[some l]) a):Ss σ ρ a∨(l.own=true∧v=.ref a):=by
 obtain⟨i,l',h1,h2,h3⟩:=h;by_cases hi:i < ρ.length
 ·rw[List.getElem?_append_left hi]at h1;rw[List.getElem?_append_left (by omega)]at h3;exact .inl ⟨i,l',h1,h2,h3⟩
 ·have hi2:i=ρ.length:=by
   have:=(List.getElem?_eq_some_iff.mp h1).1;simp at this;omega
  subst hi2;rw[List.getElem?_append_right (Nat.le_refl _)]at h1;rw[← hl,List.getElem?_append_right (Nat.le_refl _)]at h3;simp at h1 h3;subst h1;have ho:l.own=true:=by
   cases l;all_goals first
    | rfl
    | cases h2
  exact .inr ⟨ho,h3⟩
theorem Own.pushL {σ:L2.St} {ρ:Env} {v:V} {l:L} {a:Addr} (hl:σ.length=ρ.length) (h:Own σ ρ a):Own (σ++[some v]) (ρ++[some l]) a:=by
 obtain⟨i,l',h1,h2,h3⟩:=h;have hi:=(List.getElem?_eq_some_iff.mp h1).1;exact⟨i,l',by rw[List.getElem?_append_left hi];exact h1,h2,by rw[List.getElem?_append_left (by omega)];exact h3⟩
theorem Ss.pushL {σ:L2.St} {ρ:Env} {v:V} {l:L} {a:Addr} (hl:σ.length=ρ.length) (h:Ss σ ρ a):Ss (σ++[some v]) (ρ++[some l]) a:=by
 obtain⟨i,l',h1,h2,h3⟩:=h;have hi:=(List.getElem?_eq_some_iff.mp h1).1;exact⟨i,l',by rw[List.getElem?_append_left hi];exact h1,h2,by rw[List.getElem?_append_left (by omega)];exact h3⟩
theorem Rel.push {K:Kx} {σ:L2.St} {G H:Hp} {ρ:Env} {v:V} {y:D} (R:Rel K σ G H ρ) (m:MOk K G H v y) (hn:∀a,v=.ref a→¬Own σ ρ a):Rel K (σ++[some v]) G H (ρ++[some (.m y)]):=by
 have hl:=R.len;refine⟨R.same,by simp[hl],fun i l e=>?_,R.exo,fun i j l l' a hij e1 e2 o1 o2 e3 e4=>?_⟩
 ·by_cases hi:i < ρ.length
  ·rw[List.getElem?_append_left hi]at e;obtain⟨u,h1,h2⟩:=R.at_ i l e;exact⟨u,by rw[List.getElem?_append_left (by omega)];exact h1,h2⟩
  ·have hi2:i=ρ.length:=by
    have:=(List.getElem?_eq_some_iff.mp e).1;simp at this;omega
   subst hi2;rw[List.getElem?_append_right (Nat.le_refl _)]at e;simp at e;subst e;exact⟨v,by rw[← hl,List.getElem?_append_right (Nat.le_refl _)];simp,m⟩
 ·have at':∀{i:Nat} {l:L},(ρ++[some (L.m y)])[i]?=some (some l)→(σ++[some v])[i]?=some (some (.ref a))→(i < ρ.length∧ρ[i]?=some (some l)∧σ[i]?=some (some (.ref a)))∨(i=ρ.length∧v=.ref a):=fun {i l} h1 h3=>by
   by_cases hi:i < ρ.length
   ·rw[List.getElem?_append_left hi]at h1;rw[List.getElem?_append_left (by omega)]at h3;exact .inl ⟨hi,h1,h3⟩
   ·have hi2:i=ρ.length:=by
     have:=(List.getElem?_eq_some_iff.mp h1).1;simp at this;omega
    subst hi2;rw[← hl,List.getElem?_append_right (Nat.le_refl _)]at h3;simp at h3;exact .inr ⟨rfl,h3⟩
  rcases at' e1 e3 with ⟨_,p1,p2⟩ | ⟨p1,p2⟩
  ·rcases at' e2 e4 with ⟨_,q1,q2⟩ | ⟨q1,q2⟩
   ·exact R.sep i j l l' a hij p1 q1 o1 o2 p2 q2
   ·exact hn a q2 ⟨i,l,p1,o1,p2⟩
  ·rcases at' e2 e4 with ⟨_,q1,q2⟩ | ⟨q1,q2⟩
   ·exact hn a p2 ⟨j,l',q1,o2,q2⟩
   ·exact hij (p1.trans q1.symm)
theorem Rel.pop {K:Kx} {σ:L2.St} {G H:Hp} {ρ:Env} {v:V} {y:D} (hl:σ.length=ρ.length) (R:Rel K (σ++[some v]) G H (ρ++[some (.m y)])):Rel K σ G H ρ∧MOk K G H v y∧∀a,v=.ref a→¬Own σ ρ a:=by
 have last:(ρ++[some (L.m y)])[ρ.length]?=some (some (L.m y)):=by rw[List.getElem?_append_right (Nat.le_refl _)];simp
 have lastS:(σ++[some v])[ρ.length]?=some (some v):=by rw[← hl,List.getElem?_append_right (Nat.le_refl _)];simp
 refine⟨⟨R.same,hl,fun i l e=>?_,R.exo,fun i j l l' a hij e1 e2 o1 o2 e3 e4=>?_⟩,?_,fun a ea ⟨i,l,h1,h2,h3⟩=>?_⟩
 ·have hi:=(List.getElem?_eq_some_iff.mp e).1;obtain⟨u,h1,h2⟩:=R.at_ i l (by rw[List.getElem?_append_left hi];exact e);rw[List.getElem?_append_left (by omega)]at h1;exact⟨u,h1,h2⟩
 ·have hi:=(List.getElem?_eq_some_iff.mp e1).1;have hj:=(List.getElem?_eq_some_iff.mp e2).1;refine R.sep i j l l' a hij ?_ ?_ o1 o2 ?_ ?_
  ·rw[List.getElem?_append_left hi];exact e1
  ·rw[List.getElem?_append_left hj];exact e2
  ·rw[List.getElem?_append_left (by omega)];exact e3
  ·rw[List.getElem?_append_left (by omega)];exact e4
 ·obtain⟨u,h1,h2⟩:=R.at_ _ _ last;rw[lastS]at h1;cases Option.some.inj (Option.some.inj h1);exact h2
 ·subst ea;have hi:=(List.getElem?_eq_some_iff.mp h1).1;refine R.sep i ρ.length l (.m y) a (by omega) ?_ last h2 rfl ?_ lastS
  ·rw[List.getElem?_append_left hi];exact h1
  ·rw[List.getElem?_append_left (by omega)];exact h3
theorem Stp.pop {σ:L2.St} {ρ1 ρ2:Env} {G1 H1 G2 H2 G' H':Hp} {x:Addr} {y z:D} (hl:σ.length=ρ1.length) (hl2:σ.length=ρ2.length) (g:Gro G1 H1 G2 H2) (hx:H1 x=none)
  (S:Stp (σ++[some (.ref x)]) (ρ1++[some (.m z)]) G2 H2 (σ++[some (.ref x)]) (ρ2++[some (.m y)]) G' H'):Stp σ ρ1 G1 H1 σ ρ2 G' H':=by
 have oX:∀{a:Addr},Own (σ++[some (V.ref x)]) (ρ1++[some (L.m z)]) a→Own σ ρ1 a∨H1 a=none:=fun {a} h=>by
  rcases Own.push hl h with h | ⟨_,e⟩
  ·exact .inl h
  ·cases e;exact .inr hx
 have oM:∀{a:Addr},Ss (σ++[some (V.ref x)]) (ρ1++[some (L.m z)]) a→Ss σ ρ1 a∨H1 a=none:=fun {a} h=>by
  rcases Ss.push hl h with h | ⟨_,e⟩
  ·exact .inl h
  ·cases e;exact .inr hx
 refine⟨g.g.trans S.g,fun a o h=>?_,fun a o h n=>?_,fun a h=>?_,fun a h=>?_,fun a h=>?_,fun i u h=>?_⟩
 ·rcases S.gf a o h with h | h | h
  ·rcases g.gf a o h with h | h
   ·exact .inl h
   ·exact .inr (.inl h)
  ·exact .inr (.inl (g.h.free h))
  ·rcases oM h with h | h
   ·exact .inr (.inr h)
   ·exact .inr (.inl h)
 ·refine S.fr a o (g.h a o h) fun q=>?_;rcases oX q with q | q
  ·exact n q
  ·rw[h]at q;cases q
 ·obtain⟨o,ho⟩:∃o,H1 a=some o:=by
   cases q:H1 a with
   | none=>exact absurd q h
   | some o=>exact⟨o,rfl⟩
  exact S.hn a (by rw[g.h a o ho];exact fun q=>nomatch q)
 ·rcases S.ow a (h.pushL hl2) with h | h
  ·exact oX h
  ·exact .inr (g.h.free h)
 ·rcases S.om a (h.pushL hl2) with h | h
  ·exact oM h
  ·exact .inr (g.h.free h)
 ·have hi:=(List.getElem?_eq_some_iff.mp h).1;obtain⟨_,w,h2⟩:=S.pin i u (by rw[List.getElem?_append_left hi];exact h);rw[List.getElem?_append_left (by omega)]at h2;exact⟨rfl,w,h2⟩
theorem qaW {ρ:Env} {l:Option L} {x:X} {a:L} (h:mkArg ρ x=some a):mkArg (ρ++[l]) x=some a∧∀i,x=.s i→i < ρ.length:=by
 cases x with
 | d y=>exact⟨h,fun i z=>nomatch z⟩
 | s i=>
  have hi:i < ρ.length:=by
   rcases Nat.lt_or_ge i ρ.length with q | q
   ·exact q
   ·unfold mkArg at h;simp only[List.getElem?_eq_none q]at h;cases h
  refine⟨?_,fun j z=>by cases z;exact hi⟩;unfold mkArg at h ⊢;simp only[List.getElem?_append_left hi];exact h
theorem Fg {ρ:Env} {l:Option L}:∀{xs:List X} {as:List L},Jx ρ xs=some as→Jx (ρ++[l]) xs=some as∧∀i∈slots xs,i < ρ.length
 | [],as,h=>⟨h,fun i hi=>by simp[slots]at hi⟩
 | x::xs,as,h=>by
  unfold Jx at h;split at h
  ·rename_i a as' e1 e2;cases Option.some.inj h;obtain⟨p1,p2⟩:=qaW (l:=l) e1;obtain⟨q1,q2⟩:=Fg (l:=l) e2;refine⟨by unfold Jx;rw[p1,q1],fun i hi=>?_⟩;cases x with
   | d y=>exact q2 i hi
   | s j=>
    rcases List.mem_cons.mp (show i∈j::slots xs from hi) with rfl | hi
    ·exact p2 _ rfl
    ·exact q2 i hi
  ·cases h
theorem qbM {ρ:Env} {l:Option L} {i:Nat} {y:D} (h:i < ρ.length):putS (ρ++[l]) i y=putS ρ i y++[l]:=by
 unfold putS;rw[List.getElem?_append_left h];rcases ρ[i]? with _ | _ | l0
 ·rfl
 ·rfl
 ·show (ρ++[l]).set i (some (l0.put y))=ρ.set i (some (l0.put y))++[l];rw[List.set_append_left _ _ h]
theorem qdP {ρ:Env} {i:Nat} {y:D}:(putS ρ i y).length=ρ.length:=by
 unfold putS;split
 ·rw[List.length_set]
 ·rfl
theorem Tu {l:Option L}:∀{xs:List X} {as bs:List L} {ρ:Env},(∀i∈slots xs,i < ρ.length)→Yd (ρ++[l]) xs as bs=Yd ρ xs as bs++[l]
 | [],as,bs,ρ,_=>by unfold Yd;rfl
 | x::xs,[],bs,ρ,_=>by cases x<;>(unfold Yd;rfl)
 | x::xs,a::as,[],ρ,_=>by cases x<;>cases a<;>(unfold Yd;rfl)
 | .d _::xs,a::as,b::bs,ρ,h=>by
  show Yd (ρ++[l]) xs as bs=Yd ρ xs as bs++[l];exact Tu h
 | .s i::xs,a::as,b::bs,ρ,h=>by
  have hi:i < ρ.length:=h i (List.mem_cons_self);have ht:∀j∈slots xs,j < ρ.length:=fun j hj=>h j (List.mem_cons_of_mem _ hj);have skip:Yd (ρ++[l]) xs as bs=Yd ρ xs as bs++[l]:=Tu ht;cases a with
  | r u=>
   cases b with
   | r y=>
    show Yd (putS (ρ++[l]) i y) xs as bs=Yd (putS ρ i y) xs as bs++[l];rw[qbM hi];exact Tu fun j hj=>by rw[qdP];exact ht j hj
   | d _=>exact skip
   | m _=>exact skip
   | p _=>exact skip
   | xh=>exact skip
   | u _ _=>exact skip
  | d _=>cases b<;>exact skip
  | m _=>cases b<;>exact skip
  | p _=>cases b<;>exact skip
  | xh=>cases b<;>exact skip
  | u _ _=>cases b<;>exact skip
theorem Nr.push {K:Kx} {σ:L2.St} {G:Hp} {v:Option V}:∀{vs:List V} {xs:List X},Nr K σ G vs xs→Nr K (σ++[v]) G vs xs
 | _,_,.nil=>.nil
 | _,_,.cons (a:=u) (b:=x) h t=>.cons (by
   cases x with
   | d y=>exact h
   | s i=>
    have h:σ[i]?=some (some u):=h;show (σ++[v])[i]?=some (some u);rw[List.getElem?_append_left (List.getElem?_eq_some_iff.mp h).1];exact h) (Nr.push t)
def tMk (C:Addr) (sp:Sp) (E:L2.St→XK) (t:TA):TE:=fun σ H Q=>t σ H fun vs H1=>∀x dx,H1 x=none→H1 dx=none→dx≠x→sp (.ref x::vs) (upd (upd H1 dx (.own x)) x (.ins C dx [])) (fun v H2=>v=.non∧Q (.ref x) H2) (E σ)
def mkR (r:FRes) (ρ1:Env) (xs:List X) (as:List L):Res D:=match r with
 | .ok (.d .non) (.r x::bs)=>.ok x (Yd ρ1 xs as bs)
 | .ex e (_::bs)=>.ex e (Yd ρ1 xs as bs)
 | _=>.bad
def kMk (C:Str) (n:Nat) (F:List L→FRes) (xs:List X) (ρ1:Env):Res D:=match Jx ρ1 xs with
 | none=>.bad
 | some as=>if xs.length+1=n∧(slots xs).Nodup then mkR (F (.r (.ins C [])::as)) ρ1 xs as else .bad
def fMk (C:Str) (n:Nat) (F:List L→FRes) (ma:AM):FM:=fun ρ=>bindR (ma ρ) (kMk C n F)
theorem qj4 {K:Kx} {W:WX} {C:Str} {n:Nat} {F:List L→FRes} {t:TA} {ma:AM} (ht:R8 K W t ma):yn K W (tMk (cA K C) (spF K.k n F) (WE W) t) (fMk C n F ma):=fun σ G H ρ R Q h=>by
 unfold fMk bindR at h;refine ht.fst R (fun xs ρ1 e vs G1 H1 S1 R1 x1=>?_) (fun e ρ1 q=>by rw[q]at h;exact h) (fun q=>by rw[q]at h;exact h);rw[e]at h;have h:=Mb.step S1 h;simp only at h;unfold kMk at h;split at h
 ·exact h.elim
 ·rename_i as ea;split at h
  ·rename_i hnn;intro x dx hx hd hne;have g1:=Gro.new (o:=.own x) R1.same hd;have hx2:(upd H1 dx (.own x)) x=none:=by rw[upd_ne (fun z=>hne z.symm)];exact hx
   have g2:=Gro.newH (o:=.ins (cA K C) dx []) g1.s hx2;have g:=g1.trans g2;have R2:=R1.gro g;have nx:∀a,V.ref x=.ref a→¬Own σ ρ1 a:=fun a ea o=>by cases ea;exact Own.there R1 o hx
   have qt0:(upd G1 dx (.own x)) x=none:=by rw[upd_ne (fun z=>hne z.symm)];exact R1.same.free hx
   have m:MOk K (upd G1 dx (.own x)) (upd (upd H1 dx (.own x)) x (.ins (cA K C) dx [])) (.ref x) (.ins C []):=⟨x,dx,[],rfl,qt0,upd_same,upd_same,.nil⟩;have R3:=R2.push m nx;obtain⟨ea2,hsl⟩:=Fg (l:=some (.m (.ins C []))) ea;have X3:Nr K (σ++[some (.ref x)]) (upd G1 dx (.own x)) (.ref x::vs) (.s ρ1.length::xs):=.cons (by
    show (σ++[some (V.ref x)])[ρ1.length]?=_;rw[← R1.len,List.getElem?_append_right (Nat.le_refl _)];simp) (Nr.push (x1.mono g.g))
   have ea3:Jx (ρ1++[some (.m (.ins C []))]) (.s ρ1.length::xs)=some (.r (.ins C [])::as):=by
    have eq0:(ρ1++[some (L.m (.ins C []))])[ρ1.length]?=some (some (L.m (.ins C []))):=by rw[List.getElem?_append_right (Nat.le_refl _)];simp
    have ea0:mkArg (ρ1++[some (.m (.ins C []))]) (.s ρ1.length)=some (.r (.ins C [])):=by
     unfold mkArg;simp only[eq0]
    unfold Jx;rw[ea2,ea0]
   have nd3:(slots (.s ρ1.length::xs)).Nodup:=List.nodup_cons.mpr ⟨fun z=>Nat.lt_irrefl _ (hsl _ z),hnn.2⟩;refine⟨by rw[List.length_cons,x1.len];exact hnn.1,_,_,E3 R3 X3 ea3 nd3,?_⟩;have key:∀{y:D} {bs:List L} {G' H':Hp},Stp ((V.ref x::vs).map some) ((L.r (.ins C [])::as).map some) (upd G1 dx (.own x)) (upd (upd H1 dx (.own x)) x (.ins (cA K C) dx [])) ((V.ref x::vs).map some) ((L.r y::bs).map some) G' H'→Rel ⟨K.k,none⟩ ((V.ref x::vs).map some) G' H' ((L.r y::bs).map some)→
     Stp σ ρ1 G1 H1 σ (Yd ρ1 xs as bs) G' H'∧Rel K σ G' H' (Yd ρ1 xs as bs)∧MOk K G' H' (.ref x) y∧∀a,V.ref x=.ref a→H1 a=none∧¬Own σ (Yd ρ1 xs as bs) a:=fun {y bs G' H'} S' R'=>by
    obtain⟨S4,R4,_⟩:=Bj R3 X3 ea3 nd3 S' R';have ep:Yd (ρ1++[some (.m (.ins C []))]) (.s ρ1.length::xs) (.r (.ins C [])::as) (.r y::bs)=Yd ρ1 xs as bs++[some (.m y)]:=by
     show Yd (putS (ρ1++[some (.m (.ins C []))]) ρ1.length y) xs as bs=_;have:putS (ρ1++[some (.m (.ins C []))]) ρ1.length y=ρ1++[some (.m y)]:=by
      unfold putS;rw[List.getElem?_append_right (Nat.le_refl _)];simp[L.put]
     rw[this];exact Tu hsl
    rw[ep]at S4 R4;have hl4:σ.length=(Yd ρ1 xs as bs).length:=by
     have:=R4.len;simp at this;exact this
    obtain⟨R5,m5,n5⟩:=Rel.pop hl4 R4;exact⟨Stp.pop R1.len hl4 g hx S4,R5,m5,fun a ea=>⟨by cases ea;exact hx,n5 a ea⟩⟩
   cases eF:F (.r (.ins C [])::as) with
   | bad=>rw[eF]at h;exact h.elim
   | ex ex bs=>
    rw[eF]at h;intro c d G' H' S' R' q;cases bs with
    | nil=>exact h.elim
    | cons b bs=>
     have pb:∃y,b=.r y:=by
      obtain⟨_,y,hy⟩:=S'.pin 0 (.ins C []) (by simp);simp at hy;exact⟨y,hy⟩
     obtain⟨y,rfl⟩:=pb;obtain⟨a,b,_⟩:=key S' R';exact h c d G' H' a b q
   | ok l bs=>
    rw[eF]at h;cases l with
    | d w=>
     cases w<;>first | exact h.elim | skip
     cases bs with
     | nil=>exact h.elim
     | cons b bs=>
      cases b<;>first | exact h.elim | skip
      rename_i y;intro v G' H' S' R' q;cases q;obtain⟨a,b,c,d⟩:=key S' R';exact⟨rfl,h (.ref x) G' H' a b ⟨c,d⟩⟩
    | m w=>exact h.elim
    | r w=>exact h.elim
    | p w=>exact h.elim
    | xh=>exact h.elim
    | u _ _=>exact h.elim
  ·exact h.elim
section
variable {X:Cx} {CX:CXT} {k:Nat} {f C:Addr} {fd:FuncData} {ps:List Str} {sp:Sp} {dvs:List V} {ds:List Value} {x:Str} {p pos:Pos} {e:Expr} {es:List Expr} {t:TA}
theorem qaI {E:XK} {pins:List (Addr×Obj)} {σ:L2.St} {H:Hp} {s:Shared} {Q:VK} {us:List Value} {vs:List V} (M:Mk X.K C f) (F:FnOk X.prog X.w X.K X.mg X.base CX k f fd ps sp) (hr:Room (k+1) X.A) (hb:Binds X.K fd ps ds) (hd:Vals dvs ds)
  (hx:PassesAt CX X σ E) (I:Inv X pins σ H s) (r:Vals vs us)
  (h:∀x dx,H x=none→H dx=none→dx≠x→sp (.ref x::(vs++dvs)) (upd (upd H dx (.own x)) x (.ins C dx [])) (fun v H2=>v=.non∧Q (.ref x) H2) E) :
  wpAny (model X.prog X.w) X.A (call (.ref C) us) (EP X pins σ Q) X.xe s:=by
 have hq:=h (s.heap.objs.size+1) s.heap.objs.size (I.hok.fresh (Nat.le_succ _)) (I.hok.fresh (Nat.le_refl _)) (Nat.ne_of_lt (Nat.lt_succ_self _));have I2:=Inv.made (C:=C) I;have r2:Vals (V.ref (s.heap.objs.size+1)::(vs++dvs)) (Value.ref (s.heap.objs.size+1)::(us++ds)):=.cons rfl (r.append hd);have hl:(Value.ref (s.heap.objs.size+1)::us++ds).length=ps.length:=by
  have e:=r2.length;rw[F.len _ _ _ _ hq]at e;exact e.symm
 refine wpAny_call (make_map (f:=f) I.kIn M.makes M.init (beq_iff_eq.mp M.fn) (codeAny_mono (F.run _ X.stack _ _ ⟨Value.ref (s.heap.objs.size+1)::us,[]⟩ (Value.ref (s.heap.objs.size+1)::(us++ds)) _ _ E (hr.make C us [])
  (I2.env0.make C us []) (hb _ (Value.ref (s.heap.objs.size+1)::us) I2.kIn hl) r2 hq) fun r s' hq'=>?_))
 cases r with
 | error e=>exact hx pins _ _ e s' I2 hq'
 | ok fl=>
  cases fl with
  | ret u=>
   obtain⟨v,H',I3,rv,ev,q3⟩:=I2.after hq';subst ev;exact⟨rv,⟨V.ref (s.heap.objs.size+1),H',I3,rfl,q3⟩⟩
  | next=>exact False.elim hq'
  | brk=>exact False.elim hq'
  | cont=>exact False.elim hq'
theorem pe_mk {E:L2.St→XK} (M:Mk X.K C f) (F:FnOk X.prog X.w X.K X.mg X.base CX k f fd ps sp) (hr:Room (k+1) X.A) (hg:Gl X x) (hm:X.mg x=some (.ref C)) (hb:Binds X.K fd ps ds) (hd:Vals dvs ds) (hx:∀σ,PassesAt CX X σ (E σ))
  (ha:PA X (e::es) t) (hdb:(x == ("__debug__" : Str))=false:=by decide) (he:starEach (e::es) X.env=(false,eval e X.env)::starEach es X.env:=by rfl) (hpl:(backTo pos (starEach es X.env)).any (·.1)=false:=by rfl) :
  PE X (.Call (.Name x p) (e::es) [] pos) (tMk C sp E (qp0 t dvs)):=by
 refine⟨fun pins s σ H Q I h=>?_⟩;refine wpAny_Call_Name_kw (ld_glob I hg hm ?_ hdb);refine PySem.W.callWith_K (h₀:=X.base) I.ok.mod.kin M.kp (thn (ha.run pos pins s σ H _ I h) fun us s1 ⟨vs,H1,I1,r,q⟩=>⟨I1.kIn,?_⟩) he hpl;exact qaI M F hr hb hd (hx σ) I1 r q
end
structure MkB (P:Program) (w:World) (K:PySem.W.Frag) (mg:Str→Option Value) (base:Heap) (k:Nat) (C:Str) (n:Nat) (ms:List D) (R:List L→FRes):Prop where
 ex:∃f fd ps dvs ds,Mk K (cA K C) f∧FnOk P w K mg base (L2.CX P w) k f fd ps (spF K n R)∧Binds K fd ps ds∧Vals dvs ds∧∀G,DqA K G dvs ms
 g:mg C=some (.ref (cA K C))
theorem qow {X:Cx} {xa:Option XA} {W:WX} {C:Str} {n k:Nat} {ms:List D} {R:List L→FRes} {e:Expr} {es:List Expr} {am:AM} {p pos:Pos} (B:MkB X.prog X.w X.K X.mg X.base k C n ms R) (hr:Room (k+1) X.A) (tk:Takes X W) (ha:JA X xa W (e::es) am) (hg:Gl X C:=by rfl)
  (hdb:(C == ("__debug__" : Str))=false:=by decide) (he:starEach (e::es) X.env=(false,eval e X.env)::starEach es X.env:=by rfl) (hpl:(backTo pos (starEach es X.env)).any (·.1)=false:=by rfl):JF X xa W (.Call (.Name C p) (e::es) [] pos) (fMk C n R (qh1 am ms)):=by
 obtain⟨f,fd,ps,dvs,ds,M,F,hb,hd,q⟩:=B.ex;obtain⟨_,h1,h2⟩:=ha;exact⟨_,pe_mk M F hr hg B.g hb hd (fun σ=>passAt tk σ) h1 hdb he hpl,qj4 (qkY h2 q)⟩
theorem qoA {X:Cx} {xa:Option XA} {W:WX} {C:Str} {n k:Nat} {ms:List D} {R:List L→FRes} {e:Expr} {es:List Expr} {am:AM} {p pos:Pos} (B:MkB X.prog X.w X.K X.mg X.base k C n ms R) (hr:Room (k+1) X.A) (tk:Takes X W) (ha:JA X xa W (e::es) am) (hg:Gl X C:=by rfl)
  (hdb:(C == ("__debug__" : Str))=false:=by decide) (he:starEach (e::es) X.env=(false,eval e X.env)::starEach es X.env:=by rfl) (hpl:(backTo pos (starEach es X.env)).any (·.1)=false:=by rfl):JE X xa W (.Call (.Name C p) (e::es) [] pos) (eF (fMk C n R (qh1 am ms))):=by
 obtain⟨_,h1,h2⟩:=qow B hr tk ha hg hdb he hpl;exact⟨_,h1,h2.ev⟩
theorem qiG {X:Cx} {x y:Str} {j j2:_} {p p2 q q2 p3:Pos} {body:List Stmt} {rest:List MatchCase} {tb:TS} {tr:V→TS} (hu:X.A.units+64<cLine) (hb:PSs X body tb) (hr:PMs X rest tr) :
  PMs X (⟨.MatchOr [.MatchValue (.Constant (.str x) j p) p2,.MatchValue (.Constant (.str y) j2 q) q2] p3,none,body⟩::rest) (qdD X.K x tb (qdD X.K y tb tr)):=by
 refine⟨fun first pins s σ H D v u I r h=>?_⟩;refine wpAny_matchCases_cons (wpAny_matchPattern_Or (wpAny_matchFirst_cons (wpAny_matchPattern_Value ?_)));refine thn ((pe_str (X:=X) (x:=x) (j:=j) (pos:=p)).run pins s σ H (fun w H1=>w=.str x∧H1=H) I ⟨rfl,rfl⟩) fun xv s1 ⟨w,H1,I1,r1,ew,eH⟩=>?_;subst ew eH;refine thn (Q8 hu pins s1 σ H1 v (.str x) u xv _ I1 r r1 h) fun c s2 ⟨w2,H2,I2,r2,b,ew2,q⟩=>?_;subst ew2;cases r2;refine wpAny_truthy_bool ?_;cases b with
 | true=>exact wpAny_pure (hb.run pins s2 σ H2 D I2 q)
 | false=>
  refine wpAny_matchFirst_cons (wpAny_matchPattern_Value ?_);refine thn ((pe_str (X:=X) (x:=y) (j:=j2) (pos:=_)).run pins s2 σ H2 (fun w H1=>w=.str y∧H1=H2) I2 ⟨rfl,rfl⟩) fun xv s3 ⟨w,H3,I3,r3,ew,eH⟩=>?_;subst ew eH;refine thn (Q8 hu pins s3 σ H3 v (.str y) u xv _ I3 r r3 q) fun c s4 ⟨w4,H4,I4,r4,b,ew4,q4⟩=>?_;subst ew4;cases r4;refine wpAny_truthy_bool ?_;cases b with
  | true=>exact wpAny_pure (hb.run pins s4 σ H4 D I4 q4)
  | false=>exact wpAny_matchFirst_nil (hr.run false pins s4 σ H4 D v u I4 r q4)
theorem qjN {X:Cx} {xa:Option XA} {W:WX} {x y:Str} {j j2:_} {p p2 q q2 p3:Pos} {body:List Stmt} {rest:List MatchCase} {mb:SM} {mr:D→SM} (hu:X.A.units+64<cLine) (hb:JSs X xa W body mb) (hr:JM X xa W rest mr) :
  JM X xa W (⟨.MatchOr [.MatchValue (.Constant (.str x) j p) p2,.MatchValue (.Constant (.str y) j2 q) q2] p3,none,body⟩::rest) (Px x mb (Px y mb mr)):=
 let ⟨_,a,b⟩:=hb;let ⟨_,c,d⟩:=hr;⟨_,qiG hu a c,qb4 b (qb4 b d)⟩
abbrev pgA (K:PySem.W.Frag) (C m:Str):Addr:=unw K (maA K C m)
theorem qg4 {K:PySem.W.Frag} {a:Addr} {d:He.DefD} (e:fnAt K a=d.val) (c:qhO K a d=true):∃fd,FunD K d.name d.qual d.params d.body d.scope (d.dvs K) (d.kws K) a fd:=by
 obtain⟨kp,c2⟩:=He.ba c;unfold fnAt at e;cases q:K.lookup a with
 | none=>
  rw[q]at c2;cases c2
 | some o=>
  obtain⟨oc,od,dt,osl⟩:=o;rw[q]at c2 e;cases dt with
  | func fd=>
   obtain⟨n1,n2,n3,n4,n5,n6,n7,n8,n9,n10,n11,n12,n13,n14,n15⟩:=fd;have e2:(some (n1,n2,n3,n4,n5,n6,n7,n15):He.FnW)=some (d.name,d.qual,d.params,.stmts d.body,d.scope,mainGlobals,[],builtinsNs):=e;simp only[Option.some.injEq,Prod.mk.injEq]at e2;obtain⟨h1,h2,h3,h4,h5,h6,h7,h8⟩:=e2;subst h1 h2 h3 h4 h5 h6 h7 h8;have c3:(PySem.W.codeIn K n13 d.qual && (He.dflB K n8 (d.dvs K) && He.kwdB K n9 (d.kws K)))=true:=c2;obtain⟨k1,k2⟩:=He.ba c3;obtain⟨k3,k4⟩:=He.ba k2;exact⟨_,⟨oc,od,n8,n9,n10,n11,n12,n13,n14,osl,rfl,q,k1,He.dflB_ok k3,He.kwdB_ok k4⟩,kp⟩
  | _=>cases c2
section
variable {fn:List He.DefD} {ms:List FO} {pr:List He.DefD} {ck:PySem.W.Frag→Bool} {K:PySem.W.Frag}
theorem jg.c (c:jg fn ms pr ck K):ym fn ms ck K:=congrArg (fun z:AlP=>z.1) c
theorem jg.qnb (c:jg fn ms pr ck K) (i:Nat) {d:He.DefD} (h:pr[i]?=some d:=by rfl):∃fd,FunD K d.name d.qual d.params d.body d.scope (d.dvs K) (d.kws K) (unw K (He.fAd K d.at_)) fd:=by
 have c2:pr.all (fun d=>qhO K (unw K (He.fAd K d.at_)) d)=true:=congrArg (fun z:AlP=>z.2.1) c;have e:pr.map (fun d=>fnAt K (unw K (He.fAd K d.at_)))=pr.map He.DefD.val:=congrArg (fun z:AlP=>z.2.2) c;have e2:(pr.map fun d=>fnAt K (unw K (He.fAd K d.at_)))[i]?=(pr.map He.DefD.val)[i]?:=by rw[e]
 rw[List.getElem?_map,List.getElem?_map,h]at e2;exact qg4 (Option.some.inj e2) (List.all_eq_true.mp c2 d (List.mem_of_getElem? h))
end
theorem qdA {S:PySem.W.Frag→Prop} {l:PySem.W.OpenLaw} {n k:Nat} {q:Program} {loose:List Str} {XP:(Str→Option Value)→Heap→Prop} {d:DefRec} {sx:Str} {nm:Str}
  (hn:l.most=some n) (hn2:n≤sizeLine) (hdf:d.params.defaults=[]) (hr:Room k callerA) (hnm:d.name=nm)
  (F:∀(w:World) (K:PySem.W.Frag) (mg:Str→Option Value) (h:Heap),K.In h→h.Ns mainGlobals mg→S K→
   mg nm=some (.ref (cA K nm))∧∃fd:FuncData,(∀(s:Shared) (u:Value),BindsTo s fd ⟨[u],[]⟩ [(sx,u)])∧∀base:Heap,FnOk l.prog w K mg base CX0 k (cA K nm) fd [sx] (Oo K n)) :
  PySem.W.WalkO q loose XP (fun _ h=>∃K:PySem.W.Frag,K.In h∧S K) l.row.toRowW d [] (fun f vs=>PySem.call f vs):=by
 refine L2.walk_ofE (n:=n) (k:=k) (x:=sx) (CX:=CX0) hn hn2 hdf hr (fun w mg fa h Y G hmg=>?_) (fun _ _ _ _ z=>z);obtain⟨K,KX,c⟩:=Y;obtain⟨hg,fd,hb,hF⟩:=F w K mg h KX G c;rw[hnm,hg]at hmg;have e:cA K nm=fa:=by injection hmg with e;injection e
 subst e;exact⟨K,fd,Oo K n,KX,hb,fun H a ns hl _ hS=>⟨a,ns,rfl,hS,hl,fun _=>rfl⟩,fun base _ _=>hF base⟩
structure FnP (P:Program) (w:World) (K:PySem.W.Frag) (mg:Str→Option Value) (base:Heap) (k:Nat) (C m:Str) (n:Nat) (R:List L→FRes):Prop where
 ex:∃fd ps,FnOk P w K mg base (L2.CX P w) k (pgA K C m) fd ps (spF K n R)∧Binds K fd ps []
theorem qka {P:Program} {w:World} {K:PySem.W.Frag} {mg:Str→Option Value} {base:Heap} {C m x qual:Str} {st:Stmt} {N ps:List Str} {k:Nat} {body:SM} (F:∃fd,FunD K x qual (defArgs st) (defBody st) (defScope st) [] [] (pgA K C m) fd) (S:FnScope N ps (defScope st))
  (hbind:∀(kV doc pm:Value) (an:Option Addr) (cdv ct:Value) (us:List Value),us.length=ps.length→bindArgs (PySem.W.fnOf x qual (defArgs st) (defBody st) (defScope st) .none kV doc pm an cdv ct) ⟨us,[]⟩=pure (ps.zip us))
  (hb:∀(cdv:Value) (A:Around) (outer:List PySem.Env) (s:Shared) (H:Hp) (E:XK),Room k (A.deeper (envOfC qual (defScope st) s.heap.objs.size (pgA K C m) cdv))→
   JSs (cxOf (L2.CX P w) P w K mg base N qual (defScope st) (pgA K C m) cdv A outer s H E) none (fun cls d _ H=>E cls d H) (defBody st) body) :
  FnP P w K mg base (k+1) C m ps.length (Q7 N.length body):=by
 obtain⟨fd,F⟩:=F;exact⟨⟨fd,ps,fn_ok (U6 F) S hb,(U6 F).binds hbind⟩⟩
structure PEnt (P:Program) (w:World) (K:PySem.W.Frag) (mg:Str→Option Value) (base:Heap) (k:Nat) (m:Str) (C:Str) (R:List L→FRes):Prop where
 ex:∃p g fd ps,Cls K (cA K C)∧PropOf K (cA K C) m p g∧FnOk P w K mg base (L2.CX P w) k g fd ps (spF K 1 R)∧Binds K fd ps []
def qhC (P:Program) (w:World) (K:PySem.W.Frag) (mg:Str→Option Value) (base:Heap) (k:Nat) (m:Str) (tb:MTb):Prop:=∀q∈tb,PEnt P w K mg base k m q.1 q.2
section
variable {P:Program} {w:World} {K:PySem.W.Frag} {mg:Str→Option Value} {base:Heap} {k j:Nat} {m C C2:Str} {R:List L→FRes} {tb:MTb}
theorem qdQ:qhC P w K mg base k m []:=fun _ h=>nomatch h
theorem qbN (h:PEnt P w K mg base k m C R) (t:qhC P w K mg base k m tb):qhC P w K mg base k m ((C,R)::tb):=fun q hq=>by
 rcases List.mem_cons.mp hq with rfl | hq
 ·exact h
 ·exact t q hq
theorem qgc (c:qna K C m C2=true):Cls K (cA K C)∧PropOf K (cA K C) m (maA K C2 m) (pgA K C2 m):=by
 unfold qna at c;simp only[Bool.and_eq_true]at c;obtain⟨c0,c1,c2,c3,c4⟩:=c;refine⟨Eh c0,He.eqO_ok c1,He.eqO_ok c2,of_decide_eq_true c3,?_⟩;split at c4
 ·rename_i g r hr;refine⟨r,?_⟩;unfold pgA unw;rw[hr]
 ·cases c4
theorem qgh (c:Cls K (cA K C)∧PropOf K (cA K C) m (maA K C2 m) (pgA K C2 m)) (F:FnP P w K mg base j C2 m 1 R) (hj:j≤k):PEnt P w K mg base k m C R:=by
 obtain⟨fd,ps,h,hb⟩:=F.ex;exact⟨_,_,fd,ps,c.1,c.2,h.mono hj,hb⟩
end
def qih (K:PySem.W.Frag) (tb:MTb) (ta:TE):TE:=fun σ H Q=>ta σ H fun x H1=>∃a C R dx fs,x=.ref a∧H1 a=some (.ins (cA K C) dx fs)∧tb.lookup C=some R∧spF K 1 R [x] H1 Q (fun _ _ _=>False)
theorem qgj {X:Cx} {e:Expr} {f:Str} {pos:Pos} {k:Nat} {tb:MTb} {ta:TE} (he:PE X e ta) (T:qhC X.prog X.w X.K X.mg X.base k f tb) (hr:Room (k+1) X.A) (hab:attributeBase e f X.env (eval e X.env)=eval e X.env):PE X (.Attribute e f pos) (qih X.K tb ta):=by
 refine⟨fun pins s σ H Q I h=>?_⟩;refine attr_of hab (thn (he.run pins s σ H _ I h) fun u s1 ⟨x,H1,I1,rx,a,C,R,dx,fs,ex,ea,eR,q⟩=>?_);subst ex;obtain rfl:u=Value.ref a:=rx;obtain⟨p,g,fd,ps,hc,hp,F,hb⟩:=(T _ (Ao eR)).ex;exact getprop_ok (dvs:=[]) (ds:=[]) I1 ea hc hp F hr hb .nil (fun _ _ _ _ _ _ _ c=>by obtain⟨_,_,_,_,_,_,_,_,_,_,_,_,q⟩:=c;exact q) q
def qi0 {α:Type}:Res α→Res α
 | .ex _ _=>.bad
 | r=>r
def ql1 (tb:MTb):X→Env→Res X:=fun x ρ1=>match look ρ1 x with
 | some (.ins C _)=>(match tb.lookup C with
  | some R=>qi0 (qbp 1 R [x] ρ1)
  | none=>.bad)
 | _=>.bad
def qkD (tb:MTb) (ma:EM):EM:=fun ρ=>bindR (ma ρ) (ql1 tb)
theorem qhb {K:Kx} {W:WX} {tb:MTb} {ta:TE} {ma:EM} (ha:Yh K W ta ma):Yh K W (qih K.k tb ta) (qkD tb ma):=fun σ G H ρ R Q h=>by
 unfold qkD bindR at h;refine ha.fst R (fun x ρ1 e v G1 H1 S1 R1 x1=>?_) (fun e ρ1 q=>by rw[q]at h;exact h) (fun q=>by rw[q]at h;exact h);rw[e]at h;have h:=EPost.step S1 h;simp only at h;unfold ql1 at h;split at h
 ·rename_i C fs el;split at h
  ·rename_i Rr eR;have q:Vw K G1 H1 v (.ins C fs):=J5 R1 x1 el;obtain⟨_,_,_,rfl,q1,q2,q3⟩:=q;refine⟨_,C,Rr,_,_,rfl,q1,eR,?_⟩;have h2:EPost K WF σ G1 H1 ρ1 Q (qbp 1 Rr [x] ρ1):=by
    cases e:qbp 1 Rr [x] ρ1 with
    | ok y ρ2=>rw[e]at h;exact h
    | ex y ρ2=>rw[e]at h;exact h.elim
    | bad=>rw[e]at h;exact h
   exact xn R1 (.cons x1 .nil) h2
  ·exact h.elim
 ·exact h.elim
theorem qgS {X:Cx} {xa:Option XA} {W:WX} {e:Expr} {f:Str} {pos:Pos} {k:Nat} {tb:MTb} {ma:EM} (T:qhC X.prog X.w X.K X.mg X.base k f tb) (hr:Room (k+1) X.A) (ho:JE X xa W e ma) (hab:attributeBase e f X.env (eval e X.env)=eval e X.env:=by rfl):JE X xa W (.Attribute e f pos) (qkD tb ma):=
 let ⟨_,h1,h2⟩:=ho;⟨_,qgj h1 T hr hab,qhb h2⟩
theorem Rq {X:Cx} {xa:Option XA} {W:WX} {b:List Stmt}:JSs X xa W b (fun _=>.bad):=⟨fun _ _ _=>False,⟨fun _ _ _ _ _ _ h=>h.elim⟩,fun _ _ _ _ _ _ h=>h⟩
theorem qcb {K:PySem.W.Frag} {C:Str} (q:qlE K C=true):Mk K (cA K C) (maA K C "__init__"):=by
 unfold qlE at q;simp only[Bool.and_eq_true]at q;exact⟨q.1,He.eqO_ok q.2.1,q.2.2.1,q.2.2.2⟩
theorem qjd {P:Program} {w:World} {K:PySem.W.Frag} {mg:Str→Option Value} {base:Heap} {j k:Nat} {C:Str} {n:Nat} {R:List L→FRes} (M:Mk K (cA K C) (maA K C "__init__")) (F:FnM P w K mg base j C "__init__" n R) (g:mg C=some (.ref (cA K C))) (hj:j≤k):MkB P w K mg base k C n [] R:=by
 obtain⟨fd,ps,h,hb⟩:=F.ex;exact⟨⟨_,fd,ps,[],[],M,h.mono hj,hb,.nil,fun _=>.nil⟩,g⟩
def Sr (K:PySem.W.Frag) (G H:Hp) (bs:List Addr) (rows:List (List D)):Prop:=bs.length=rows.length∧∀(k:Nat) (b:Addr),bs[k]?=some b→∃ys ds,rows[k]?=some ds∧H b=some (.lst ys)∧DqA K G ys ds
structure NRel (K:Kx) (σ0:L2.St) (ρ0:Env) (G0 H0 Gm:Hp) (i:Nat) (rows:List (List D)) (σ:L2.St) (G H:Hp) (ρ:Env):Prop where
 rel:Rel K σ G H ρ
 stp:Stp σ0 ρ0 G0 H0 σ ρ G H
 mon:Same Gm G
 ex:∃(A:Addr) (bs:List Addr),σ[i]?=some (some (.ref A))∧H A=some (.lst (bs.map V.ref))∧(A::bs).Nodup∧(∀a∈A::bs,G a=none∧H0 a=none∧¬Own σ ρ a)∧Sr K.k G H bs rows
theorem qk {α:Type} {xs:List α} (h:xs.Nodup) {i j:Nat} {a:α} (hi:xs[i]?=some a) (hj:xs[j]?=some a):i=j:=by
 induction xs generalizing i j with
 | nil=>simp at hi
 | cons x xs ih=>
  obtain⟨h1,h2⟩:=List.nodup_cons.mp h;cases i with
  | zero=>
   cases j with
   | zero=>rfl
   | succ j=>
    simp at hi hj;subst hi;exact absurd (List.mem_of_getElem? hj) h1
  | succ i=>
   cases j with
   | zero=>
    simp at hi hj;subst hj;exact absurd (List.mem_of_getElem? hi) h1
   | succ j=>
    simp at hi hj;rw[ih h2 hi hj]
theorem Stp.updN {σ0 σ:L2.St} {ρ0 ρ:Env} {G0 H0 G H:Hp} {b:Addr} {o:HO} (S:Stp σ0 ρ0 G0 H0 σ ρ G H) (hb:H0 b=none):Stp σ0 ρ0 G0 H0 σ ρ G (upd H b o):=
 ⟨S.g,S.gf,fun a u h n=>by rw[upd_ne (fun z=>by rw[z,hb]at h;cases h)];exact S.fr a u h n,
  fun a h=>by
   by_cases q:a=b
   ·rw[q,upd_same];exact fun z=>nomatch z
   ·rw[upd_ne q];exact S.hn a h,S.ow,S.om,S.pin⟩
theorem Rel.updN {K:Kx} {σ:L2.St} {G H:Hp} {ρ:Env} {b:Addr} {o:HO} (R:Rel K σ G H ρ) (hg:G b=none) (hn:¬Own σ ρ b):Rel K σ G (upd H b o) ρ:=by
 refine⟨fun a u e=>?_,R.len,fun i l e=>?_,R.exo,R.sep⟩
 ·rw[upd_ne (fun z=>by rw[z,hg]at e;cases e)];exact R.same a u e
 ·obtain⟨v,h1,h2⟩:=R.at_ i l e;refine⟨v,h1,?_⟩;have ow:∀y,l.own=true→MOk K G H v y→MOk K G (upd H b o) v y:=fun y ol hm=>by
   refine hm.mono (Same.refl _) fun a ea=>?_;subst ea;obtain⟨c,ec,hc,_⟩:=hm.ref;cases ec;refine⟨hc,fun u hu=>?_⟩;rw[upd_ne (fun z=>hn ⟨i,l,e,ol,by rw[h1,z]⟩)];exact hu
  cases l with
  | d y=>exact h2
  | m y=>exact ow y rfl h2
  | r y=>exact ow y rfl h2
  | p y=>exact⟨ow y rfl h2.1,h2.2⟩
  | xh=>exact h2
  | u _ _=>exact h2
section
variable {K:Kx} {σ0 σ σ':L2.St} {ρ0 ρ ρ':Env} {G0 H0 Gm G H G' H':Hp} {i:Nat} {rows:List (List D)}
theorem NRel.step (N:NRel K σ0 ρ0 G0 H0 Gm i rows σ G H ρ) (S:Stp σ ρ G H σ' ρ' G' H') (R':Rel K σ' G' H' ρ') (hi:σ'[i]?=σ[i]?):NRel K σ0 ρ0 G0 H0 Gm i rows σ' G' H' ρ':=by
 obtain⟨A,bs,h1,h2,h3,h4,h5⟩:=N.ex;have th:∀a∈A::bs,H a≠none:=fun a ha=>by
  rcases List.mem_cons.mp ha with rfl | ha
  ·rw[h2];exact fun z=>nomatch z
  ·obtain⟨k,hk⟩:=List.getElem?_of_mem ha;obtain⟨ys,ds,_,q,_⟩:=h5.2 k a hk;rw[q];exact fun z=>nomatch z
 have kp:∀a∈A::bs,∀o,H a=some o→H' a=some o:=fun a ha o e=>S.fr a o e (h4 a ha).2.2;refine⟨R',N.stp.trans S,N.mon.trans S.g,A,bs,hi.trans h1,kp A List.mem_cons_self _ h2,h3,fun a ha=>⟨?_,(h4 a ha).2.1,fun q=>?_⟩,h5.1,fun k b hk=>?_⟩
 ·cases e:G' a with
  | none=>rfl
  | some o=>
   rcases S.gf a o e with q | q | q
   ·rw[(h4 a ha).1]at q;cases q
   ·exact absurd q (th a ha)
   ·exact absurd q.own (h4 a ha).2.2
 ·rcases S.ow a q with q | q
  ·exact (h4 a ha).2.2 q
  ·exact th a ha q
 ·obtain⟨ys,ds,e1,e2,e3⟩:=h5.2 k b hk;exact⟨ys,ds,e1,kp b (List.mem_cons_of_mem _ (List.mem_of_getElem? hk)) _ e2,e3.mono S.g⟩
theorem NRel.put {k:Nat} {b:Addr} {ys:List V} {ds:List D} (N:NRel K σ0 ρ0 G0 H0 Gm i rows σ G H ρ) {A:Addr} {bs:List Addr} (h1:σ[i]?=some (some (.ref A))) (h2:H A=some (.lst (bs.map V.ref))) (h3:(A::bs).Nodup) (h4:∀a∈A::bs,G a=none∧H0 a=none∧¬Own σ ρ a) (h5:Sr K.k G H bs rows)
  (hk:bs[k]?=some b) (q:DqA K G ys ds):NRel K σ0 ρ0 G0 H0 Gm i (rows.set k ds) σ G (upd H b (.lst ys)) ρ:=by
 have hb:=h4 b (List.mem_cons_of_mem _ (List.mem_of_getElem? hk));have hAb:A≠b:=fun z=>(List.nodup_cons.mp h3).1 (by rw[z];exact List.mem_of_getElem? hk);refine⟨N.rel.updN hb.1 hb.2.2,N.stp.updN hb.2.1,N.mon,A,bs,h1,by rw[upd_ne hAb];exact h2,h3,h4,by rw[List.length_set];exact h5.1,fun j c hj=>?_⟩;by_cases e:k=j
 ·subst e;rw[hk]at hj;cases Option.some.inj hj;have hl:k<rows.length:=by rw[← h5.1];exact (List.getElem?_eq_some_iff.mp hk).1
  exact⟨ys,ds,List.getElem?_set_self hl,upd_same,q⟩
 ·obtain⟨zs,es,e1,e2,e3⟩:=h5.2 j c hj;refine⟨zs,es,by rw[List.getElem?_set_ne e];exact e1,?_,e3⟩;rw[upd_ne fun z=>e (qk (List.nodup_cons.mp h3).2 (by rw[z];exact hk) hj)];exact e2
theorem Sr.upd {bs:List Addr} {rows:List (List D)} {a:Addr} {o:HO} {K:PySem.W.Frag} (h:Sr K G H bs rows) (n:a∉bs):Sr K G (L2.upd H a o) bs rows:=
 ⟨h.1,fun k b hk=>by
  obtain⟨ys,ds,e1,e2,e3⟩:=h.2 k b hk;exact⟨ys,ds,e1,by rw[upd_ne (fun z=>n (by rw[← z];exact List.mem_of_getElem? hk))];exact e2,e3⟩⟩
end
inductive NR where
 | nx (rows:List (List D)) (ρ:Env) | rt (d:D) (ρ:Env) | ex (e:Exn) (ρ:Env) | bad
abbrev NM:=List (List D)→Env→NR
def Le (K:Kx) (W:WX) (σ0:L2.St) (ρ0:Env) (G0 H0 Gm:Hp) (i:Nat) (D:Ends):NR→Prop
 | .nx rows ρ'=>∀σ' G' H',NRel K σ0 ρ0 G0 H0 Gm i rows σ' G' H' ρ'→D.nx σ' H'
 | .rt d ρ'=>∀σ' v G' H',Stp σ0 ρ0 G0 H0 σ' ρ' G' H'→Rel K σ' G' H' ρ'→Dq K G' v d→D.rt v H'
 | .ex e ρ'=>∀c d σ' G' H',Stp σ0 ρ0 G0 H0 σ' ρ' G' H'→Rel K σ' G' H' ρ'→ExOk K G' c d e→W c d σ' H'
 | .bad=>False
def Pd (K:Kx) (W:WX) (i:Nat) (t:TS) (M:NM):Prop:=∀σ0 ρ0 G0 H0 Gm rows σ G H ρ,NRel K σ0 ρ0 G0 H0 Gm i rows σ G H ρ→∀D,Le K W σ0 ρ0 G0 H0 Gm i D (M rows ρ)→t D σ H
section
variable {K:Kx} {W:WX} {i:Nat}
theorem Le.x {σ0 σ:L2.St} {ρ0 ρ ρ1:Env} {G0 H0 Gm G H:Hp} {rows:List (List D)} {D:Ends} {e:Exn} (N:NRel K σ0 ρ0 G0 H0 Gm i rows σ G H ρ) (h:Le K W σ0 ρ0 G0 H0 Gm i D (.ex e ρ1)):Kl K W σ G H ρ e ρ1:=fun c d G' H' S R q=>h c d σ G' H' (N.stp.trans S) R q
def qd3:NM:=fun rows ρ=>.nx rows ρ
theorem qgx:Pd K W i tNext qd3:=fun σ0 ρ0 G0 H0 Gm rows σ G H ρ N D h=>h σ G H N
def vj (M N:NM):NM:=fun rows ρ=>match M rows ρ with
 | .nx qbF ρ1=>N qbF ρ1
 | r=>r
theorem qgv {t u:TS} {M M2:NM} (ht:Pd K W i t M) (hu:Pd K W i u M2):Pd K W i (tSeq t u) (vj M M2):=fun σ0 ρ0 G0 H0 Gm rows σ G H ρ N D h=>by
 refine ht σ0 ρ0 G0 H0 Gm rows σ G H ρ N { D with nx:=u D } ?_;unfold vj at h;cases e:M rows ρ with
 | bad=>rw[e]at h;exact h
 | ex x ρ1=>rw[e]at h;exact h
 | rt d ρ1=>rw[e]at h;exact h
 | nx qbF ρ1=>
  rw[e]at h;exact fun σ' G' H' N'=>hu _ _ _ _ _ _ _ _ _ _ N' D h
def qi4 (M1 M2:NM) (rows:List (List D)) (r:Res Bool):NR:=match r with
 | .ok true ρ1=>M1 rows ρ1
 | .ok false ρ1=>M2 rows ρ1
 | .ex e ρ1=>.ex e ρ1
 | .bad=>.bad
def nIf (c:TM) (M1 M2:NM):NM:=fun rows ρ=>qi4 M1 M2 rows (c ρ)
theorem qiY {tc:TT} {t u:TS} {c:TM} {M1 M2:NM} (hc:Ie K W tc c) (ht:Pd K W i t M1) (hu:Pd K W i u M2):Pd K W i (tIfS tc t u) (nIf c M1 M2):=fun σ0 ρ0 G0 H0 Gm rows σ G H ρ N D h=>by
 unfold nIf qi4 at h;refine hc.fst N.rel (fun b ρ1 e G1 H1 S1 R1=>?_) (fun e ρ1 q=>by rw[q]at h;exact Le.x N h) (fun q=>by rw[q]at h;exact h);rw[e]at h;have N1:=N.step S1 R1 rfl;cases b with
 | true=>exact ht _ _ _ _ _ _ _ _ _ _ N1 _ h
 | false=>exact hu _ _ _ _ _ _ _ _ _ _ N1 _ h
def qb3:NM:=fun rows ρ=>if rows.length<mx then .nx (rows++[[]]) ρ else .bad
theorem qdZ:Pd K W i (tDrop (tBM K "list" rAppend (tVar i) (tCons (tLst tNil) tNil))) qb3:=fun σ0 ρ0 G0 H0 Gm rows σ G H ρ N D h=>by
 unfold qb3 at h;split at h
 ·rename_i hz;obtain⟨A,bs,h1,h2,h3,h4,h5⟩:=N.ex;refine⟨_,h1,ty_list h2,Nat.zero_le _,fun p hp=>?_⟩;have pA:p≠A:=fun z=>by rw[z,h2]at hp;cases hp
  have pb:p∉bs:=fun z=>by
   obtain⟨k,hk⟩:=List.getElem?_of_mem z;obtain⟨_,_,_,q,_⟩:=h5.2 k p hk;rw[hp]at q;cases q
  have hA2:(upd H p (.lst [])) A=some (.lst (bs.map V.ref)):=by rw[upd_ne (fun z=>pA z.symm)];exact h2
  refine⟨A,bs.map V.ref,.ref p,rfl,rfl,hA2,by rw[List.length_map,h5.1];exact Gp hz,?_⟩;have hGp:G p=none:=N.rel.same.free hp;have hop:¬Own σ ρ p:=fun o=>Own.there N.rel o hp;have h0p:H0 p=none:=N.stp.backS hp;have hAA:=h4 A List.mem_cons_self;refine h σ G _ ⟨(N.rel.updN hGp hop).updN hAA.1 hAA.2.2,(N.stp.updN h0p).updN hAA.2.1,N.mon,A,bs++[p],h1,by rw[upd_same];simp,?_,fun a ha=>?_,by simp[h5.1],fun k b hk=>?_⟩
  ·rw[← List.cons_append];refine List.nodup_append.mpr ⟨h3,by simp,fun a ha b hb=>?_⟩;have:b=p:=by simpa using hb
   subst this;rcases List.mem_cons.mp ha with rfl | ha
   ·exact fun z=>pA z.symm
   ·exact fun z=>pb (by rw[← z];exact ha)
  ·rcases List.mem_cons.mp ha with rfl | ha
   ·exact hAA
   ·rcases List.mem_append.mp ha with ha | ha
    ·exact h4 a (List.mem_cons_of_mem _ ha)
    ·have:a=p:=by simpa using ha
     subst this;exact⟨hGp,h0p,hop⟩
  ·by_cases hlt:k<bs.length
   ·rw[List.getElem?_append_left hlt]at hk;obtain⟨ys,ds,e1,e2,e3⟩:=h5.2 k b hk;have hbA:b≠A:=fun z=>(List.nodup_cons.mp h3).1 (by rw[← z];exact List.mem_of_getElem? hk);have hbp:b≠p:=fun z=>pb (by rw[← z];exact List.mem_of_getElem? hk);exact⟨ys,ds,by rw[List.getElem?_append_left (by rw[← h5.1];exact hlt)];exact e1,by rw[upd_ne hbA,upd_ne hbp];exact e2,e3⟩
   ·have hk2:k=bs.length:=by
     have:=(List.getElem?_eq_some_iff.mp hk).1;simp at this;omega
    subst hk2;rw[List.getElem?_append_right (Nat.le_refl _)]at hk;simp at hk;subst hk;refine⟨[],[],by rw[h5.1,List.getElem?_append_right (Nat.le_refl _)];simp,by rw[upd_ne pA,upd_same],.nil⟩
 ·exact h.elim
abbrev qdO (K:PySem.W.Frag):List V→Hp→VK→Prop:=qiz K
def xl (i j:Nat):NM:=fun rows ρ=>match rows.getLast? with
 | some ds=>(match Lq ρ j (.d (.tup ds)) with
  | some ρ'=>if j≠i then .nx rows.dropLast ρ' else .bad
  | none=>.bad)
 | none=>.bad
theorem qdY {j:Nat}:Pd K W i (tAsg (tCB (qdO K) (tCons (tBM0 K "list" rPop (tVar i)) tNil)) (gName j)) (xl i j):=fun σ0 ρ0 G0 H0 Gm rows σ G H ρ N D h=>by
 unfold xl at h;split at h
 ·rename_i ds hds;split at h
  ·rename_i ρ' e;split at h
   ·rename_i hji;obtain⟨A,bs,h1,h2,h3,h4,h5⟩:=N.ex;have hne:rows≠[]:=fun z=>by subst z;simp at hds
    have hlen:0<rows.length:=List.length_pos_iff.mpr hne;have hbl:bs.length-1<bs.length:=by rw[h5.1];omega
    have hbk:bs[bs.length-1]?=some (bs[bs.length-1]):=List.getElem?_eq_getElem hbl;generalize bs[bs.length-1]=b at hbk;obtain⟨ys,ds',e1,e2,e3⟩:=h5.2 _ b hbk;have hdd:ds'=ds:=by
     rw[List.getLast?_eq_getElem?]at hds;rw[h5.1,hds]at e1;exact (Option.some.inj e1).symm
    subst hdd;have hbA:b≠A:=fun z=>(List.nodup_cons.mp h3).1 (by rw[← z];exact List.mem_of_getElem? hbk);have hAA:=h4 A List.mem_cons_self;refine⟨_,h1,ty_list h2,A,bs.map V.ref,.ref b,rfl,rfl,h2,by rw[List.length_map,List.getElem?_map,hbk];rfl,b,ys,rfl,.inl ⟨.inl (.inl (by rw[upd_ne hbA];exact e2)),fun p o ho hp=>?_⟩⟩;have N1:NRel K σ0 ρ0 G0 H0 Gm i rows.dropLast σ G (upd H A (.lst ((bs.map V.ref).dropLast))) ρ:=by
     refine⟨N.rel.updN hAA.1 hAA.2.2,N.stp.updN hAA.2.1,N.mon,A,bs.dropLast,h1,by rw[upd_same,List.map_dropLast],?_,fun a ha=>h4 a ?_,by simp[h5.1],fun k c hk=>?_⟩
     ·refine List.nodup_cons.mpr ⟨fun z=>(List.nodup_cons.mp h3).1 (List.dropLast_subset _ z),(List.nodup_cons.mp h3).2.sublist (List.dropLast_sublist _)⟩
     ·rcases List.mem_cons.mp ha with rfl | ha
      ·exact List.mem_cons_self
      ·exact List.mem_cons_of_mem _ (List.dropLast_subset _ ha)
     ·have hlt:k<bs.dropLast.length:=(List.getElem?_eq_some_iff.mp hk).1;rw[List.getElem?_dropLast]at hk;rw[List.length_dropLast]at hlt;rw[if_pos hlt]at hk;obtain⟨zs,es,f1,f2,f3⟩:=h5.2 k c hk;have hcA:c≠A:=fun z=>(List.nodup_cons.mp h3).1 (by rw[← z];exact List.mem_of_getElem? hk);exact⟨zs,es,by rw[List.getElem?_dropLast,if_pos (by rw[← h5.1];exact hlt)];exact f1,by rw[upd_ne hcA];exact f2,f3⟩
    have g:=Gro.new (o:=.frz o (.tup ys)) N1.rel.same hp;have N2:=N1.step (g.stp (σ:=σ) (ρ:=ρ)) (N1.rel.gro g) rfl;have q:Dq K (upd G p (.frz o (.tup ys))) (.ref p) (.tup ds'):=.tup (.inl ⟨o,upd_same,ho⟩) (e3.mono g.g);obtain⟨S3,R3⟩:=Bo N2.rel q e;exact h _ _ _ (N2.step S3 R3 (List.getElem?_set_ne hji))
   ·exact h.elim
  ·exact h.elim
 ·exact h.elim
def vm (k:Nat) (rows:List (List D)) (o:Option (D×Env)):NR:=match o with
 | some (d,ρ3)=>(match rows[k]? with
  | some ds=>if ds.length<mx then .nx (rows.set k (ds++[d])) ρ3 else .bad
  | none=>.bad)
 | none=>.bad
def qp (k:Nat) (rows:List (List D)) (r:Res X):NR:=match r with
 | .ok y ρ2=>vm k rows (fz ρ2 y)
 | .ex e ρ2=>.ex e ρ2
 | .bad=>.bad
def vn (me:EM) (rows:List (List D)) (r:Res X):NR:=match r with
 | .ok (.d (.int z)) ρ1=>(match L2.ixN rows.length z with
  | some k=>qp k rows (me ρ1)
  | none=>.bad)
 | .ex e ρ1=>.ex e ρ1
 | _=>.bad
def qhQ (mk me:EM):NM:=fun rows ρ=>vn me rows (mk ρ)
theorem qgz {tk te:TE} {mk me:EM} (hk:Yh K W tk mk) (he:Yh K W te me):Pd K W i (tDrop (tBM K "list" rAppend (tOp (rIxL K) (tVar i) tk) (tCons te tNil))) (qhQ mk me):=fun σ0 ρ0 G0 H0 Gm rows σ G H ρ N D h=>by
 unfold qhQ vn at h;obtain⟨_,_,h1,_⟩:=N.ex;refine⟨_,h1,hk.fst N.rel (fun x ρ1 e v G1 H1 S1 R1 x1=>?_) (fun e ρ1 q=>by rw[q]at h;exact Le.x N h) (fun q=>by rw[q]at h;exact h)⟩;rw[e]at h;have N1:=N.step S1 R1 rfl;split at h
 ·rename_i z ρ2 eq;cases eq;split at h
  ·rename_i k ek;have x1:Dq K G1 v (.int z):=x1;cases x1;obtain⟨A,bs,g1,g2,g3,g4,g5⟩:=N1.ex;have hAeq:V.ref _=V.ref A:=Option.some.inj (Option.some.inj (h1.symm.trans g1));have hkl:k<bs.length:=by rw[g5.1];exact (L2.ixN_seq ek).2.1
   have hbk:bs[k]?=some (bs[k]):=List.getElem?_eq_getElem hkl;generalize bs[k]=b at hbk;obtain⟨ys,ds,e1,e2,e3⟩:=g5.2 k b hbk;have hat:L2.atI (bs.map V.ref) z=some (.ref b):=by
    unfold L2.atI;rw[List.length_map,g5.1,ek];show (bs.map V.ref)[k]?=_;rw[List.getElem?_map,hbk];rfl
   refine⟨A,bs.map V.ref,z,.ref b,hAeq,rfl,.inl (.inl g2),hat,ty_list e2,?_⟩;unfold qp at h;refine he.fst N1.rel (fun y ρ3 e' u G2 H2 S2 R2 x2=>?_) (fun e ρ1 q=>by rw[q]at h;exact Le.x N1 h) (fun q=>by rw[q]at h;exact h);rw[e']at h;simp only at h;unfold vm at h;split at h
   ·rename_i d ρ4 ef;obtain⟨G3,S3,R3,q3⟩:=Nn R2 x2 ef;have N3:=(N1.step S2 R2 rfl).step S3 R3 rfl;split at h
    ·rename_i ds2 eds;split at h
     ·rename_i hz;rw[e1]at eds;cases Option.some.inj eds;obtain⟨A',bs',k1,k2,k3,k4,k5⟩:=N3.ex;have hA':A'=A:=by
       rw[g1]at k1;cases Option.some.inj (Option.some.inj k1);rfl
      subst hA';have hkp:H2 A'=some (.lst (bs.map V.ref)):=S2.fr _ _ g2 (g4 A' List.mem_cons_self).2.2;have hbs:bs'=bs:=by
       rw[hkp]at k2;have e0:bs.map V.ref=bs'.map V.ref:=by injection (Option.some.inj k2)
       have inj:∀{xs ys:List Addr},xs.map V.ref=ys.map V.ref→xs=ys:=fun {xs}=>by
        induction xs with
        | nil=>intro ys h;cases ys with
         | nil=>rfl
         | cons _ _=>cases h
        | cons x xs ih=>
         intro ys h;cases ys with
         | nil=>cases h
         | cons y ys=>
          simp only[List.map_cons,List.cons.injEq]at h;have:=h.1;cases this;rw[ih h.2]
       exact (inj e0).symm
      subst hbs;obtain⟨ys3,ds3,m1,m2,m3⟩:=k5.2 k b hbk;rw[e1]at m1;cases Option.some.inj m1;refine⟨b,ys3,u,rfl,rfl,m2,by rw[m3.length];exact Gp hz,?_⟩;exact h _ _ _ (NRel.put N3 k1 k2 k3 k4 k5 hbk (m3.append (.one q3)))
     ·exact h.elim
    ·exact h.elim
   ·exact h.elim
  ·exact h.elim
 ·rename_i eq;cases eq
 ·exact h.elim
def qd2 (rows:List (List D)) (r:Res X):NR:=match r with
 | .ok (.d (.int z)) ρ1=>(match L2.atI rows z with
  | some ds=>.rt (.tup ds) ρ1
  | none=>.bad)
 | .ex e ρ1=>.ex e ρ1
 | _=>.bad
def qi2 (mk:EM):NM:=fun rows ρ=>qd2 rows (mk ρ)
theorem qgw {tk:TE} {mk:EM} (hk:Yh K W tk mk):Pd K W i (tRet (tCB (qdO K) (tCons (tOp (rIxL K) (tVar i) tk) tNil))) (qi2 mk):=fun σ0 ρ0 G0 H0 Gm rows σ G H ρ N D h=>by
 unfold qi2 qd2 at h;obtain⟨_,_,h1,_⟩:=N.ex;refine⟨_,h1,hk.fst N.rel (fun x ρ1 e v G1 H1 S1 R1 x1=>?_) (fun e ρ1 q=>by rw[q]at h;exact Le.x N h) (fun q=>by rw[q]at h;exact h)⟩;rw[e]at h;have N1:=N.step S1 R1 rfl;split at h
 ·rename_i z ρ2 eq;cases eq;split at h
  ·rename_i ds ek;have x1:Dq K G1 v (.int z):=x1;cases x1;obtain⟨A,bs,g1,g2,g3,g4,g5⟩:=N1.ex;have hAeq:V.ref _=V.ref A:=Option.some.inj (Option.some.inj (h1.symm.trans g1));unfold L2.atI at ek;obtain⟨k,ek1,ek2⟩:=Option.bind_eq_some_iff.mp ek;have hkl:k<bs.length:=by rw[g5.1];exact (L2.ixN_seq ek1).2.1
   have hbk:bs[k]?=some (bs[k]):=List.getElem?_eq_getElem hkl;generalize bs[k]=b at hbk;obtain⟨ys,ds',e1,e2,e3⟩:=g5.2 k b hbk;have e1:rows[k]?=some ds':=e1;rw[ek2]at e1;cases Option.some.inj e1;have hat:L2.atI (bs.map V.ref) z=some (.ref b):=by
    unfold L2.atI;rw[List.length_map,g5.1,ek1];show (bs.map V.ref)[k]?=_;rw[List.getElem?_map,hbk];rfl
   refine⟨A,bs.map V.ref,z,.ref b,hAeq,rfl,.inl (.inl g2),hat,b,ys,rfl,.inl ⟨.inl (.inl e2),fun p o ho hp=>?_⟩⟩;have g:=Gro.new (o:=.frz o (.tup ys)) N1.rel.same hp;exact h σ (.ref p) _ _ (N1.stp.trans g.stp) (N1.rel.gro g) (.tup (.inl ⟨o,upd_same,ho⟩) (e3.mono g.g))
  ·exact h.elim
 ·rename_i eq;cases eq
 ·exact h.elim
def qlA (js:List Nat):NR→NR
 | .nx rows ρ=>if Mc ρ js=true then .nx rows (Vb ρ js) else .bad
 | r=>r
def nFg (js:List Nat) (M:NM):NM:=fun rows ρ=>qlA js (M rows ρ)
theorem qe3 {js:List Nat} {t:TS} {M:NM} (ht:Pd K W i t M):Pd K W i t (nFg js M):=fun σ0 ρ0 G0 H0 Gm rows σ G H ρ N D h=>by
 refine ht _ _ _ _ _ _ _ _ _ _ N D ?_;unfold nFg at h;cases e:M rows ρ with
 | bad=>rw[e]at h;exact h
 | ex x ρ1=>rw[e]at h;exact h
 | rt d ρ1=>rw[e]at h;exact h
 | nx qbF ρ1=>
  rw[e]at h;unfold qlA at h;simp only at h;split at h
  ·rename_i hw;intro σ' G' H' N';obtain⟨S2,R2⟩:=Bg N'.rel hw;exact h σ' G' H' (N'.step S2 R2 rfl)
  ·exact h.elim
def Ga (gm:GM) (M:NM):List D→NM
 | [],rows,ρ=>.nx rows ρ
 | d::ds,rows,ρ=>match gm d ρ with
  | none=>.bad
  | some ρ1=>(match M rows ρ1 with
   | .nx Bx ρ2=>Ga gm M ds Bx ρ2
   | r=>r)
def qd4 (gm:GM) (M:NM) (rows:List (List D)) (r:Res (List D)):NR:=match r with
 | .ok ds ρ1=>Ga gm M ds rows ρ1
 | .ex e ρ1=>.ex e ρ1
 | .bad=>.bad
def qi5 (im:IM) (gm:GM) (M:NM):NM:=fun rows ρ=>qd4 gm M rows (im ρ)
theorem qgy {js:List Nat} {wi:TI} {g:TG} {tb:TS} {im:IM} {gm:GM} {M:NM} (hi:qds K W wi im) (hg:GOk K js g gm) (hb:Pd K W i tb M) (hj:i∉js):Pd K W i (tFor wi g tb) (qi5 im gm M):=fun σ0 ρ0 G0 H0 Gm rows σ G H ρ N D h=>by
 unfold qi5 qd4 at h;refine hi.fst N.rel (fun ds ρ1 e J G1 H1 S1 R1 wk=>?_) (fun e ρ1 q=>by rw[q]at h;exact Le.x N h) (fun q=>by rw[q]at h;exact h);rw[e]at h;have N1:=N.step S1 R1 rfl;simp only at h;have N1':NRel K σ0 ρ0 G0 H0 G1 i rows σ G1 H1 ρ1:=⟨N1.rel,N1.stp,Same.refl _,N1.ex⟩;refine⟨fun k m σ' H'=>m=ds.length-k∧k≤ds.length∧∃G' ρ' rows',NRel K σ0 ρ0 G0 H0 G1 i rows' σ' G' H' ρ'∧Le K W σ0 ρ0 G0 H0 Gm i D (Ga gm M (ds.drop k) rows' ρ'),⟨ds.length,by simp,Nat.zero_le _,G1,ρ1,rows,N1',by simpa using h⟩,?_⟩;rintro k m σ' H' ⟨rfl,hk,G',ρ',rows',N',h'⟩;obtain⟨go,stop⟩:=wk G' H' N'.mon N'.rel.same;by_cases hlt:k<ds.length
 ·obtain⟨d,hd⟩:∃d,ds[k]?=some d:=⟨ds[k],List.getElem?_eq_getElem hlt⟩;obtain⟨hgo,hy⟩:=go k d hd;refine .inr ⟨hgo,fun σ2 H2=>∃G2 ρ2 Bx,NRel K σ0 ρ0 G0 H0 G1 i Bx σ2 G2 H2 ρ2∧Le K W σ0 ρ0 G0 H0 Gm i D (Ga gm M (ds.drop (k+1)) Bx ρ2),fun σ2 H2 ⟨G2,ρ2,Bx,R2,h2⟩=>⟨ds.length-(k+1),by omega,rfl,hlt,G2,ρ2,Bx,R2,h2⟩,fun x H2 y=>?_⟩;obtain⟨G2,gr,q2⟩:=hy x H2 y;rw[Bb hd]at h';unfold Ga at h';have N2:=N'.step gr.stp (N'.rel.gro gr) rfl;split at h'
  ·exact h'.elim
  ·rename_i ρ2 e2;refine hg _ _ _ _ _ _ _ N2.rel q2 e2 _ fun σ2 T S3 R3=>?_;have N3:=N2.step S3 R3 (T.out i hj);refine hb σ0 ρ0 G0 H0 G1 rows' σ2 G2 H2 ρ2 N3 _ ?_;cases eb:M rows' ρ2 with
   | bad=>rw[eb]at h';exact h'
   | ex x ρ3=>rw[eb]at h';exact h'
   | rt d ρ3=>rw[eb]at h';exact h'
   | nx qm1 ρ3=>
    rw[eb]at h';exact fun σ4 G4 H4 N4=>⟨G4,ρ3,qm1,N4,h'⟩
 ·have ei:k=ds.length:=by omega
  subst ei;rw[List.drop_length]at h';exact .inl ⟨stop,h' σ' G' H' ⟨N'.rel,N'.stp,N1.mon.trans N'.mon,N'.ex⟩⟩
def qlB:NR→Res Fl
 | .nx _ ρ'=>.ok .nx ρ'
 | .rt d ρ'=>.ok (.rt (.d d)) ρ'
 | .ex e ρ'=>.ex e ρ'
 | .bad=>.bad
def qbE (i:Nat) (M:NM):SM:=fun ρ=>match ρ[i]? with
 | some none=>qlB (M [[]] ρ)
 | _=>.bad
theorem qfZ {u:TS} {M:NM} (hu:Pd K W i u M):Nt K W (tSeq (tAsg (tLst (tCons (tLst tNil) tNil)) (gName i)) u) (qbE i M):=fun σ G H ρ R D h=>by
 unfold qbE at h;split at h
 ·rename_i hi;refine⟨Nat.zero_le _,fun b hb=>⟨by show 1≤_;exact (by rw[sizeLine_eq];decide),fun A hA=>?_⟩⟩;have hil:i < σ.length:=by rw[R.len];exact (List.getElem?_eq_some_iff.mp hi).1
  have hbA:b≠A:=fun z=>by subst z;rw[upd_same]at hA;cases hA
  have hA0:H A=none:=by rw[upd_ne (fun z=>hbA z.symm)]at hA;exact hA
  have gb:G b=none:=R.same.free hb;have gA:G A=none:=R.same.free hA0;have nb:¬Own σ ρ b:=fun o=>Own.there R o hb;have nA:¬Own σ ρ A:=fun o=>Own.there R o hA0;have R2:=(R.updN (o:=.lst []) gb nb).updN (o:=.lst [.ref b]) gA nA;have S2:=((Stp.refl σ ρ G H).updN (o:=.lst []) hb).updN (o:=.lst [.ref b]) hA0;have own:∀{j:Nat} {l:L} {c:Addr},ρ[j]?=some (some l)→(σ.set i (some (V.ref A)))[j]?=some (some (.ref c))→σ[j]?=some (some (.ref c)):=fun {j l c} e1 e3=>by
   have:i≠j:=fun z=>by subst z;rw[hi]at e1;cases e1
   rw[List.getElem?_set_ne this]at e3;exact e3
  have oo:∀{c:Addr},Own (σ.set i (some (.ref A))) ρ c→Own σ ρ c:=fun {c} ⟨j,l,e1,e2,e3⟩=>⟨j,l,e1,e2,own e1 e3⟩;have om:∀{c:Addr},Ss (σ.set i (some (.ref A))) ρ c→Ss σ ρ c:=fun {c} ⟨j,l,e1,e2,e3⟩=>⟨j,l,e1,e2,own e1 e3⟩;have R3:Rel K (σ.set i (some (.ref A))) G (upd (upd H b (.lst [])) A (.lst [.ref b])) ρ:=by
   refine⟨R2.same,by rw[List.length_set];exact R2.len,fun j l e=>?_,R2.exo,fun j k l l' c hjk e1 e2 o1 o2 e3 e4=>R2.sep j k l l' c hjk e1 e2 o1 o2 (own e1 e3) (own e2 e4)⟩;have:i≠j:=fun z=>by subst z;rw[hi]at e;cases e
   rw[List.getElem?_set_ne this];exact R2.at_ j l e
  have S3:Stp σ ρ G H (σ.set i (some (.ref A))) ρ G (upd (upd H b (.lst [])) A (.lst [.ref b])):=by
   refine⟨S2.g,S2.gf,S2.fr,S2.hn,fun c h=>S2.ow c (oo h),fun c h=>S2.om c (om h),fun j x e=>⟨?_,x,e⟩⟩;have:i≠j:=fun z=>by subst z;rw[hi]at e;cases e
   rw[List.getElem?_set_ne this]
  have N:NRel K σ ρ G H G i [[]] (σ.set i (some (.ref A))) G (upd (upd H b (.lst [])) A (.lst [.ref b])) ρ:=by
   refine⟨R3,S3,Same.refl _,A,[b],List.getElem?_set_self hil,by rw[upd_same];rfl,?_,fun a ha=>?_,rfl,fun k c hk=>?_⟩
   ·simp only[List.nodup_cons,List.mem_singleton,List.not_mem_nil,not_false_eq_true,List.nodup_nil,and_true];exact fun z=>hbA z.symm
   ·simp only[List.mem_cons,List.not_mem_nil,or_false]at ha;rcases ha with rfl | rfl
    ·exact⟨gA,hA0,fun o=>nA (oo o)⟩
    ·exact⟨gb,hb,fun o=>nb (oo o)⟩
   ·cases k with
    | zero=>
     simp at hk;subst hk;exact⟨[],[],rfl,by rw[upd_ne hbA,upd_same],.nil⟩
    | succ k=>simp at hk
  refine hu _ _ _ _ _ _ _ _ _ _ N D ?_;cases e:M [[]] ρ with
  | bad=>rw[e]at h;exact h.elim
  | ex x ρ1=>rw[e]at h;exact h
  | rt d ρ1=>
   rw[e]at h;exact fun σ' v G' H' S' R' q=>h σ' v G' H' S' R' q
  | nx rows ρ1=>
   rw[e]at h;exact fun σ' G' H' N'=>h σ' G' H' N'.stp N'.rel
 ·exact h.elim
end
def JN (X:Cx) (xa:Option XA) (W:WX) (i:Nat) (s:Stmt) (M:NM):Prop:=∃t,PS X s t∧Pd ⟨X.K,xa⟩ W i t M
def JNs (X:Cx) (xa:Option XA) (W:WX) (i:Nat) (ss:List Stmt) (M:NM):Prop:=∃t,PSs X ss t∧Pd ⟨X.K,xa⟩ W i t M
section
variable {X:Cx} {xa:Option XA} {W:WX} {i j:Nat} {s:Stmt} {ss body orelse:List Stmt} {M M1 M2:NM} {x y:Str} {p p' apos pos spos:Pos} {c e a b:Expr} {tm:TM} {m m2:EM}
theorem Cp:JNs X xa W i [] qd3:=⟨_,pss_nil,qgx⟩
theorem Wr (h1:JN X xa W i s M1) (h2:JNs X xa W i ss M2):JNs X xa W i (s::ss) (vj M1 M2):=let ⟨_,a,b⟩:=h1;let ⟨_,c,d⟩:=h2;⟨_,pss_cons a c,qgv b d⟩
theorem qjJ {js:List Nat} (h:JNs X xa W i ss M):JNs X xa W i ss (nFg js M):=let ⟨t,h1,h2⟩:=h;⟨t,h1,qe3 h2⟩
theorem qov {js:List Nat} (h:JN X xa W i s M):JN X xa W i s (nFg js M):=let ⟨t,h1,h2⟩:=h;⟨t,h1,qe3 h2⟩
theorem qjL (hc:JT X xa W c tm) (h1:JNs X xa W i body M1) (h2:JNs X xa W i orelse M2):JN X xa W i (.If c body orelse pos) (nIf tm M1 M2):=let ⟨_,a,b⟩:=hc;let ⟨_,c,d⟩:=h1;let ⟨_,e,f⟩:=h2;⟨_,ps_if a c e,qiY b d f⟩
theorem qjM {tg iter:Expr} {im:IM} {gm:GM} {js:List Nat} (hp:PassesOwn (model X.prog X.w) X.A X.env X.xe) (hc:X.calm=true) (hi:JI X xa W tg iter im) (hg:JG X xa js tg gm) (hb:JNs X xa W i body M) (hj:i∉js:=by decide) (hs:∀x,foldedSetIterable iter X.env x=pure x:=by intro _;rfl) :
  JN X xa W i (.For tg iter body [] pos) (qi5 im gm M):=let ⟨_,a1,a2⟩:=hi;let ⟨_,b1,b2⟩:=hg;let ⟨_,c1,c2⟩:=hb;⟨_,ps_for hp hc a1 b1 c1 hs,qgy a2 b2 c2 hj⟩
theorem qgP {lp:Pos} (hN:X.N[i]?=some x:=by rfl) (hv:Vis X.env.scope x:=by first | exact .inl rfl | exact .inr (.inl rfl) | exact .inr (.inr rfl)) (hd:(x == ("__debug__" : Str))=false:=by decide) (hcd:(x == ("__classdict__" : Str))=false:=by decide)
  (hbase:attributeBase (.Name x p) "append" X.env (eval (.Name x p) X.env)=eval (.Name x p) X.env:=by rfl)
  (hfew:((backTo pos (starEach [.List [] lp] X.env)).all (fun x=>!x.1) && (backToKw pos (keywordEach [] X.env)).all (fun x=>x.1.isSome)
   && decide (([.List [] lp]:List Expr).length+([]:List Keyword).length+(if ([]:List Keyword).isEmpty then 0 else 1)<30))=true:=by rfl)
  (hline:(apos.endLine == pos.line)=true:=by rfl) (hs:starEach [.List [] lp] X.env=(false,eval (.List [] lp) X.env)::starEach [] X.env:=by rfl) (hpl:(backTo pos (starEach [] X.env)).any (·.1)=false:=by rfl)
  (hw:swapsWith (.Call (.Attribute (.Name x p) "append" apos) [.List [] lp] [] pos) none spos.line X.env=pure false:=by rfl) :
  JN X xa W i (.Expr (.Call (.Attribute (.Name x p) "append" apos) [.List [] lp] [] pos) spos) qb3:=
 ⟨_,ps_expr (pe_bm PySem.F.plainAttrs_list PySem.F.slot_list_append PySem.F.type_list_append mt_append (pe_var hN hv hd hcd) (pa_cons (pe_lst pa_nil) pa_nil hs) hbase hfew hline hs hpl) hw,qdZ⟩
theorem qfb {sp:Pos} (hb:JE X xa W b m) (he:JE X xa W e m2) (hN:X.N[i]?=some x:=by rfl) (hv:Vis X.env.scope x:=by first | exact .inl rfl | exact .inr (.inl rfl) | exact .inr (.inr rfl)) (hd:(x == ("__debug__" : Str))=false:=by decide) (hcd:(x == ("__classdict__" : Str))=false:=by decide)
  (hix:PlainIx b:=by intro _ _;rfl)
  (hbase:attributeBase (.Subscript (.Name x p) b sp) "append" X.env (eval (.Subscript (.Name x p) b sp) X.env)=eval (.Subscript (.Name x p) b sp) X.env:=by rfl)
  (hfew:((backTo pos (starEach [e] X.env)).all (fun x=>!x.1) && (backToKw pos (keywordEach [] X.env)).all (fun x=>x.1.isSome)
   && decide (([e]:List Expr).length+([]:List Keyword).length+(if ([]:List Keyword).isEmpty then 0 else 1)<30))=true:=by rfl)
  (hline:(apos.endLine == pos.line)=true:=by rfl) (hs:starEach [e] X.env=(false,eval e X.env)::starEach [] X.env:=by rfl) (hpl:(backTo pos (starEach [] X.env)).any (·.1)=false:=by rfl)
  (hw:swapsWith (.Call (.Attribute (.Subscript (.Name x p) b sp) "append" apos) [e] [] pos) none spos.line X.env=pure false:=by rfl) :
  JN X xa W i (.Expr (.Call (.Attribute (.Subscript (.Name x p) b sp) "append" apos) [e] [] pos) spos) (qhQ m m2):=
 let ⟨_,h1,h2⟩:=hb;let ⟨_,h3,h4⟩:=he
 ⟨_,ps_expr (pe_bm PySem.F.plainAttrs_list PySem.F.slot_list_append PySem.F.type_list_append mt_append (pe_ix ix_list (pe_var hN hv hd hcd) h1 hix) (pa_cons h3 pa_nil hs) hbase hfew hline hs hpl) hw,qgz h2 h4⟩
theorem qcu {pt py:Pos} (hNd:X.N.Nodup) (hm:X.mg "tuple"=none) (hj:X.N[j]?=some y:=by rfl) (hy:Loc X.env.scope y:=by first | exact .inl rfl | exact .inr rfl) (hN:X.N[i]?=some x:=by rfl) (hv:Vis X.env.scope x:=by first | exact .inl rfl | exact .inr (.inl rfl) | exact .inr (.inr rfl)) (hd:(x == ("__debug__" : Str))=false:=by decide) (hcd:(x == ("__classdict__" : Str))=false:=by decide)
  (hbase:attributeBase (.Name x p) "pop" X.env (eval (.Name x p) X.env)=eval (.Name x p) X.env:=by rfl) (hline:(apos.endLine == pos.line)=true:=by rfl) (hg:Gl X "tuple":=by rfl)
  (he:starEach [.Call (.Attribute (.Name x p) "pop" apos) [] [] pos] X.env=(false,eval (.Call (.Attribute (.Name x p) "pop" apos) [] [] pos) X.env)::starEach [] X.env:=by rfl) (hpl:(backTo p' (starEach [] X.env)).any (·.1)=false:=by rfl)
  (hs:swapsWith (.Call (.Name "tuple" pt) [.Call (.Attribute (.Name x p) "pop" apos) [] [] pos] [] p') (some (.Name y py)) spos.line X.env=pure false:=by rfl) (hf:X.fn y=true∨X.env.scope.names.lookup y=some .local:=by first | exact .inl rfl | exact .inr rfl) :
  JN X xa W i (.Assign [.Name y py] (.Call (.Name "tuple" pt) [.Call (.Attribute (.Name x p) "pop" apos) [] [] pos] [] p') spos) (xl i j):=
 ⟨_,ps_set hNd hj hy (pe_callTy (r:=qdO X.K) Wf hg hm Hj (pa_cons (pe_bm0 PySem.F.plainAttrs_list PySem.F.slot_list_pop PySem.F.type_list_pop mt_pop (pe_var hN hv hd hcd) hbase hline) pa_nil he) (by decide) (by decide) he hpl) hs hf,qdY⟩
theorem qjK {pt sp:Pos} (hm:X.mg "tuple"=none) (hb:JE X xa W b m) (hN:X.N[i]?=some x:=by rfl) (hv:Vis X.env.scope x:=by first | exact .inl rfl | exact .inr (.inl rfl) | exact .inr (.inr rfl)) (hd:(x == ("__debug__" : Str))=false:=by decide) (hcd:(x == ("__classdict__" : Str))=false:=by decide)
  (hix:PlainIx b:=by intro _ _;rfl) (hg:Gl X "tuple":=by rfl)
  (he:starEach [.Subscript (.Name x p) b sp] X.env=(false,eval (.Subscript (.Name x p) b sp) X.env)::starEach [] X.env:=by rfl) (hpl:(backTo p' (starEach [] X.env)).any (·.1)=false:=by rfl) :
  JN X xa W i (.Return (some (.Call (.Name "tuple" pt) [.Subscript (.Name x p) b sp] [] p')) spos) (qi2 m):=
 let ⟨_,h1,h2⟩:=hb
 ⟨_,ps_ret (pe_callTy (r:=qdO X.K) Wf hg hm Hj (pa_cons (pe_ix ix_list (pe_var hN hv hd hcd) h1 hix) pa_nil he) (by decide) (by decide) he hpl),qgw h2⟩
theorem qeh {lp lp2:Pos} (hNd:X.N.Nodup) (h:JNs X xa W i ss M) (hN:X.N[i]?=some x:=by rfl) (hx:Loc X.env.scope x:=by first | exact .inl rfl | exact .inr rfl)
  (he:starEach [.List [] lp] X.env=(false,eval (.List [] lp) X.env)::starEach [] X.env:=by rfl)
  (hs:swapsWith (.List [.List [] lp] lp2) (some (.Name x p)) spos.line X.env=pure false:=by rfl) (hf:X.fn x=true∨X.env.scope.names.lookup x=some .local:=by first | exact .inl rfl | exact .inr rfl) :
  JSs X xa W (.Assign [.Name x p] (.List [.List [] lp] lp2) spos::ss) (qbE i M):=
 let ⟨_,h1,h2⟩:=h
 ⟨_,pss_cons (ps_set hNd hN hx (pe_lst (pa_cons (pe_lst pa_nil) pa_nil he)) hs hf) h1,qfZ h2⟩
end
end DL
namespace DL
open PySem L2
section
variable {ρ ρ1 ρ2:Env} {e:Exn} {i j:Int} {a b d:D} {ds es:List D} {x y:X} {C m:Str} {n:Nat} {R:List L→FRes} {tb:MTb} {fs:List (Str×D)}
theorem yc {xs:List X}:qbp n R xs ρ=clL n R xs (Jx ρ xs) ρ:=by
 have h:=qeD (ρ:=ρ) (n:=n) (F:=R) (ma:=fun ρ=>.ok xs ρ);exact h
@[simp] theorem qmn {ma:EM} {am:AM}:yb tb m n ma am ρ=bindR (ma ρ) (vz tb m n am):=(rfl)
def mtF (tb:MTb) (m:Str) (n:Nat) (am:AM) (x:X) (o:Option D) (ρ1:Env):Res X:=match o with
 | some (.ins C fs)=>(match tb.lookup C,fs.lookup m with
  | some R,none=>bindR (am ρ1) (Oz n R x)
  | _,_=>.bad)
 | _=>.bad
@[simp] theorem qjx {am:AM}:vz tb m n am x ρ=mtF tb m n am x (look ρ x) ρ:=(rfl)
def mtG (n:Nat) (am:AM) (x:X) (o:Option (List L→FRes)) (p:Option D) (ρ1:Env):Res X:=match o,p with
 | some R,none=>bindR (am ρ1) (Oz n R x)
 | _,_=>.bad
@[simp] theorem qq6 {am:AM}:mtF tb m n am x (some (.ins C fs)) ρ=mtG n am x (tb.lookup C) (fs.lookup m) ρ:=(rfl)
@[simp] theorem qq5 {am:AM}:mtG n am x (some R) none ρ=bindR (am ρ) (Oz n R x):=(rfl)
@[simp] theorem qjw {xs:List X}:Oz n R x xs ρ=clL n R (x::xs) (Jx ρ (x::xs)) ρ:=by
 unfold Oz;exact yc
@[simp] theorem qiv {me:EM} {mc:D→SM}:Bw me mc ρ=bindR (me ρ) (kMt mc):=(rfl)
@[simp] theorem qrJ {mc:D→SM}:kMt mc x ρ=mtE mc (qkL ρ x) ρ:=(rfl)
@[simp] theorem qq7 {mc:D→SM}:mtE mc (some d) ρ=mc d ρ:=(rfl)
@[simp] theorem qsA:qkL ρ (.d d)=some d:=(rfl)
@[simp] theorem qlF {s:Str} {mb:SM} {mr:D→SM}:Px s mb mr d ρ=mcL (eqB d (.str s)) mb (mr d) ρ:=(rfl)
@[simp] theorem qty {mb mr:SM}:mcL (some true) mb mr ρ=mb ρ:=(rfl)
@[simp] theorem qtz {mb mr:SM}:mcL (some false) mb mr ρ=mr ρ:=(rfl)
@[simp] theorem qlG {mb:SM}:qaX mb d ρ=mb ρ:=(rfl)
def sfE:Option (List Int)→Option (List D)
 | some ns=>some ((qdK ns).map .int)
 | none=>none
@[simp] theorem qmJ:Lr [.lst ds]=sfE (T5 ds):=by unfold Lr sfE;simp;try (cases T5 ds<;>rfl)
@[simp] theorem qqi {ns:List Int}:sfE (some ns)=some ((qdK ns).map .int):=(rfl)
@[simp] theorem qnL {kvs:List (Key×D)}:qd9 [.dct kvs]=some (kvs.map fun kv=>qlR kv.1):=(rfl)
end
theorem qkZ {ds:List D} (n:Nat):L2.atI ds (n:Int)=ds[n]?:=by
 unfold L2.atI L2.ixN;by_cases h:n<ds.length
 ·simp[h]
 ·have h1:¬(n:Int)<ds.length:=by omega
  simp[h1];omega
@[simp] theorem qsI {ds:List D}:L2.atI ds 4=ds[4]?:=qkZ 4
section
variable {ρ:Env} {i j:Int} {a b d:D} {ds es:List D} {x y:X} {C f:Str} {tb:CTb} {it:ITb} {fs:List (Str×D)} {s t:Str}
@[simp] theorem qpe {m:EM}:qkF it m ρ=bindR (m ρ) (ql6 it):=(rfl)
@[simp] theorem qol:ql6 it x ρ=iiF it (look ρ x) ρ:=(rfl)
@[simp] theorem qr8:iiF it (some (.ins C fs)) ρ=iiG (it.lookup C) ρ:=(rfl)
@[simp] theorem qr7 {b:Bool}:iiG (some b) ρ=.ok (.d (.bl b)) ρ:=(rfl)
end
section
variable {ρ ρ1:Env} {e:Exn} {a b d:D} {ds:List D} {x y:X} {C f:Str} {cs:List Str} {fs:List (Str×D)} {n i:Nat} {R:List L→FRes} {tb:MTb}
@[simp] theorem qpf {m:EM}:Ma cs f m ρ=bindR (m ρ) (ql7 cs f):=(rfl)
@[simp] theorem qon:ql7 cs f x ρ=fdF cs f (look ρ x) ρ:=(rfl)
@[simp] theorem qso:fdF cs f (some (.ins C fs)) ρ=if C∈cs then fdG (fs.lookup f) ρ else .bad:=(rfl)
@[simp] theorem qsn:fdG (some d) ρ=.ok (.d d) ρ:=(rfl)
def oiE:Option (Option L)→Option (L×Str×List (Str×D))
 | some (some (.m (.ins C fs)))=>some (.m (.ins C fs),C,fs)
 | some (some (.r (.ins C fs)))=>some (.r (.ins C fs),C,fs)
 | _=>none
@[simp] theorem qtt:oiE (some (some (.r (.ins C fs))))=some (.r (.ins C fs),C,fs):=(rfl)
def qqh (cs:List Str) (f:Str) (i:Nat) (d:D) (o:Option (L×Str×List (Str×D))) (ρ2:Env):Res Fl:=match o with
 | some (l,C,fs)=>if C∈cs∧fs.length<900 then .ok .nx (ρ2.set i (some (l.put (.ins C (putD f d fs))))) else .bad
 | none=>.bad
def sfO (cs:List Str) (f:Str) (i:Nat):Option (D×Env)→Res Fl
 | some (d,ρ2)=>qco cs f i d ρ2
 | none=>.bad
def kSF (cs:List Str) (f:Str) (i:Nat):X→Env→Res Fl:=fun x ρ1=>sfO cs f i (fz ρ1 x)
@[simp] theorem qlg {m:EM}:Bv cs f i m ρ=bindR (m ρ) (kSF cs f i):=(rfl)
@[simp] theorem qrB:kSF cs f i x ρ=sfO cs f i (fz ρ x):=(rfl)
@[simp] theorem qqg:sfO cs f i (some (d,ρ))=qco cs f i d ρ:=(rfl)
@[simp] theorem qlW:qco cs f i d ρ=qqh cs f i d (oiE ρ[i]?) ρ:=(rfl)
@[simp] theorem qmQ {l:L}:qqh cs f i d (some (l,C,fs)) ρ=if C∈cs∧fs.length<900 then .ok .nx (ρ.set i (some (l.put (.ins C (putD f d fs))))) else .bad:=(rfl)
@[simp] theorem qln {v:D}:putD f v []=[(f,v)]:=(rfl)
@[simp] theorem qiE {g:Str} {v w:D}:putD f v ((g,w)::fs)=if g=f then (g,v)::fs else (g,w)::putD f v fs:=(rfl)
@[simp] theorem qsp {ma:AM}:fMk C n R ma ρ=bindR (ma ρ) (kMk C n R):=(rfl)
def qrb (C:Str) (n:Nat) (F:List L→FRes) (xs:List X) (o:Option (List L)) (ρ1:Env):Res D:=match o with
 | none=>.bad
 | some as=>if xs.length+1=n∧(slots xs).Nodup then mkR (F (.r (.ins C [])::as)) ρ1 xs as else .bad
@[simp] theorem qrK {xs:List X}:kMk C n R xs ρ=qrb C n R xs (Jx ρ xs) ρ:=(rfl)
@[simp] theorem qnw {xs:List X} {as:List L}:qrb C n R xs (some as) ρ=if xs.length+1=n∧(slots xs).Nodup then mkR (R (.r (.ins C [])::as)) ρ xs as else .bad:=(rfl)
@[simp] theorem qq9 {xs:List X} {as bs:List L}:mkR (.ok (.d .non) (.r d::bs)) ρ xs as=.ok d (Yd ρ xs as bs):=(rfl)
def qrT (ds:List D):List X→Env→Res (List X):=fun xs ρ1=>.ok (xs++ds.map .d) ρ1
@[simp] theorem qpB {ma:AM}:qh1 ma ds ρ=bindR (ma ρ) (qrT ds):=(rfl)
@[simp] theorem qos {xs:List X}:qrT ds xs ρ=.ok (xs++ds.map .d) ρ:=(rfl)
@[simp] theorem qo8 {m:EM}:qkD tb m ρ=bindR (m ρ) (ql1 tb):=(rfl)
def prG (x:X) (o:Option (List L→FRes)) (ρ1:Env):Res X:=match o with
 | some R=>qi0 (qbp 1 R [x] ρ1)
 | none=>.bad
def pyF (tb:MTb) (x:X) (o:Option D) (ρ1:Env):Res X:=match o with
 | some (.ins C _)=>prG x (tb.lookup C) ρ1
 | _=>.bad
@[simp] theorem qoc:ql1 tb x ρ=pyF tb x (look ρ x) ρ:=(rfl)
@[simp] theorem qqx:pyF tb x (some (.ins C fs)) ρ=prG x (tb.lookup C) ρ:=(rfl)
@[simp] theorem qqC:prG x (some R) ρ=qi0 (clL 1 R [x] (Jx ρ [x]) ρ):=by
 show qi0 (qbp 1 R [x] ρ)=_;rw[yc]
@[simp] theorem qnn {α:Type} {v:α}:qi0 (.ok v ρ)=.ok v ρ:=(rfl)
variable {rows:List (List D)} {M N:NM}
@[simp] theorem qnr:qd3 rows ρ=.nx rows ρ:=(rfl)
def nSq (N:NM):NR→NR
 | .nx qbF ρ1=>N qbF ρ1
 | r=>r
@[simp] theorem qnp:vj M N rows ρ=nSq N (M rows ρ):=by
 unfold vj nSq;cases M rows ρ<;>rfl
@[simp] theorem qqV:nSq N (.nx rows ρ)=N rows ρ:=(rfl)
@[simp] theorem qqU:nSq N (.rt d ρ)=.rt d ρ:=(rfl)
@[simp] theorem qqY {c:TM}:nIf c M N rows ρ=qi4 M N rows (c ρ):=(rfl)
@[simp] theorem qqZ:qi4 M N rows (.ok true ρ)=M rows ρ:=(rfl)
@[simp] theorem qq0:qi4 M N rows (.ok false ρ)=N rows ρ:=(rfl)
@[simp] theorem qlC:qb3 rows ρ=if rows.length<mx then .nx (rows++[[]]) ρ else .bad:=(rfl)
def npS (i j:Nat) (rows:List (List D)):Option Env→NR
 | some ρ'=>if j≠i then .nx rows.dropLast ρ' else .bad
 | none=>.bad
def npL (i j:Nat) (rows:List (List D)) (ρ:Env):Option (List D)→NR
 | some ds=>npS i j rows (Lq ρ j (.d (.tup ds)))
 | none=>.bad
@[simp] theorem qly {j:Nat}:xl i j rows ρ=npL i j rows ρ rows.getLast?:=by
 unfold xl npL npS;cases rows.getLast? with
 | none=>rfl
 | some ds=>
  first
   | rfl
   | (cases Lq ρ j (.d (.tup ds))<;>rfl)
@[simp] theorem qqQ {j:Nat}:npL i j rows ρ (some ds)=npS i j rows (Lq ρ j (.d (.tup ds))):=(rfl)
@[simp] theorem qqP {j:Nat}:npS i j rows (some ρ)=if j≠i then .nx rows.dropLast ρ else .bad:=(rfl)
@[simp] theorem qnv {mk me:EM}:qhQ mk me rows ρ=vn me rows (mk ρ):=(rfl)
def nA1 (me:EM) (rows:List (List D)) (ρ1:Env):Option Nat→NR
 | some k=>qp k rows (me ρ1)
 | none=>.bad
@[simp] theorem qi8 {me:EM} {z:Int}:vn me rows (.ok (.d (.int z)) ρ)=nA1 me rows ρ (L2.ixN rows.length z):=(rfl)
@[simp] theorem qq3 {me:EM} {k:Nat}:nA1 me rows ρ (some k)=qp k rows (me ρ):=(rfl)
@[simp] theorem qi7 {k:Nat}:qp k rows (.ok x ρ)=vm k rows (fz ρ x):=(rfl)
def nA3 (k:Nat) (rows:List (List D)) (d:D) (ρ3:Env):Option (List D)→NR
 | some ds=>if ds.length<mx then .nx (rows.set k (ds++[d])) ρ3 else .bad
 | none=>.bad
@[simp] theorem qi6 {k:Nat}:vm k rows (some (d,ρ))=nA3 k rows d ρ rows[k]?:=(rfl)
@[simp] theorem qq2 {k:Nat}:nA3 k rows d ρ (some ds)=if ds.length<mx then .nx (rows.set k (ds++[d])) ρ else .bad:=(rfl)
@[simp] theorem qnq {mk:EM}:qi2 mk rows ρ=qd2 rows (mk ρ):=(rfl)
def nRE (ρ1:Env):Option (List D)→NR
 | some ds=>.rt (.tup ds) ρ1
 | none=>.bad
@[simp] theorem qlx {z:Int}:qd2 rows (.ok (.d (.int z)) ρ)=nRE ρ (L2.atI rows z):=(rfl)
@[simp] theorem qqW:nRE ρ (some ds)=.rt (.tup ds) ρ:=(rfl)
@[simp] theorem qq1 {js:List Nat}:nFg js M rows ρ=qlA js (M rows ρ):=(rfl)
@[simp] theorem qnt {js:List Nat}:qlA js (.nx rows ρ)=if Mc ρ js=true then .nx rows (Vb ρ js) else .bad:=(rfl)
@[simp] theorem qns {im:IM} {gm:GM}:qi5 im gm M rows ρ=qd4 gm M rows (im ρ):=(rfl)
@[simp] theorem qlz {gm:GM}:qd4 gm M rows (.ok ds ρ)=Ga gm M ds rows ρ:=(rfl)
def nsE (i:Nat) (M:NM) (ρ:Env):Option (Option L)→Res Fl
 | some none=>qlB (M [[]] ρ)
 | _=>.bad
@[simp] theorem qli:qbE i M ρ=nsE i M ρ ρ[i]?:=(rfl)
@[simp] theorem qqO:nsE i M ρ (some none)=qlB (M [[]] ρ):=(rfl)
@[simp] theorem qnu:qlB (.rt d ρ)=.ok (.rt (.d d)) ρ:=(rfl)
theorem Gu {gm:GM} {Bx:List (List D)} {ρ2:Env} (h1:gm d ρ=some ρ1) (h2:M rows ρ1=.nx Bx ρ2):Ga gm M (d::ds) rows ρ=Ga gm M ds Bx ρ2:=by
 show (match gm d ρ with
  | none=>NR.bad
  | some ρ1=>(match M rows ρ1 with
   | .nx Bx ρ2=>Ga gm M ds Bx ρ2
   | r=>r))=_
 rw[h1];simp only[h2]
@[simp] theorem qaV {gm:GM}:Ga gm M [] rows ρ=.nx rows ρ:=(rfl)
end
theorem xj {a b:String}:(Str.ofString a=Str.ofString b)↔a=b:=by
 constructor
 ·intro h;rw[Str.ofString_eq_toList,Str.ofString_eq_toList]at h;have h:(a.toList.map Char.toNat).toArray=(b.toList.map Char.toNat).toArray:=by injection h
  have h:a.toList.map Char.toNat=b.toList.map Char.toNat:=by simpa using h
  have inj:∀{xs ys:List Char},xs.map Char.toNat=ys.map Char.toNat→xs=ys:=by
   intro xs;induction xs with
   | nil=>intro ys h;cases ys with
    | nil=>rfl
    | cons _ _=>cases h
   | cons x xs ih=>
    intro ys h;cases ys with
    | nil=>cases h
    | cons y ys=>
     simp only[List.map_cons,List.cons.injEq]at h;rw[ih h.2,Char.toNat_inj.mp h.1]
  exact String.toList_inj.mp (inj h)
 ·rintro rfl;rfl
theorem qbw (a:String):qfT (Str.ofString a)=true:=by
 unfold qfT;rw[Str.ofString_eq_toList];simp;intro c _;have:=c.valid;unfold UInt32.isValidChar Nat.isValidChar at this;show c.val.toNat<1114112;omega
@[simp] theorem qo4 {a b:String}:eqB (.str (Str.ofString a)) (.str (Str.ofString b))=some (decide (a=b)):=by
 rw[qky (qbw a) (qbw b)];congr 1;by_cases h:a=b
 ·subst h;simp
 ·have:¬Str.ofString a=Str.ofString b:=fun z=>h (xj.mp z);simp[h,this]
@[simp] theorem qrZ {n:Nat}:L2.ixN (n+1) (-1)=some n:=by
 unfold L2.ixN;have h1:¬(0:Int)≤-1:=by decide
 have h2:-((n+1:Nat):Int)≤-1:=by omega
 rw[if_neg h1,if_pos h2];congr 1;omega
@[simp] theorem qjW {n:Nat}:L2.ixN (n+1+1) (-2)=some n:=by
 unfold L2.ixN;have h1:¬(0:Int)≤-2:=by decide
 have h2:-((n+1+1:Nat):Int)≤-2:=by omega
 rw[if_neg h1,if_pos h2];congr 1;omega
theorem qfz {ds:List D} {a b:D}:L2.atI (ds++[a,b]) (-2)=some a:=by
 unfold L2.atI;rw[show (ds++[a,b]).length=ds.length+1+1 by simp,qjW];simp
@[simp] theorem qlL {α:Type} {a b:String} {v:α} {fs:List (Str×α)}:List.lookup (Str.ofString a) ((Str.ofString b,v)::fs)=if a=b then some v else List.lookup (Str.ofString a) fs:=by
 by_cases h:a=b
 ·subst h;simp[List.lookup]
 ·have:¬Str.ofString a=Str.ofString b:=fun z=>h (xj.mp z);have hb:(Str.ofString a == Str.ofString b)=false:=by simpa using this
  simp[List.lookup,hb,h]
@[simp] theorem qqL {a b:String}:(Str.ofString a=Str.ofString b)=(a=b):=propext xj
end DL
namespace DL
open PySem PySem.Spec PyProof.Rows L2
theorem qc4 {α:Type} {K:PySem.W.Frag} {G:Hp} {f:α→V} {g:α→D} (h:∀x,Dq K G (f x) (g x)):∀xs:List α,DqA K G (xs.map f) (xs.map g)
 | []=>.nil
 | x::xs=>.cons (h x) (qc4 h xs)
theorem qpj {K:PySem.W.Frag} {G:Hp} (a b:Int):DqA K G (rgV a b) (Z4 a (b-a).toNat):=qc4 (fun _=>.int _) _
def qbH (a b:Int):Prop:=-1000000≤a∧a≤1000000∧-1000000≤b∧b≤1000000
instance (a b:Int):Decidable (qbH a b):=inferInstanceAs (Decidable (_∧_∧_∧_))
theorem qga {a b:Int} (h:qbH a b):RgOk a b:=by
 obtain⟨h1,h2,h3,h4⟩:=h;exact⟨by omega,by omega,by omega,by omega,by omega⟩
def iX:X→Option Int
 | .d (.int i)=>some i
 | _=>none
theorem qoG {K:Kx} {σ:L2.St} {G:Hp} {v:V} {x:X} {i:Int} (h:XOk K σ G v x) (e:iX x=some i):v=.int i:=by
 unfold iX at e;split at e
 ·cases Option.some.inj e;cases (show Dq K G v (.int _) from h);rfl
 ·cases e
def ql0 (x:X) (ρ1:Env):Res (Int×Int):=match iX x with
 | some n=>if qbH 0 n then .ok (0,n) ρ1 else .bad
 | none=>.bad
def quk (x:X) (y:X) (ρ2:Env):Res (Int×Int):=match iX x,iX y with
 | some a,some b=>if qbH a b then .ok (a,b) ρ2 else .bad
 | _,_=>.bad
def rB1 (m:EM):Env→Res (Int×Int):=fun ρ=>bindR (m ρ) ql0
def qo0 (p:Int×Int) (ρ:Env):Res D:=.ok (.lst (Z4 p.1 (p.2-p.1).toNat)) ρ
def fLR (m:Env→Res (Int×Int)):FM:=fun ρ=>bindR (m ρ) qo0
def qdp (K:Kx) (W:WX) (σ:L2.St) (G H:Hp) (ρ:Env) (Q:Int→Int→Hp→Prop):Res (Int×Int)→Prop
 | .ok p ρ'=>∀G' H',Stp σ ρ G H σ ρ' G' H'→Rel K σ G' H' ρ'→qbH p.1 p.2→Q p.1 p.2 H'
 | .ex e ρ'=>Kl K W σ G H ρ e ρ'
 | .bad=>False
def qk4 (K:Kx) (W:WX) (t:L2.St→Hp→(Int→Int→Hp→Prop)→Prop) (m:Env→Res (Int×Int)):Prop:=∀σ G H ρ,Rel K σ G H ρ→∀Q,qdp K W σ G H ρ Q (m ρ)→t σ H Q
theorem qdp.step {K:Kx} {W:WX} {σ:L2.St} {G H G1 H1:Hp} {ρ ρ1:Env} {Q:Int→Int→Hp→Prop} (S:Stp σ ρ G H σ ρ1 G1 H1):∀{r:Res (Int×Int)},qdp K W σ G H ρ Q r→qdp K W σ G1 H1 ρ1 Q r
 | .ok _ _,h=>fun G' H' S'=>h G' H' (S.trans S')
 | .ex _ _,h=>Kl.step S h
 | .bad,h=>h
section
variable {K:Kx} {W:WX}
theorem qta {t:TE} {m:EM} (ht:Yh K W t m):qk4 K W (tRg1 t) (rB1 m):=fun σ G H ρ R Q h=>by
 unfold rB1 bindR at h;refine ht.fst R (fun x ρ1 e v G1 H1 S1 R1 x1=>?_) (fun e ρ1 q=>by rw[q]at h;exact h) (fun q=>by rw[q]at h;exact h);rw[e]at h;have h:=qdp.step S1 h;simp only at h;unfold ql0 at h;split at h
 ·rename_i n en;split at h
  ·rename_i hn;exact⟨n,qoG x1 en,h G1 H1 (Stp.refl _ _ _ _) R1 hn⟩
  ·exact h.elim
 ·exact h.elim
theorem qk4.fst {t:L2.St→Hp→(Int→Int→Hp→Prop)→Prop} {m:Env→Res (Int×Int)} {σ:L2.St} {G H:Hp} {ρ:Env} (h:qk4 K W t m) (R:Rel K σ G H ρ) {T:Int→Int→Hp→Prop}
  (k:∀a b ρ1,m ρ=.ok (a,b) ρ1→∀G1 H1,Stp σ ρ G H σ ρ1 G1 H1→Rel K σ G1 H1 ρ1→qbH a b→T a b H1) (kx:∀e ρ1,m ρ=.ex e ρ1→Kl K W σ G H ρ e ρ1) (kb:m ρ≠.bad):t σ H T:=by
 refine h σ G H ρ R T ?_;cases e:m ρ with
 | ok p ρ1=>exact fun G1 H1 S R r=>k p.1 p.2 ρ1 e G1 H1 S R r
 | ex e' ρ1=>exact kx e' ρ1 e
 | bad=>exact absurd e kb
theorem qoS {t:L2.St→Hp→(Int→Int→Hp→Prop)→Prop} {m:Env→Res (Int×Int)} (ht:qk4 K W t m):yn K W (tLstRg t) (fLR m):=fun σ G H ρ R Q h=>by
 unfold fLR bindR at h;refine ht.fst R (fun a b ρ1 e G1 H1 S1 R1 r=>?_) (fun e ρ1 q=>by rw[q]at h;exact h) (fun q=>by rw[q]at h;exact h);rw[e]at h;have h:=Mb.step S1 h;refine⟨qga r,fun p hp=>?_⟩;have g:=Gro.newH (o:=.lst (rgV a b)) R1.same hp;exact h _ _ _ g.stp (R1.gro g) (Frs.new R1 hp (qpj a b))
end
def qqq:SM:=fun _=>.bad
def JR (X:Cx) (xa:Option XA) (W:WX) (e:Expr) (m:Env→Res (Int×Int)):Prop:=∃t,PRg X e t∧qk4 ⟨X.K,xa⟩ W t m
section
variable {X:Cx} {xa:Option XA} {W:WX} {e a b:Expr} {m ma mb:EM} {mr:Env→Res (Int×Int)} {p pos:Pos}
theorem qtQ (hm:X.mg "range"=none) (h:JE X xa W e m) (hg:Gl X "range":=by rfl) (na:starEach [e] X.env=(false,eval e X.env)::starEach [] X.env:=by rfl):JR X xa W (.Call (.Name "range" p) [e] [] pos) (rB1 m):=
 let ⟨_,h1,h2⟩:=h;⟨_,prg_1 hg hm h1 na,qta h2⟩
theorem qox (hc:X.calm=true) (hm:X.mg "list"=none) (h:JR X xa W e mr) (hg:Gl X "list":=by rfl) (na:starEach [e] X.env=(false,eval e X.env)::starEach [] X.env:=by rfl):JF X xa W (.Call (.Name "list" p) [e] [] pos) (fLR mr):=
 let ⟨_,h1,h2⟩:=h;⟨_,pe_listRg hc hg hm h1 na,qoS h2⟩
theorem qjI {s:Stmt}:JS X xa W s qqq:=⟨fun _ _ _=>False,⟨fun _ _ _ _ _ _ h=>h.elim⟩,fun _ _ _ _ _ _ h=>h⟩
end
structure OpOk (K:PySem.W.Frag) (C nm:Str) (f:Addr):Prop where
 slf:PySem.W.selfFirst K (cA K C)=true
 at_:PySem.W.findIn K (.ref (cA K C)) nm=some (some (.ref f))
 fn:PySem.W.isFn K (.ref f)=true
structure OEnt (P:Program) (w:World) (K:PySem.W.Frag) (mg:Str→Option Value) (base:Heap) (k:Nat) (nm:Str) (n:Nat) (C:Str) (R:List L→FRes):Prop where
 ex:∃f fd ps,OpOk K C nm f∧FnOk P w K mg base (L2.CX P w) k f fd ps (spF K n R)∧Binds K fd ps []
def qfD (P:Program) (w:World) (K:PySem.W.Frag) (mg:Str→Option Value) (base:Heap) (k:Nat) (nm:Str) (n:Nat) (tb:MTb):Prop:=∀q∈tb,OEnt P w K mg base k nm n q.1 q.2
theorem qiV {K:PySem.W.Frag} {C nm C2:Str} (q:opB K C nm C2=true):OpOk K C nm (maA K C2 nm):=by
 unfold opB at q;simp only[Bool.and_eq_true]at q;exact⟨q.1,He.eqO_ok q.2.1,q.2.2⟩
section
variable {P:Program} {w:World} {K:PySem.W.Frag} {mg:Str→Option Value} {base:Heap} {k j n:Nat} {nm C C2:Str} {R:List L→FRes} {tb:MTb}
theorem qdW:qfD P w K mg base k nm n []:=fun _ h=>nomatch h
theorem qb0 (h:OEnt P w K mg base k nm n C R) (t:qfD P w K mg base k nm n tb):qfD P w K mg base k nm n ((C,R)::tb):=fun q hq=>by
 rcases List.mem_cons.mp hq with rfl | hq
 ·exact h
 ·exact t q hq
theorem qgt (c:OpOk K C nm (maA K C2 nm)) (F:FnM P w K mg base j C2 nm n R) (hj:j≤k):OEnt P w K mg base k nm n C R:=by
 obtain⟨fd,ps,h,hb⟩:=F.ex;exact⟨⟨_,fd,ps,c,h.mono hj,hb⟩⟩
end
def qpV (K:PySem.W.Frag) (tb:MTb) (E:L2.St→XK) (ta tb2:TE):TE:=fun σ H Q=>ta σ H fun x H1=>tb2 σ H1 fun y H2=>∃a b C R dx fs dy gs,x=.ref a∧y=.ref b∧H2 a=some (.ins (cA K C) dx fs)∧H2 b=some (.ins (cA K C) dy gs)∧tb.lookup C=some R∧spF K 2 R [x,y] H2 Q (E σ)
section
variable {X:Cx} {a b:Expr} {ta tb2:TE} {pos:Pos} {op:Operator} {k:Nat} {tb:MTb} {E:L2.St→XK}
theorem qbe {X:Cx} {pins:List (Addr×Obj)} {σ:L2.St} {Q:VK} {v:Value} {s:Shared} (h:EP X pins σ Q v s):PySem.W.CmpBack (EP X pins σ Q) v s:=by
 cases v with
 | notImplemented=>
  obtain⟨v,H,I,r,q⟩:=h;cases v<;>first | (obtain⟨_,r⟩:=r;cases r) | cases r
 | _=>exact h
theorem qiP (ha:PE X a ta) (hb:PE X b tb2) (T:qfD X.prog X.w X.K X.mg X.base k (PySem.dunder op.info.2) 2 tb) (hr:Room k X.A) (hx:∀σ,PassesAt (L2.CX X.prog X.w) X σ (E σ)):PE X (.BinOp a op b pos) (qpV X.K tb E ta tb2):=by
 refine⟨fun pins s σ H Q I h=>?_⟩;refine wpAny_BinOp (thn (ha.run pins s σ H _ I h) fun v s1 ⟨x,H1,I1,r1,q1⟩=>thn (hb.run pins s1 σ H1 _ I1 q1) fun u s2 ⟨y,H2,I2,r2,q2⟩=>?_);obtain⟨a',b',C,R,dx,fs,dy,gs,ex,ey,e1,e2,eR,q⟩:=q2;subst ex ey;obtain rfl:v=Value.ref a':=r1;obtain rfl:u=Value.ref b':=r2;obtain⟨f,fd,ps,ok,F,hbd⟩:=(T _ (Ao eR)).ex;obtain⟨mA,O,_⟩:=ins_get I2.hok e1;obtain⟨od,J,_⟩:=O.look;obtain⟨mB,O2,_⟩:=ins_get I2.hok e2;obtain⟨od2,J2,_⟩:=O2.look;obtain⟨m0,fr⟩:=I2.fr;refine PySem.W.binop_K fr I2.ok.mod.kin J J2.type ok.slf ok.at_ ok.fn ?_;exact thn (run_fnSD (us:=[.ref a',.ref b']) (vs:=[.ref a',.ref b']) F hr hbd .nil (hx σ) I2 (.cons rfl (.cons rfl .nil)) q) fun v s h=>qbe h
end
def qju (tb:MTb) (x:X):X→Env→Res X:=fun y ρ2=>match look ρ2 x,look ρ2 y with
 | some (.ins C _),some (.ins C2 _)=>if C2=C then (match tb.lookup C with
  | some R=>qbp 2 R [x,y] ρ2
  | none=>.bad) else .bad
 | _,_=>.bad
def qhV (tb:MTb) (ma mb:EM):EM:=fun ρ=>bindR (ma ρ) fun x ρ1=>bindR (mb ρ1) (qju tb x)
theorem qkm {K:Kx} {W:WX} {tb:MTb} {ta tb2:TE} {ma mb:EM} (ha:Yh K W ta ma) (hb:Yh K W tb2 mb):Yh K W (qpV K.k tb (WE W) ta tb2) (qhV tb ma mb):=fun σ G H ρ R Q h=>by
 unfold qhV bindR at h;refine ha.fst R (fun x ρ1 e v G1 H1 S1 R1 x1=>?_) (fun e ρ1 q=>by rw[q]at h;exact h) (fun q=>by rw[q]at h;exact h);rw[e]at h;have h:=EPost.step S1 h;simp only at h;refine hb.fst R1 (fun y ρ2 e u G2 H2 S2 R2 x2=>?_) (fun e ρ1 q=>by rw[q]at h;exact h) (fun q=>by rw[q]at h;exact h);rw[e]at h;have h:=EPost.step S2 h;simp only at h;unfold qju at h;split at h
 ·rename_i C fs C2 gs el el2;split at h
  ·rename_i ec;subst ec;split at h
   ·rename_i Rr eR;have x1:=XOk.mono S2.g x1;obtain⟨_,_,_,rfl,q1,_⟩:=(show Vw K G2 H2 v (.ins C2 fs) from J5 R2 x1 el);obtain⟨_,_,_,rfl,q2,_⟩:=(show Vw K G2 H2 u (.ins C2 gs) from J5 R2 x2 el2);exact⟨_,_,C2,Rr,_,_,_,_,rfl,rfl,q1,q2,eR,xn R2 (.cons x1 (.cons x2 .nil)) h⟩
   ·exact h.elim
  ·exact h.elim
 ·exact h.elim
section
variable {X:Cx} {xa:Option XA} {W:WX} {a b:Expr} {ma mb:EM} {pos:Pos} {op:Operator} {k:Nat} {tb:MTb} {nm:Str}
theorem qfd (T:qfD X.prog X.w X.K X.mg X.base k nm 2 tb) (hr:Room k X.A) (tk:Takes X W) (ha:JE X xa W a ma) (hb:JE X xa W b mb) (hn:PySem.dunder op.info.2=nm:=by decide):JE X xa W (.BinOp a op b pos) (qhV tb ma mb):=
 let ⟨_,h1,h2⟩:=ha;let ⟨_,h3,h4⟩:=hb;⟨_,qiP h1 h3 (hn▸T) hr (fun σ=>passAt tk σ),qkm h2 h4⟩
end
end DL
namespace DL
open PySem L2
section
variable {ρ ρ1:Env} {e:Exn} {d:D} {x y:X} {C:Str} {fs gs:List (Str×D)} {n i:Nat} {a b:Int} {R:List L→FRes} {tb:MTb}
@[simp] theorem qr9:iX (.d (.int a))=some a:=(rfl)
@[simp] theorem qqw {m:EM}:rB1 m ρ=bindR (m ρ) ql0:=(rfl)
def kb1 (ρ1:Env):Option Int→Res (Int×Int)
 | some n=>if qbH 0 n then .ok (0,n) ρ1 else .bad
 | none=>.bad
@[simp] theorem qob:ql0 x ρ=kb1 ρ (iX x):=(rfl)
@[simp] theorem qrv:kb1 ρ (some a)=if qbH 0 a then .ok (0,a) ρ else .bad:=(rfl)
def kb2 (ρ1:Env):Option Int→Option Int→Res (Int×Int)
 | some a,some b=>if qbH a b then .ok (a,b) ρ1 else .bad
 | _,_=>.bad
@[simp] theorem qsq {m:Env→Res (Int×Int)}:fLR m ρ=bindR (m ρ) qo0:=(rfl)
@[simp] theorem qoZ:qo0 (a,b) ρ=.ok (.lst (Z4 a (b-a).toNat)) ρ:=(rfl)
def qrG (tb:MTb) (mb:EM):X→Env→Res X:=fun x ρ1=>bindR (mb ρ1) (qju tb x)
@[simp] theorem qpa {ma mb:EM}:qhV tb ma mb ρ=bindR (ma ρ) (qrG tb mb):=(rfl)
@[simp] theorem qoe {mb:EM}:qrG tb mb x ρ=bindR (mb ρ) (qju tb x):=(rfl)
def opG (x y:X) (o:Option (List L→FRes)) (ρ2:Env):Res X:=match o with
 | some R=>qbp 2 R [x,y] ρ2
 | none=>.bad
def opF (tb:MTb) (x y:X) (o o2:Option D) (ρ2:Env):Res X:=match o,o2 with
 | some (.ins C _),some (.ins C2 _)=>if C2=C then opG x y (tb.lookup C) ρ2 else .bad
 | _,_=>.bad
@[simp] theorem qod:qju tb x y ρ=opF tb x y (look ρ x) (look ρ y) ρ:=(rfl)
@[simp] theorem qqI:opF tb x y (some (.ins C fs)) (some (.ins C gs)) ρ=opG x y (tb.lookup C) ρ:=by
 show (if C=C then _ else _)=_;rw[if_pos rfl]
@[simp] theorem qqH:opG x y (some R) ρ=clL 2 R [x,y] (Jx ρ [x,y]) ρ:=by
 show qbp 2 R [x,y] ρ=_;rw[yc]
end
end DL
namespace DL
open PySem PySem.Spec PyProof.Rows L2
inductive YR where
 | nx (ys:List D) (ρ:Env) | ex (e:Exn) (ρ:Env) | bad
def qdo (K:Kx) (W:WX) (σ:L2.St) (G H:Hp) (ρ:Env) (D:GEnds):YR→Prop
 | .nx ys ρ'=>∀σ' ws G' H',Stp σ ρ G H σ' ρ' G' H'→Rel K σ' G' H' ρ'→DqA K G' ws ys→D.nx ws σ' H'
 | .ex e ρ'=>∀c d σ' G' H',Stp σ ρ G H σ' ρ' G' H'→Rel K σ' G' H' ρ'→ExOk K G' c d e→W c d σ' H'
 | .bad=>False
section
variable {K:Kx} {W:WX} {σ σ1:L2.St} {G H G1 H1:Hp} {ρ ρ1:Env} {D:GEnds}
theorem qdo.step (S:Stp σ ρ G H σ1 ρ1 G1 H1):∀{r:YR},qdo K W σ G H ρ D r→qdo K W σ1 G1 H1 ρ1 D r
 | .nx _ _,h=>fun σ' ws G' H' S'=>h σ' ws G' H' (S.trans S')
 | .ex _ _,h=>fun c d σ' G' H' S'=>h c d σ' G' H' (S.trans S')
 | .bad,h=>h
theorem qdo.x {e:Exn} {ρ':Env} (h:qdo K W σ G H ρ D (.ex e ρ')):Kl K W σ G H ρ e ρ':=fun c d G' H' S' R' q=>h c d σ G' H' S' R' q
end
section
variable {K:Kx} {W:WX} {σ0 σ:L2.St} {ρ0 ρ:Env} {G0 H0 Gm G H:Hp} {i:Nat} {rows:List (List D)}
theorem qgK {a:Addr} {o:HO} (R:Rel K σ G H ρ) (S:Stp σ0 ρ0 G0 H0 σ ρ G H) (ga:G a=none) (h0:H0 a=none) (n:¬Own σ ρ a) (ha:H a=some o):Same G (upd G a o)∧Rel K σ (upd G a o) H ρ∧Stp σ0 ρ0 G0 H0 σ ρ (upd G a o) H:=by
 have sG:Same G (upd G a o):=fun b u e=>by rw[upd_ne (ne_of_none e ga)];exact e
 refine⟨sG,⟨fun b u e=>?_,R.len,fun j l e=>?_,fun y h=>(R.exo y h).mono sG,R.sep⟩,⟨S.g.trans sG,fun b u e=>?_,S.fr,S.hn,S.ow,S.om,S.pin⟩⟩
 ·by_cases q:b=a
  ·subst q;rw[upd_same]at e;rw[ha,e]
  ·rw[upd_ne q]at e;exact R.same b u e
 ·obtain⟨u,e1,e2⟩:=R.at_ j l e;refine⟨u,e1,?_⟩;have own:∀y,l.own=true→MOk K G H u y→MOk K (upd G a o) H u y:=fun y hlo hm=>by
   refine hm.mono sG fun b eb=>⟨?_,fun o e=>e⟩;subst eb;have nb:b≠a:=fun q=>by
    subst q;exact n ⟨j,l,e,hlo,e1⟩
   rw[upd_ne nb];obtain⟨c,ec,hc,_⟩:=hm.ref;cases ec;exact hc
  cases l with
  | d y=>exact Dq.mono sG e2
  | m y=>exact own y rfl e2
  | r y=>exact own y rfl e2
  | p y=>exact⟨own y rfl e2.1,e2.2⟩
  | xh=>exact e2
  | u _ _=>exact e2
 ·by_cases q:b=a
  ·subst q;exact .inr (.inl h0)
  ·rw[upd_ne q]at e;exact S.gf b u e
theorem qgJ:∀(bs:List Addr) (rows:List (List D)) (G:Hp),bs.Nodup→Rel K σ G H ρ→Stp σ0 ρ0 G0 H0 σ ρ G H→(∀a∈bs,G a=none∧H0 a=none∧¬Own σ ρ a)→Sr K.k G H bs rows→
  ∃G',Same G G'∧(∀a,a∉bs→G' a=G a)∧Rel K σ G' H ρ∧Stp σ0 ρ0 G0 H0 σ ρ G' H∧DqA K G' (bs.map V.ref) (rows.map D.lst)
 | [],rows,G,_,R,S,_,h5=>by
  have:rows=[]:=List.length_eq_zero_iff.mp h5.1.symm;subst this;exact⟨G,Same.refl _,fun _ _=>rfl,R,S,.nil⟩
 | b::bs,rows,G,hn,R,S,h4,h5=>by
  obtain⟨n1,n2⟩:=List.nodup_cons.mp hn;cases rows with
  | nil=>exact absurd h5.1 (by simp)
  | cons ds rows=>
   obtain⟨ys,ds',e1,e2,e3⟩:=h5.2 0 b rfl;cases Option.some.inj e1;have hb:=h4 b List.mem_cons_self;obtain⟨s1,R1,S1⟩:=qgK R S hb.1 hb.2.1 hb.2.2 e2;have h4':∀a∈bs,(upd G b (.lst ys)) a=none∧H0 a=none∧¬Own σ ρ a:=fun a ha=>by
    have:=h4 a (List.mem_cons_of_mem _ ha);refine⟨?_,this.2⟩;rw[upd_ne (fun z=>n1 (by rw[← z];exact ha))];exact this.1
   have h5':Sr K.k (upd G b (.lst ys)) H bs rows:=⟨by have:=h5.1;simpa using this,fun k c hk=>by
    obtain⟨zs,es,f1,f2,f3⟩:=h5.2 (k+1) c (by simpa using hk);exact⟨zs,es,by simpa using f1,f2,f3.mono s1⟩⟩
   obtain⟨G',s2,out,R2,S2,q⟩:=qgJ bs rows _ n2 R1 S1 h4' h5';refine⟨G',s1.trans s2,fun a ha=>?_,R2,S2,?_⟩
   ·rw[out a (fun z=>ha (List.mem_cons_of_mem _ z)),upd_ne (fun z=>ha (by rw[z];exact List.mem_cons_self))]
   ·exact .cons (.lst (s2 _ _ upd_same) ((e3.mono s1).mono s2)) q
theorem NRel.lock (N:NRel K σ0 ρ0 G0 H0 Gm i rows σ G H ρ) (hi:ρ[i]?=some none):∃G',Stp σ0 ρ0 G0 H0 σ (ρ.set i (some (.d (.lst (rows.map .lst))))) G' H∧Rel K σ G' H (ρ.set i (some (.d (.lst (rows.map .lst))))):=by
 obtain⟨A,bs,h1,h2,h3,h4,h5⟩:=N.ex;obtain⟨n1,n2⟩:=List.nodup_cons.mp h3;obtain⟨G1,s1,out,R1,S1,q⟩:=qgJ bs rows G n2 N.rel N.stp (fun a ha=>h4 a (List.mem_cons_of_mem _ ha)) h5;have hA:=h4 A List.mem_cons_self;obtain⟨s2,R2,S2⟩:=qgK R1 S1 (by rw[out A n1];exact hA.1) hA.2.1 hA.2.2 h2;have dq:Dq K (upd G1 A (.lst (bs.map V.ref))) (.ref A) (.lst (rows.map .lst)):=.lst upd_same (q.mono s2);have hs:Lq ρ i (.d (.lst (rows.map .lst)))=some (ρ.set i (some (.d (.lst (rows.map .lst))))):=by
  unfold Lq;rw[hi]
 obtain⟨S3,R3⟩:=Bo R2 dq hs;have e:σ.set i (some (.ref A))=σ:=by
  apply List.ext_getElem?;intro j;by_cases z:i=j
  ·subst z;rw[List.getElem?_set_self (List.getElem?_eq_some_iff.mp h1).1,h1]
  ·rw[List.getElem?_set_ne z]
 rw[e]at S3 R3;exact⟨_,S2.trans S3,R3⟩
theorem NRel.start {A:Addr} {bs:List Addr} (R:Rel K σ G H ρ) (S:Stp σ0 ρ0 G0 H0 σ ρ G H) (hi:ρ[i]?=some none) (h2:H A=some (.lst (bs.map V.ref))) (h3:(A::bs).Nodup) (h4:∀a∈A::bs,G a=none∧H0 a=none∧¬Own σ ρ a) (h5:Sr K.k G H bs rows) :
  NRel K σ0 ρ0 G0 H0 G i rows (σ.set i (some (.ref A))) G H ρ:=by
 have hil:i < σ.length:=by rw[R.len];exact (List.getElem?_eq_some_iff.mp hi).1
 have own:∀{j:Nat} {l:L} {c:Addr},ρ[j]?=some (some l)→(σ.set i (some (V.ref A)))[j]?=some (some (.ref c))→σ[j]?=some (some (.ref c)):=fun {j l c} e1 e3=>by
  have:i≠j:=fun z=>by subst z;rw[hi]at e1;cases e1
  rw[List.getElem?_set_ne this]at e3;exact e3
 have oo:∀{c:Addr},Own (σ.set i (some (.ref A))) ρ c→Own σ ρ c:=fun {c} ⟨j,l,e1,e2,e3⟩=>⟨j,l,e1,e2,own e1 e3⟩;have om:∀{c:Addr},Ss (σ.set i (some (.ref A))) ρ c→Ss σ ρ c:=fun {c} ⟨j,l,e1,e2,e3⟩=>⟨j,l,e1,e2,own e1 e3⟩;have S1:Stp σ ρ G H (σ.set i (some (.ref A))) ρ G H:=by
  refine⟨Same.refl _,fun _ _ h=>.inl h,fun _ _ h _=>h,fun _ h=>h,fun c h=>.inl (oo h),fun c h=>.inl (om h),fun j x e=>⟨?_,x,e⟩⟩;have:i≠j:=fun z=>by subst z;rw[hi]at e;cases e
  rw[List.getElem?_set_ne this]
 have R3:Rel K (σ.set i (some (.ref A))) G H ρ:=by
  refine⟨R.same,by rw[List.length_set];exact R.len,fun j l e=>?_,R.exo,fun j k l l' c hjk e1 e2 o1 o2 e3 e4=>R.sep j k l l' c hjk e1 e2 o1 o2 (own e1 e3) (own e2 e4)⟩;have:i≠j:=fun z=>by subst z;rw[hi]at e;cases e
  rw[List.getElem?_set_ne this];exact R.at_ j l e
 exact⟨R3,S.trans S1,Same.refl _,A,bs,List.getElem?_set_self hil,h2,h3,fun a ha=>⟨(h4 a ha).1,(h4 a ha).2.1,fun o=>(h4 a ha).2.2 (oo o)⟩,h5⟩
end
def qhP (js:List Nat) (gm:GM) (ρ0:Env):List D→Env→Option Env
 | [],ρ=>some ρ
 | d::ds,ρ=>match gm d (Vb ρ js) with
  | some ρ1=>qhP js gm ρ0 ds (J4 ρ0 ρ1 js)
  | none=>none
def qtx (i:Nat) (rows:List (List D)) (ρ:Env):Option (Option L)→Res Fl
 | some none=>.ok .nx (ρ.set i (some (.d (.lst (rows.map .lst)))))
 | _=>.bad
def nLk (i:Nat):NR→Res Fl
 | .nx rows ρ=>qtx i rows ρ ρ[i]?
 | .rt d ρ=>.ok (.rt (.d d)) ρ
 | .ex e ρ=>.ex e ρ
 | .bad=>.bad
def qgZ:Option (Option L)→Bool
 | some none=>true
 | _=>false
theorem qen {o:Option (Option L)} (h:qgZ o=true):o=some none:=by
 unfold qgZ at h;split at h
 ·rfl
 ·cases h
def nc2 (i:Nat) (M:NM) (n:Nat):Option Env→Res Fl
 | some ρ2=>if qgZ ρ2[i]?=true then nLk i (M (List.replicate n []) ρ2) else .bad
 | none=>.bad
def nc1 (i:Nat) (js:List Nat) (gm:GM) (M:NM):List D→Env→Res Fl:=fun ds ρ1=>if clean ρ1 js=true∧ds.length<mx then nc2 i M ds.length (qhP js gm ρ1 ds ρ1) else .bad
def qbD (i:Nat) (im:IM) (js:List Nat) (gm:GM) (M:NM):SM:=fun ρ=>bindR (im ρ) (nc1 i js gm M)
section
variable {K:Kx} {W:WX} {i:Nat}
theorem qd0 {σ0:L2.St} {ρ0:Env} {G0 H0 Gm:Hp} {D:Ends} (r:NR) (h:Z6 K W σ0 G0 H0 ρ0 D (nLk i r)):Le K W σ0 ρ0 G0 H0 Gm i D r:=by
 cases r with
 | bad=>exact h
 | ex x ρ1=>exact h
 | rt d ρ1=>exact fun σ' v G' H' S' R' q=>h σ' v G' H' S' R' q
 | nx rows ρ1=>
  unfold nLk at h;simp only at h;intro σ' G' H' N';cases e:ρ1[i]? with
  | none=>rw[e]at h;exact h.elim
  | some o=>
   cases o with
   | some l=>rw[e]at h;exact h.elim
   | none=>
    rw[e]at h;obtain⟨G2,S2,R2⟩:=N'.lock e;exact h σ' G2 H' S2 R2
theorem qdI {js ks:List Nat} {wi:TI} {g:TG} {u:TS} {im:IM} {gm:GM} {M:NM} (hi:qds K W wi im) (hg:GOk K ks g gm) (hks:∀i∈ks,i∈js) (hu:Pd K W i u M) :
  Nt K W (tSeq (tAsg (tLc wi g tYes (tLst tNil) js) (gName i)) u) (qbD i im js gm M):=fun σ G H ρ R D h=>by
 unfold qbD bindR at h;refine hi.fst R (fun ds ρ1 e J G1 H1 S1 R1 wk=>?_) (fun e ρ1 q=>by rw[q]at h;exact Z6.x h) (fun q=>by rw[q]at h;exact h);rw[e]at h;have h:=Z6.step S1 h;simp only at h;unfold nc1 at h;split at h
 ·rename_i hcc;obtain⟨hcl,hmx⟩:=hcc;intro A hA;have g1:G1 A=none:=R1.same.free hA;have nA1:¬Own σ ρ1 A:=fun o=>Own.there R1 o hA;refine⟨fun k m H'=>m=ds.length-k∧k≤ds.length∧∃G' ρ' bs,Stp σ ρ1 G1 H1 σ ρ' G' H'∧Rel K σ G' H' ρ'∧H' A=some (.lst (bs.map V.ref))∧bs.length=k∧(A::bs).Nodup∧(∀a∈A::bs,G' a=none∧H1 a=none∧¬Own σ ρ' a)∧(∀b∈bs,H' b=some (.lst []))∧ρ'.length=ρ1.length∧(∀i∈js,ρ'[i]?=ρ1[i]?)∧
    Z6 K W σ G1 H1 ρ1 D (nc2 i M ds.length (qhP js gm ρ1 (ds.drop k) ρ')),⟨ds.length,?_⟩,?_⟩
  ·refine⟨by simp,Nat.zero_le _,G1,ρ1,[],(Stp.refl _ _ _ _).side hA,R1.side g1 nA1,upd_same,rfl,by simp,fun a ha=>?_,fun b hb=>(nomatch hb),rfl,fun _ _=>rfl,by simpa using h⟩;have:a=A:=by simpa using ha
   subst this;exact⟨g1,hA,nA1⟩
  ·rintro k m H' ⟨rfl,hkl,G',ρ',bs,S',R',hH,hbl,hnd,hfr,hem,hlen,hsame,h'⟩;obtain⟨go,stop⟩:=wk G' H' S'.g R'.same;by_cases hlt:k<ds.length
   ·obtain⟨d,hd⟩:∃d,ds[k]?=some d:=⟨ds[k],List.getElem?_eq_getElem hlt⟩;obtain⟨hgo,hy⟩:=go k d hd;rw[Bb hd]at h';refine .inr ⟨hgo,fun H2=>∃G2 ρ2 bs2,Stp σ ρ1 G1 H1 σ ρ2 G2 H2∧Rel K σ G2 H2 ρ2∧H2 A=some (.lst (bs2.map V.ref))∧bs2.length=k+1∧(A::bs2).Nodup∧(∀a∈A::bs2,G2 a=none∧H1 a=none∧¬Own σ ρ2 a)∧(∀b∈bs2,H2 b=some (.lst []))∧ρ2.length=ρ1.length∧(∀i∈js,ρ2[i]?=ρ1[i]?)∧
     Z6 K W σ G1 H1 ρ1 D (nc2 i M ds.length (qhP js gm ρ1 (ds.drop (k+1)) ρ2)),fun H2 z=>⟨ds.length-(k+1),by omega,rfl,hlt,z⟩,fun x H2 y=>?_⟩
    obtain⟨G2,gr,q2⟩:=hy x H2 y;have R2:=R'.gro gr;have S2:=S'.trans (gr.stp (σ:=σ) (ρ:=ρ'));have hH2:H2 A=some (.lst (bs.map V.ref)):=gr.h A _ hH;have qoJ:∀b∈bs,H2 b=some (.lst []):=fun b hb=>gr.h b _ (hem b hb);have hG2:∀a∈A::bs,G2 a=none:=fun a ha=>by
     cases q:G2 a with
     | none=>rfl
     | some o=>
      rcases gr.gf a o q with z | z
      ·rw[(hfr a ha).1]at z;cases z
      ·rcases List.mem_cons.mp ha with rfl | ha
       ·rw[hH]at z;cases z
       ·rw[hem a ha]at z;cases z
    unfold qhP at h';split at h'
    ·rename_i ρ2 e3;refine hg _ _ _ _ _ _ _ (R2.block js) q2 e3 _ fun σ2 T S3 R3=>?_;have wEq:wipe σ2 js=wipe σ js:=by
      rw[Ip (σ:=wipe σ js) T.len fun i hi=>T.out i fun z=>hi (hks i z)];exact Ip (wipe_length _ _) fun i hi=>Wo hi
     refine⟨wEq,?_⟩;obtain⟨S5,R5⟩:=Rel.turn R2 hlen hsame hcl ks hks T (Stp.refl _ _ _ _) R3;have l3:ρ2.length=ρ1.length:=by
      have e1:=R3.len;have e2:=T.len;rw[wipe_length]at e2;have e3:=R2.len;omega
     simp only[tYes,↓reduceIte];refine⟨Nat.zero_le _,fun b hb=>?_⟩;have hbA:b≠A:=fun z=>by subst z;rw[hH2]at hb;cases hb
     have hbb:b∉bs:=fun z=>by rw[qoJ b z]at hb;cases hb
     have gb:G2 b=none:=R5.same.free hb;have nb:¬Own σ (J4 ρ1 ρ2 js) b:=fun o=>Own.there R5 o hb;have h1b:H1 b=none:=(S2.trans S5).backS hb;have nA:¬Own σ (J4 ρ1 ρ2 js) A:=fun z=>by
      rcases S5.ow A z with z | z
      ·exact (hfr A List.mem_cons_self).2.2 z
      ·rw[hH2]at z;cases z
     have hAn:=hfr A List.mem_cons_self;refine⟨bs.map V.ref,by rw[upd_ne (fun z=>hbA z.symm)];exact hH2,by rw[List.length_map,hbl];exact Gp (Nat.lt_trans hlt hmx),G2,J4 ρ1 ρ2 js,bs++[b],((S2.trans S5).updN h1b).updN hAn.2.1,(R5.updN gb nb).updN (hG2 A List.mem_cons_self) nA,by rw[upd_same];simp,by simp[hbl],?_,fun a ha=>?_,fun c hc=>?_,by rw[V6];exact l3,fun i hi=>U0 l3 hi,h'⟩
     ·rw[← List.cons_append];refine List.nodup_append.mpr ⟨hnd,by simp,fun a ha c hc=>?_⟩;have:c=b:=by simpa using hc
      subst this;rcases List.mem_cons.mp ha with rfl | ha
      ·exact fun z=>hbA z.symm
      ·exact fun z=>hbb (by rw[← z];exact ha)
     ·rw[← List.cons_append]at ha;rcases List.mem_append.mp ha with ha | ha
      ·refine⟨hG2 a ha,(hfr a ha).2.1,fun z=>?_⟩;rcases S5.ow a z with z | z
       ·exact (hfr a ha).2.2 z
       ·rcases List.mem_cons.mp ha with rfl | ha
        ·rw[hH2]at z;cases z
        ·rw[qoJ a ha]at z;cases z
      ·have:a=b:=by simpa using ha
       subst this;exact⟨gb,h1b,nb⟩
     ·rcases List.mem_append.mp hc with hc | hc
      ·have c1:c≠A:=fun z=>(List.nodup_cons.mp hnd).1 (by rw[← z];exact hc);have c2:c≠b:=fun z=>hbb (by rw[← z];exact hc);rw[upd_ne c1,upd_ne c2];exact qoJ c hc
      ·have:c=b:=by simpa using hc
       subst this;rw[upd_ne hbA,upd_same]
    ·exact h'.elim
   ·have ek:k=ds.length:=by omega
    subst ek;rw[List.drop_length]at h';refine .inl ⟨stop,?_⟩;unfold qhP nc2 at h';simp only at h';split at h'
    ·rename_i hi0;have hi0:=qen hi0;have N:=NRel.start (rows:=List.replicate ds.length []) R' S' hi0 hH hnd hfr ⟨by simp[hbl],fun j c hj=>⟨[],[],by rw[List.getElem?_replicate,if_pos (by rw[← hbl];exact (List.getElem?_eq_some_iff.mp hj).1)],hem c (List.mem_of_getElem? hj),.nil⟩⟩;exact hu _ _ _ _ _ _ _ _ _ _ N D (qd0 _ h')
    ·exact h'.elim
 ·exact h.elim
end
section
variable {X:Cx} {xa:Option XA} {W:WX} {i:Nat} {s:Stmt} {ss:List Stmt} {M:NM} {n:SM} {y:Str} {py spos pos:Pos} {tg iter:Expr} {scope:Scope} {im:IM} {gm:GM}
theorem qfX {t1 t2:TS} {u:TS} {K:Kx} {m n:SM} (h:Nt K W (tSeq t1 t2) m) (h2:Nt K W u n):Nt K W (tSeq t1 (tSeq t2 u)) (Ql m n):=qeV (t:=tSeq t1 t2) h h2
theorem qjG {lp:Pos} {own:List (Str×Nat)} {ks:List Nat} {g:TG} (hc:X.calm=true) (hN:X.N.Nodup) (hsw:swapsWith (.ListComp (.List [] lp) [⟨tg,iter,[],0⟩] scope pos) (some (.Name y py)) spos.line X.env=pure true) (hi:JI X xa W tg iter im) (ok:BlkOk X.N X.env.scope scope own) (hg:qdt X scope fun Y=>PG Y tg g) (hgo:GOk ⟨X.K,xa⟩ ks g gm) (hks:∀i∈ks,i∈own.map (·.2))
  (hb:JN X xa W i s M) (hr:JSs X xa W ss n) (hy:X.N[i]?=some y:=by rfl) (hyl:X.env.scope.names.lookup y=some .local:=by rfl) (hs:∀x,foldedSetIterable iter X.env x=pure x:=by intro _;rfl) :
  JSs X xa W (.Assign [.Name y py] (.ListComp (.List [] lp) [⟨tg,iter,[],0⟩] scope pos) spos::s::ss) (Ql (qbD i im (own.map (·.2)) gm M) n):=
 let ⟨_,h1,h2⟩:=hi;let ⟨_,b1,b2⟩:=hb;let ⟨_,r1,r2⟩:=hr
 ⟨_,pss_cons (ps_setLc hc hN hy hyl hsw h1 ok hg (fun _ _ _ _ _=>pts_nil) (fun s H C cl fp=>pe_lst pa_nil) hs) (pss_cons b1 r1),qfX (qdI h2 hgo hks b2) r2⟩
theorem xr {own:List (Str×Nat)} {ks:List Nat} {g:TG} {elt cnd:Expr} {tm:TM} {m:EM} (hc:X.calm=true) (hN:X.N.Nodup) (hsw:swapsWith (.ListComp elt [⟨tg,iter,[cnd],0⟩] scope pos) (some (.Name y py)) spos.line X.env=pure true) (hi:JI X xa W tg iter im) (ok:BlkOk X.N X.env.scope scope own) (hg:qdt X scope fun Y=>PG Y tg g) (hgo:GOk ⟨X.K,xa⟩ ks g gm) (hks:∀i∈ks,i∈own.map (·.2))
  (ht:qdt X scope fun Y=>JT Y xa WF cnd tm) (he:qdt X scope fun Y=>JE Y xa WF elt m) (hy:X.N[i]?=some y:=by rfl) (hyl:X.env.scope.names.lookup y=some .local:=by rfl) (hs:∀x,foldedSetIterable iter X.env x=pure x:=by intro _;rfl) :
  JS X xa W (.Assign [.Name y py] (.ListComp elt [⟨tg,iter,[cnd],0⟩] scope pos) spos) (Xl (Qg i) (eF (fLc im (own.map (·.2)) gm tm m))):=
 let ⟨_,h1,h2⟩:=hi
 ⟨_,ps_setLc hc hN hy hyl hsw h1 ok hg (fun s H C cl fp=>pts_one (ht s H C cl fp).can) (fun s H C cl fp=>(he s H C cl fp).can) hs,y5 (qep h2 hgo hks qib qet).ev (Vm i)⟩
end
variable {K:Kx} {W:WX}
def kvR:List (Key×List D)→List Addr→List (Key×V)
 | e::es,b::bs=>(e.1,.ref b)::kvR es bs
 | _,_=>[]
theorem qcl:∀{es:List (Key×List D)} {bs:List Addr} {n:Nat} {k:Key} {ds ds':List D},es[n]?=some (k,ds)→kvR (es.set n (k,ds')) bs=kvR es bs
 | [],bs,n,k,ds,ds',h=>by simp at h
 | e::es,[],n,k,ds,ds',h=>by cases n<;>rfl
 | e::es,b::bs,0,k,ds,ds',h=>by
  have:e=(k,ds):=by simpa using h
  subst this;rfl
 | e::es,b::bs,n+1,k,ds,ds',h=>by
  have ih:=qcl (es:=es) (bs:=bs) (n:=n) (k:=k) (ds:=ds) (ds':=ds') (by simpa using h);rw[List.set_cons_succ];unfold kvR;rw[ih]
theorem qe5 {K:PySem.W.Frag} {G:Hp}:∀{es:List (Key×List D)} {bs:List Addr},bs.length=es.length→DqA K G (bs.map V.ref) ((es.map (·.2)).map D.lst)→DqK K G (kvR es bs) (es.map fun e=>(e.1,.lst e.2))
 | [],bs,h,_=>by
  have:bs=[]:=List.length_eq_zero_iff.mp h;subst this;exact .nil
 | e::es,[],h,_=>absurd h (by simp)
 | e::es,b::bs,h,q=>by
  cases q with
  | cons q1 q2=>exact .cons q1 (qe5 (by simpa using h) q2)
structure DRx (K:Kx) (σ0:L2.St) (ρ0:Env) (G0 H0 Gm:Hp) (i:Nat) (A:Addr) (bs:List Addr) (es:List (Key×List D)) (σ:L2.St) (G H:Hp) (ρ:Env):Prop where
 rel:Rel K σ G H ρ
 stp:Stp σ0 ρ0 G0 H0 σ ρ G H
 mon:Same Gm G
 at_:σ[i]?=some (some (.ref A))
 dk:H A=some (.dK (kvR es bs))
 nd:(A::bs).Nodup
 fr:∀a∈A::bs,G a=none∧H0 a=none∧¬Own σ ρ a
 rows:Sr K.k G H bs (es.map (·.2))
section
variable {σ0 σ σ':L2.St} {ρ0 ρ ρ':Env} {G0 H0 Gm G H G' H':Hp} {i:Nat} {A:Addr} {bs:List Addr} {es:List (Key×List D)}
theorem DRx.len (N:DRx K σ0 ρ0 G0 H0 Gm i A bs es σ G H ρ):bs.length=es.length:=by have:=N.rows.1;simpa using this
theorem DRx.step (N:DRx K σ0 ρ0 G0 H0 Gm i A bs es σ G H ρ) (S:Stp σ ρ G H σ' ρ' G' H') (R':Rel K σ' G' H' ρ') (hi:σ'[i]?=σ[i]?):DRx K σ0 ρ0 G0 H0 Gm i A bs es σ' G' H' ρ':=by
 have th:∀a∈A::bs,H a≠none:=fun a ha=>by
  rcases List.mem_cons.mp ha with rfl | ha
  ·rw[N.dk];exact fun z=>nomatch z
  ·obtain⟨k,hk⟩:=List.getElem?_of_mem ha;obtain⟨ys,ds,_,q,_⟩:=N.rows.2 k a hk;rw[q];exact fun z=>nomatch z
 have kp:∀a∈A::bs,∀o,H a=some o→H' a=some o:=fun a ha o e=>S.fr a o e (N.fr a ha).2.2;refine⟨R',N.stp.trans S,N.mon.trans S.g,hi.trans N.at_,kp A List.mem_cons_self _ N.dk,N.nd,fun a ha=>⟨?_,(N.fr a ha).2.1,fun q=>?_⟩,N.rows.1,fun k b hk=>?_⟩
 ·cases e:G' a with
  | none=>rfl
  | some o=>
   rcases S.gf a o e with q | q | q
   ·rw[(N.fr a ha).1]at q;cases q
   ·exact absurd q (th a ha)
   ·exact absurd q.own (N.fr a ha).2.2
 ·rcases S.ow a q with q | q
  ·exact (N.fr a ha).2.2 q
  ·exact th a ha q
 ·obtain⟨ys,ds,e1,e2,e3⟩:=N.rows.2 k b hk;exact⟨ys,ds,e1,kp b (List.mem_cons_of_mem _ (List.mem_of_getElem? hk)) _ e2,e3.mono S.g⟩
theorem DRx.put {n:Nat} {b:Addr} {k:Key} {ds ds':List D} {ys:List V} (N:DRx K σ0 ρ0 G0 H0 Gm i A bs es σ G H ρ) (hb:bs[n]?=some b) (he:es[n]?=some (k,ds)) (q:DqA K.k G ys ds') :
  DRx K σ0 ρ0 G0 H0 Gm i A bs (es.set n (k,ds')) σ G (upd H b (.lst ys)) ρ:=by
 have hbb:=N.fr b (List.mem_cons_of_mem _ (List.mem_of_getElem? hb));have hAb:A≠b:=fun z=>(List.nodup_cons.mp N.nd).1 (by rw[z];exact List.mem_of_getElem? hb);refine⟨N.rel.updN hbb.1 hbb.2.2,N.stp.updN hbb.2.1,N.mon,N.at_,by rw[upd_ne hAb,N.dk,qcl he],N.nd,N.fr,by rw[List.length_map,List.length_set];exact N.len,fun j c hj=>?_⟩;by_cases e:n=j
 ·subst e;rw[hb]at hj;cases Option.some.inj hj;have hl:n<es.length:=(List.getElem?_eq_some_iff.mp he).1;exact⟨ys,ds',by rw[List.getElem?_map,List.getElem?_set_self hl];rfl,upd_same,q⟩
 ·obtain⟨zs,us,e1,e2,e3⟩:=N.rows.2 j c hj;refine⟨zs,us,by rw[List.getElem?_map,List.getElem?_set_ne e,← List.getElem?_map];exact e1,?_,e3⟩;rw[upd_ne fun z=>e (qk (List.nodup_cons.mp N.nd).2 (by rw[z];exact hb) hj)];exact e2
theorem DRx.lock (N:DRx K σ0 ρ0 G0 H0 Gm i A bs es σ G H ρ) (hi:ρ[i]?=some none):∃G',Stp σ0 ρ0 G0 H0 σ (ρ.set i (some (.d (.dct (es.map fun e=>(e.1,.lst e.2)))))) G' H∧Rel K σ G' H (ρ.set i (some (.d (.dct (es.map fun e=>(e.1,.lst e.2)))))):=by
 obtain⟨n1,n2⟩:=List.nodup_cons.mp N.nd;obtain⟨G1,s1,out,R1,S1,q⟩:=qgJ bs (es.map (·.2)) G n2 N.rel N.stp (fun a ha=>N.fr a (List.mem_cons_of_mem _ ha)) N.rows;have hA:=N.fr A List.mem_cons_self;obtain⟨s2,R2,S2⟩:=qgK R1 S1 (by rw[out A n1];exact hA.1) hA.2.1 hA.2.2 N.dk;have dq:Dq K.k (upd G1 A (.dK (kvR es bs))) (.ref A) (.dct (es.map fun e=>(e.1,.lst e.2))):=.dct upd_same (qe5 N.len (q.mono s2));have hs:Lq ρ i (.d (.dct (es.map fun e=>(e.1,.lst e.2))))=some (ρ.set i (some (.d (.dct (es.map fun e=>(e.1,.lst e.2)))))):=by
  unfold Lq;rw[hi]
 obtain⟨S3,R3⟩:=Bo R2 dq hs;have e:σ.set i (some (.ref A))=σ:=by
  apply List.ext_getElem?;intro j;by_cases z:i=j
  ·subst z;rw[List.getElem?_set_self (List.getElem?_eq_some_iff.mp N.at_).1,N.at_]
  ·rw[List.getElem?_set_ne z]
 rw[e]at S3 R3;exact⟨_,S2.trans S3,R3⟩
end
inductive DR where
 | nx (es:List (Key×List D)) (ρ:Env) | ex (e:Exn) (ρ:Env) | bad
def qlb (K:Kx) (W:WX) (σ0:L2.St) (ρ0:Env) (G0 H0 Gm:Hp) (i:Nat) (E:Ends):DR→Prop
 | .nx es ρ'=>∀A bs σ' G' H',DRx K σ0 ρ0 G0 H0 Gm i A bs es σ' G' H' ρ'→E.nx σ' H'
 | .ex e ρ'=>∀c d σ' G' H',Stp σ0 ρ0 G0 H0 σ' ρ' G' H'→Rel K σ' G' H' ρ'→ExOk K G' c d e→W c d σ' H'
 | .bad=>False
section
variable {i:Nat}
theorem qlb.x {σ0 σ:L2.St} {ρ0 ρ ρ1:Env} {G0 H0 Gm G H:Hp} {A:Addr} {bs:List Addr} {es:List (Key×List D)} {E:Ends} {e:Exn} (N:DRx K σ0 ρ0 G0 H0 Gm i A bs es σ G H ρ) (h:qlb K W σ0 ρ0 G0 H0 Gm i E (.ex e ρ1)):Kl K W σ G H ρ e ρ1:=fun c d G' H' S R q=>h c d σ G' H' (N.stp.trans S) R q
end
def un1:Option L→Option L
 | some .xh=>none
 | some (.p x)=>some (.m x)
 | o=>o
def unE (ρ:Env):Env:=ρ.map un1
theorem qbu {ρ:Env} {i:Nat} {l:L} (h:(unE ρ)[i]?=some (some l)):(ρ[i]?=some (some l)∧l≠.xh∧∀x,l≠.p x)∨∃x,l=.m x∧ρ[i]?=some (some (.p x)):=by
 unfold unE at h;rw[List.getElem?_map]at h;cases e:ρ[i]? with
 | none=>rw[e]at h;cases h
 | some o=>
  rw[e]at h;cases o with
  | none=>cases h
  | some l'=>
   cases l' with
   | xh=>cases h
   | u _ _=>cases h;exact .inl ⟨rfl,(fun z=>nomatch z),fun _ z=>nomatch z⟩
   | p x=>cases h;exact .inr ⟨x,rfl,rfl⟩
   | d x=>cases h;exact .inl ⟨rfl,(fun z=>nomatch z),fun _ z=>nomatch z⟩
   | m x=>cases h;exact .inl ⟨rfl,(fun z=>nomatch z),fun _ z=>nomatch z⟩
   | r x=>cases h;exact .inl ⟨rfl,(fun z=>nomatch z),fun _ z=>nomatch z⟩
theorem Iq {ρ:Env} {i:Nat} {l:L} (h:(unE ρ)[i]?=some (some l)):∃l',ρ[i]?=some (some l')∧l'.own=l.own∧l'.ism=l.ism:=by
 rcases qbu h with ⟨q,_⟩ | ⟨x,rfl,q⟩
 ·exact⟨l,q,rfl,rfl⟩
 ·exact⟨_,q,rfl,rfl⟩
theorem qmz {ρ:Env} {i:Nat} {x:D} (h:ρ[i]?=some (some (.r x))):(unE ρ)[i]?=some (some (.r x)):=by
 unfold unE;rw[List.getElem?_map,h];rfl
section
variable {F:PySem.W.Frag} {σ:L2.St} {G H:Hp} {ρ:Env} {W:WX}
theorem Rel.un {x:Option XA} (R:Rel ⟨F,x⟩ σ G H ρ):Stp σ ρ G H σ (unE ρ) G H∧Rel ⟨F,none⟩ σ G H (unE ρ):=by
 refine⟨⟨Same.refl _,fun _ _ h=>.inl h,fun _ _ h _=>h,fun _ h=>h,fun a ⟨j,l,e1,e2,e3⟩=>?_,fun a ⟨j,l,e1,e2,e3⟩=>?_,fun j y e=>⟨rfl,y,qmz e⟩⟩,⟨R.same,by unfold unE;rw[List.length_map];exact R.len,fun j l e=>?_,(fun y h=>nomatch h),fun j k l l' b hjk e1 e2 o1 o2 e3 e4=>?_⟩⟩
 ·obtain⟨l',h1,h2,_⟩:=Iq e1;exact .inl ⟨j,l',h1,h2.trans e2,e3⟩
 ·obtain⟨l',h1,_,h2⟩:=Iq e1;exact .inl ⟨j,l',h1,h2.trans e2,e3⟩
 ·rcases qbu e with ⟨h,h2⟩ | ⟨z,rfl,h⟩
  ·obtain⟨v,h3,h4⟩:=R.at_ j l h;exact⟨v,h3,h4.xa h2⟩
  ·obtain⟨v,h3,h4⟩:=R.at_ j _ h;exact⟨v,h3,by have:=h4.1;cases z<;>exact this⟩
 ·obtain⟨m1,h1,z1,_⟩:=Iq e1;obtain⟨m2,h2,z2,_⟩:=Iq e2;exact R.sep j k m1 m2 b hjk h1 h2 (z1.trans o1) (z2.trans o2) e3 e4
theorem Rel.mp {xa:Option XA} {j:Nat} {x:D} {a:Addr} (R:Rel ⟨F,xa⟩ σ G H ρ) (h:ρ[j]?=some (some (.m x))) (hv:σ[j]?=some (some (.ref a))) (hx:∀y,xa=some y→y.a=a):Stp σ ρ G H σ (ρ.set j (some (.p x))) G H∧Rel ⟨F,xa⟩ σ G H (ρ.set j (some (.p x))):=by
 have own:∀{i:Nat} {l:L},(ρ.set j (some (.p x)))[i]?=some (some l)→∃l',ρ[i]?=some (some l')∧l'.own=l.own∧l'.ism=l.ism:=fun {i l} e=>by
  rcases Xp e with ⟨q,e'⟩ | ⟨_,e'⟩
  ·subst q;cases Option.some.inj e';exact⟨_,h,rfl,rfl⟩
  ·exact⟨_,e',rfl,rfl⟩
 refine⟨⟨Same.refl _,fun _ _ h=>.inl h,fun _ _ h _=>h,fun _ h=>h,fun a ⟨j,l,e1,e2,e3⟩=>?_,fun a ⟨j,l,e1,e2,e3⟩=>?_,fun k y e=>⟨rfl,y,?_⟩⟩,⟨R.same,by rw[List.length_set];exact R.len,fun k l e=>?_,R.exo,fun j k l l' b hjk e1 e2 o1 o2 e3 e4=>?_⟩⟩
 ·obtain⟨l',h1,h2,_⟩:=own e1;exact .inl ⟨j,l',h1,h2.trans e2,e3⟩
 ·obtain⟨l',h1,_,h2⟩:=own e1;exact .inl ⟨j,l',h1,h2.trans e2,e3⟩
 ·have hne:j≠k:=fun q=>by subst q;rw[h]at e;cases e
  rw[List.getElem?_set_ne hne];exact e
 ·rcases Xp e with ⟨q,e'⟩ | ⟨_,e'⟩
  ·subst q;cases Option.some.inj e';obtain⟨v,h3,h4⟩:=R.at_ _ _ h;refine⟨v,h3,h4,fun y hy=>?_⟩;rw[hv]at h3;cases Option.some.inj (Option.some.inj h3);rw[hx y hy]
  ·exact R.at_ k l e'
 ·obtain⟨m1,h1,z1,_⟩:=own e1;obtain⟨m2,h2,z2,_⟩:=own e2;exact R.sep j k m1 m2 b hjk h1 h2 (z1.trans o1) (z2.trans o2) e3 e4
end
end DL
namespace L2
open PySem PySem.Spec PyProof.Rows
def qbj (kas:List (List Int×Addr×V)) (k:List Int):Option V:=(kas.find? fun p=>decide (p.1=k)).map (·.2.2)
def qaO (kas:List (List Int×Addr×V)) (k:List Int) (b:Addr) (v:V):List (List Int×Addr×V):=
 if (qbj kas k).isSome then kas.map (fun p=>if p.1=k then (p.1,p.2.1,v) else p) else kas++[(k,b,v)]
theorem KTI.val {kas:List (List Int×Addr×V)} {xs:List (List Int×Addr×Value)} (r:KTI kas xs) (k:List Int):RelO (qbj kas k) ((atKey xs k).map (·.2)):=by
 induction r with
 | nil=>exact True.intro
 | @cons p q ps qs h t ih=>
  obtain⟨h1,_,h2⟩:=h;by_cases e:p.1=k
  ·have e':q.1=k:=h1.symm.trans e;have b:atKey (q::qs) k=some q.2:=by simp[atKey,List.find?_cons,e']
   have c:qbj (p::ps) k=some p.2.2:=by simp[qbj,List.find?_cons,e]
   rw[c,b];exact h2
  ·have e':¬q.1=k:=fun z=>e (h1.trans z);have b:atKey (q::qs) k=atKey qs k:=by simp[atKey,List.find?_cons,e']
   have c:qbj (p::ps) k=qbj ps k:=by simp[qbj,List.find?_cons,e]
   rw[c,b];exact ih
theorem KTI.some {kas:List (List Int×Addr×V)} {xs:List (List Int×Addr×Value)} (r:KTI kas xs) (k:List Int):(qbj kas k).isSome=(atKey xs k).isSome:=by
 rw[(r.val k).isSome_eq,Option.isSome_map]
theorem KTI.put {kas:List (List Int×Addr×V)} {xs:List (List Int×Addr×Value)} (r:KTI kas xs) (k:List Int) {b:Addr} {y:V} {u:Value} (ry:RelV y u):KTI (qaO kas k b y) (storedH xs k b u):=by
 unfold qaO storedH;rw[r.some k];by_cases q:(atKey xs k).isSome=true
 ·rw[if_pos q,if_pos q];clear q;induction r with
  | nil=>exact .nil
  | @cons p q ps qs h t ih=>
   rw[List.map_cons,List.map_cons];refine .cons ?_ ih;obtain⟨h1,h2,h3⟩:=h;unfold putAt;by_cases e:p.1=k
   ·rw[if_pos e,if_pos (h1.symm.trans e)];exact⟨h1,h2,ry⟩
   ·rw[if_neg e,if_neg (fun z=>e (h1.trans z))];exact⟨h1,h2,h3⟩
 ·rw[if_neg q,if_neg q];exact Paired.snoc r ⟨rfl,rfl,ry⟩
theorem KTI.length {kas:List (List Int×Addr×V)} {xs:List (List Int×Addr×Value)} (r:KTI kas xs):kas.length=xs.length:=Paired.length r
end L2
namespace DL
open PySem PySem.Spec PyProof.Rows L2
def qqy (kvs:List (List Int×D)) (k:List Int) (d:D):List (List Int×D):=
 if (getT kvs k).isSome then kvs.map (fun kv=>if kv.1=k then (kv.1,d) else kv) else kvs++[(k,d)]
section
variable {K:PySem.W.Frag} {G H:Hp}
theorem DqT.get {k:List Int}:∀{vs:List (List Int×Addr×V)} {ds:List (List Int×D)},DqT K G vs ds→match getT ds k with
  | some d=>∃v,qbj vs k=some v∧Dq K G v d
  | none=>qbj vs k=none
 | _,_,.nil=>rfl
 | _,_,.cons (k:=j) h t=>by
  unfold getT qbj;by_cases e:j=k
  ·simp only[List.find?_cons,decide_eq_true e,Option.map_some];exact⟨_,rfl,h⟩
  ·simp only[List.find?_cons,decide_eq_false e];exact DqT.get t
theorem DqT.some {k:List Int} {vs:List (List Int×Addr×V)} {ds:List (List Int×D)} (h:DqT K G vs ds):(qbj vs k).isSome=(getT ds k).isSome:=by
 have:=h.get (k:=k);cases e:getT ds k with
 | none=>rw[e]at this;rw[this];rfl
 | some d=>rw[e]at this;obtain⟨v,h1,_⟩:=this;rw[h1];rfl
theorem DqT.length:∀{vs:List (List Int×Addr×V)} {ds:List (List Int×D)},DqT K G vs ds→vs.length=ds.length
 | _,_,.nil=>rfl
 | _,_,.cons _ t=>by simp[DqT.length t]
theorem DqT.mapk {k:List Int} {v:V} {d:D} (q:Dq K G v d):∀{vs:List (List Int×Addr×V)} {ds:List (List Int×D)},DqT K G vs ds→DqT K G (vs.map fun p=>if p.1=k then (p.1,p.2.1,v) else p) (ds.map fun kv=>if kv.1=k then (kv.1,d) else kv)
 | _,_,.nil=>.nil
 | _,_,.cons (k:=j) h t=>by
  rw[List.map_cons,List.map_cons];by_cases e:j=k
  ·simp only[if_pos e];exact .cons q (DqT.mapk q t)
  ·simp only[if_neg e];exact .cons h (DqT.mapk q t)
theorem DqT.app:∀{vs us:List (List Int×Addr×V)} {ds es:List (List Int×D)},DqT K G vs ds→DqT K G us es→DqT K G (vs++us) (ds++es)
 | _,_,_,_,.nil,b=>b
 | _,_,_,_,.cons h t,b=>.cons h (DqT.app t b)
theorem DqT.put {vs:List (List Int×Addr×V)} {ds:List (List Int×D)} {k:List Int} {b:Addr} {v:V} {d:D} (h:DqT K G vs ds) (q:Dq K G v d):DqT K G (qaO vs k b v) (qqy ds k d):=by
 unfold qaO qqy;rw[h.some];split
 ·exact h.mapk q
 ·exact h.app (.cons q .nil)
theorem qdz.put {kas:List (List Int×Addr×V)} {k:List Int} {b:Addr} {v:V} (h:qdz K G kas) (hb:SqN K G b (k.map V.int)):qdz K G (qaO kas k b v):=fun p hp=>by
 unfold qaO at hp;split at hp
 ·obtain⟨q,hq,rfl⟩:=List.mem_map.mp hp;have:=h q hq;split<;>exact this
 ·rcases List.mem_append.mp hp with hp | hp
  ·exact h p hp
  ·cases List.mem_singleton.mp hp;exact hb
end
variable {K:Kx} {W:WX}
section
variable {ρ:Env} {me:EM} {fm:FM} {i j n:Nat} {F:List L→FRes} {ma:AM} {xs:List X} {as bs:List L} {x:X} {d y:D} {e:Exn}
@[simp] theorem qpM {i:Int}:uN (.int i)=true:=rfl
@[simp] theorem qpI {ds:List D}:uN (.tup ds)=true:=rfl
@[simp] theorem qpL {ds:List D}:uN (.lst ds)=true:=rfl
@[simp] theorem qpJ {x:Str}:uN (.str x)=true:=rfl
@[simp] theorem qs2 {ds:List D}:uN (.ro ds)=false:=rfl
@[simp] theorem qpK:uN .non=true:=rfl
@[simp] theorem qs3 {b:Bool}:uN (.bl b)=true:=rfl
@[simp] theorem qpN {C:Str} {fs:List (Str×D)}:uN (.ins C fs)=true:=rfl
@[simp] theorem qmA:qmB (.ro [d])=d:=rfl
end
section
variable {K:Kx} {W:WX} {σ:L2.St} {G H:Hp} {ρ:Env}
theorem LOk.free {v:V} {l:L} {a:Addr} (h:LOk K G H v l) (ho:l.own=true) (e:v=.ref a):G a=none∧H a≠none:=by
 have key:∀x,MOk K G H v x→G a=none∧H a≠none:=fun x hm=>by
  obtain⟨b,eb,h1,h2⟩:=hm.ref;rw[e]at eb;cases eb;exact⟨h1,h2⟩
 cases l with
 | d x=>cases ho
 | m x=>exact key x h
 | r x=>exact key x h
 | p x=>exact key x h.1
 | xh=>cases ho
 | u _ _=>cases ho
end
def qmo (a b:D):Option (List D):=match qdv a,qdv b with
 | some x,some y=>if x.length+y.length≤mx then some (x++y) else none
 | _,_=>none
@[simp] theorem qpq {x y:List D}:qmo (.ro x) (.ro y)=if x.length+y.length≤mx then some (x++y) else none:=rfl
@[simp] theorem qpt {x y:List D}:qmo (.lst x) (.lst y)=if x.length+y.length≤mx then some (x++y) else none:=rfl
@[simp] theorem qpr {x y:List D}:qmo (.ro x) (.lst y)=if x.length+y.length≤mx then some (x++y) else none:=rfl
@[simp] theorem qps {x y:List D}:qmo (.lst x) (.ro y)=if x.length+y.length≤mx then some (x++y) else none:=rfl
def qnB:List D→Option D
 | [.tup ds]=>(match T5 ds with
   | some ns=>(qrd ns).map .int
   | none=>none)
 | as=>maxD as
@[simp] theorem qnA {ds:List D}:qnB [.ro ds]=maxD [.ro ds]:=rfl
@[simp] theorem qlI {ds:List D}:qnB [.lst ds]=maxD [.lst ds]:=rfl
@[simp] theorem qlH {ds:List D}:qnB [.tup ds]=maxD [.ro ds]:=rfl
structure Held (σ:L2.St) (ρ:Env) (G H:Hp) (a:Addr) (o:HO):Prop where
 g:G a=none
 h:H a=some o
 n:¬Own σ ρ a
theorem Held.step {σ σ1:L2.St} {ρ ρ1:Env} {G H G1 H1:Hp} {a:Addr} {o:HO} (h:Held σ ρ G H a o) (S:Stp σ ρ G H σ1 ρ1 G1 H1):Held σ1 ρ1 G1 H1 a o where
 g:=by
  cases e:G1 a with
  | none=>rfl
  | some u=>
   rcases S.gf a u e with q | q | q
   ·rw[h.g]at q;cases q
   ·rw[h.h]at q;cases q
   ·exact absurd q.own h.n
 h:=S.fr a o h.h h.n
 n:=fun q=>by
  rcases S.ow a q with q | q
  ·exact h.n q
  ·rw[h.h]at q;cases q
def HLs (K:Kx) (σ:L2.St) (ρ:Env) (G H:Hp) (v:V) (x:D):Prop:=∃a xs ds,v=.ref a∧x=.lst ds∧Held σ ρ G H a (.lst xs)∧DqA K.k G xs ds
theorem HLs.step {K:Kx} {σ σ1:L2.St} {ρ ρ1:Env} {G H G1 H1:Hp} {v:V} {x:D} (h:HLs K σ ρ G H v x) (S:Stp σ ρ G H σ1 ρ1 G1 H1):HLs K σ1 ρ1 G1 H1 v x:=by
 obtain⟨a,xs,ds,e1,e2,h1,h2⟩:=h;exact⟨a,xs,ds,e1,e2,h1.step S,h2.mono S.g⟩
theorem HLs.steps {K:Kx} {σ σ1:L2.St} {ρ ρ1:Env} {G H G1 H1:Hp} (S:Stp σ ρ G H σ1 ρ1 G1 H1):∀{vs:List V} {xs:List D},Paired (HLs K σ ρ G H) vs xs→Paired (HLs K σ1 ρ1 G1 H1) vs xs
 | _,_,.nil=>.nil
 | _,_,.cons h t=>.cons (h.step S) (HLs.steps S t)
def nOr:Option L→Bool
 | none=>true
 | some (.d _)=>true
 | _=>false
def qsN (ρ:Env):Bool:=ρ.all nOr
theorem qhA {ρ:Env} (h:qsN ρ=true) {i:Nat} {l:L} (e:ρ[i]?=some (some l)):∃x,l=.d x:=by
 have:=List.all_eq_true.mp h _ (List.mem_of_getElem? e);cases l<;>first | exact⟨_,rfl⟩ | cases this
structure Dsp (K:Kx) (σ:L2.St) (G H:Hp) (ρ:Env) (i:Nat) (vs:List V) (ds:List D) (p:Addr):Prop where
 s:σ[i]?=some (some (.ref p))
 hd:Held σ ρ G H p (.lst vs)
 ls:Paired (HLs K σ ρ G H) vs ds
 nd:vs.Nodup
 pn:∀v∈vs,v≠.ref p
section
variable {K:Kx} {W:WX} {σ:L2.St} {G H:Hp} {ρ:Env} {i:Nat} {vs:List V} {ds:List D} {p:Addr}
theorem Dsp.step (X:Dsp K σ G H ρ i vs ds p) {G1 H1:Hp} (S:Stp σ ρ G H σ ρ G1 H1):Dsp K σ G1 H1 ρ i vs ds p:=⟨X.s,X.hd.step S,HLs.steps S X.ls,X.nd,X.pn⟩
end
section
variable {K:Kx} {G G':Hp}
theorem DqF.app {K:PySem.W.Frag}:∀{vs us:List (Str×V)} {ds es:List (Str×D)},DqF K G vs ds→DqF K G us es→DqF K G (vs++us) (ds++es)
 | _,_,_,_,.nil,b=>b
 | _,_,_,_,.cons h t,b=>.cons h (DqF.app t b)
end
structure FS (K:Kx) (i:Nat) (C f:Str) (a dx p:Addr) (A:List (Str×V)) (A':List (Str×D)) (σ:L2.St) (G H:Hp) (ρ:Env) (vs:List V) (ds:List D):Prop where
 r:Rel K σ G H (ρ.set i none)
 hn:qsN (ρ.set i none)=true
 e:ρ[i]?=some (some (.r (.ins C (A'++[(f,.lst ds)]))))
 s:σ[i]?=some (some (.ref a))
 ga:G a=none
 gp:G p=none
 ha:H a=some (.ins (cA K.k C) dx (A++[(f,.ref p)]))
 gd:G dx=some (.own a)
 hp:H p=some (.lst vs)
 qA:DqF K.k G A A'
 q:DqA K.k G vs ds
 lA:A.lookup f=none
 lA':A'.lookup f=none
def qit (C f:Str) (A':List (Str×D)) (ds:List D):D:=.ins C (A'++[(f,.lst ds)])
section
variable {K:Kx} {W:WX} {i:Nat} {C f:Str} {a dx p:Addr} {A:List (Str×V)} {A':List (Str×D)} {σ:L2.St} {G H G1 H1:Hp} {ρ ρ1:Env} {vs:List V} {ds:List D}
theorem FS.dat (X:FS K i C f a dx p A A' σ G H ρ vs ds) {j:Nat} {l:L} (hj:j≠i) (e:ρ[j]?=some (some l)):∃x,l=.d x:=by
 refine qhA X.hn (i:=j) ?_;rw[List.getElem?_set_ne (fun z=>hj z.symm)];exact e
theorem FS.own (X:FS K i C f a dx p A A' σ G H ρ vs ds) {b:Addr} (h:Own σ ρ b):b=a:=by
 obtain⟨j,l,h1,h2,h3⟩:=h;by_cases hj:j=i
 ·subst hj;rw[X.s]at h3;cases h3;rfl
 ·obtain⟨x,rfl⟩:=X.dat hj h1;cases h2
def Fr (p:Addr) (G H G1 H1:Hp):Prop:=Same G G1∧∀b o,H b=some o→b≠p→H1 b=some o
theorem Fr.refl:Fr p G H G H:=⟨Same.refl _,fun _ _ e _=>e⟩
theorem Fr.trans {G2 H2:Hp} (x:Fr p G H G1 H1) (y:Fr p G1 H1 G2 H2):Fr p G H G2 H2:=⟨x.1.trans y.1,fun b o e hb=>y.2 b o (x.2 b o e hb) hb⟩
def qhE (K:Kx) (i:Nat) (C f:Str) (a dx p:Addr) (A:List (Str×V)) (A':List (Str×D)) (σ0:L2.St) (ρ0:Env) (G0 H0 G H:Hp) (D:Ends):Res Fl→Prop
 | .ok .nx ρ1=>∀σ1 G1 H1 vs1 ds1,Stp σ0 ρ0 G0 H0 σ1 ρ1 G1 H1→FS K i C f a dx p A A' σ1 G1 H1 ρ1 vs1 ds1→Fr p G H G1 H1→D.nx σ1 H1
 | .ok .ct ρ1=>∀σ1 G1 H1 vs1 ds1,Stp σ0 ρ0 G0 H0 σ1 ρ1 G1 H1→FS K i C f a dx p A A' σ1 G1 H1 ρ1 vs1 ds1→Fr p G H G1 H1→D.ct σ1 H1
 | _=>False
def qqm (i:Nat) (ρ:Env):Env:=match ρ[i]? with
 | some (some (.r x))=>ρ.set i (some (.d x))
 | _=>ρ
theorem FS.lk (X:FS K i C f a dx p A A' σ G H ρ vs ds):qqm i ρ=ρ.set i (some (.d (qit C f A' ds))):=by
 unfold qqm;rw[X.e];rfl
theorem qhE.step {σ0:L2.St} {ρ0:Env} {G0 H0:Hp} {D:Ends} (fr:Fr p G H G1 H1):∀{r:Res Fl},qhE K i C f a dx p A A' σ0 ρ0 G0 H0 G H D r→qhE K i C f a dx p A A' σ0 ρ0 G0 H0 G1 H1 D r
 | .ok .nx _,h=>fun σ1 G2 H2 vs1 ds1 S X q=>h σ1 G2 H2 vs1 ds1 S X (fr.trans q)
 | .ok .ct _,h=>fun σ1 G2 H2 vs1 ds1 S X q=>h σ1 G2 H2 vs1 ds1 S X (fr.trans q)
 | .ok .bk _,h=>h
 | .ok (.rt _) _,h=>h
 | .ex _ _,h=>h
 | .bad,h=>h
end
def upS:Sl→Sl
 | .p i=>.p (i+1)
 | .k j=>.k j
 | .m j=>.m j
theorem qg1 {α:Type} {x:α} {us mv ws:List α}:∀{sl:List Sl},gS (.p 0::sl.map upS) (x::us) mv ws=x::gS sl us mv ws:=by
 have go:∀{sl:List Sl},gS (sl.map upS) (x::us) mv ws=gS sl us mv ws:=by
  intro sl;induction sl with
  | nil=>rfl
  | cons s sl ih=>
   unfold gS at ih ⊢;rw[List.map_cons,List.filterMap_cons,List.filterMap_cons,ih];cases s<;>rfl
 intro sl;have:=go (sl:=sl);unfold gS at this ⊢;rw[List.filterMap_cons,this];rfl
structure FnMW (P:Program) (w:World) (K:PySem.W.Frag) (mg:Str→Option Value) (base:Heap) (k:Nat) (C m qual:Str) (st:Stmt) (kws:List (Str×V)) (ps:List Str) (R:List L→FRes):Prop where
 ex:∃fd,FnOk P w K mg base (L2.CX P w) k (maA K C m) fd ps (spF K ps.length R)∧FunD K m qual (defArgs st) (defBody st) (defScope st) [] kws (maA K C m) fd
theorem qg7 {P:Program} {w:World} {K:PySem.W.Frag} {mg:Str→Option Value} {base:Heap} {C m qual:Str} {st:Stmt} {kws:List (Str×V)} {N ps:List Str} {k:Nat} {body:SM} (F:∃fd,FunD K m qual (defArgs st) (defBody st) (defScope st) [] kws (maA K C m) fd) (S:FnScope N ps (defScope st))
  (hb:∀(cdv:Value) (A:Around) (outer:List PySem.Env) (s:Shared) (H:Hp) (E:XK),Room k (A.deeper (envOfC qual (defScope st) s.heap.objs.size (maA K C m) cdv))→
   JSs (cxOf (L2.CX P w) P w K mg base N qual (defScope st) (maA K C m) cdv A outer s H E) none (fun cls d _ H=>E cls d H) (defBody st) body) :
  FnMW P w K mg base (k+1) C m qual st kws ps (Q7 N.length body):=by
 obtain⟨fd,F⟩:=F;exact⟨⟨fd,qfn F S hb,F⟩⟩
structure MkKB (P:Program) (w:World) (K:PySem.W.Frag) (mg:Str→Option Value) (base:Heap) (k:Nat) (C:Str) (n np:Nat) (ks:List Str) (ms:List D) (sl:List Sl) (R:List L→FRes):Prop where
 ex:∃f fd ps g dm,Mk K (cA K C) f∧FnOk P w K mg base (L2.CX P w) k f fd ps (spF K n R)∧KBn K fd ps (np+1) ks g (fun vs zs=>gS (.p 0::sl.map upS) vs dm zs)∧∀G,DqA K G dm ms
 g:mg C=some (.ref (cA K C))
theorem qca {P:Program} {w:World} {K:PySem.W.Frag} {mg:Str→Option Value} {base:Heap} {j k np:Nat} {C qual:Str} {st:Stmt} {kws:List (Str×V)} {dm:List V} {ps ks:List Str} {ms:List D} {sl:List Sl} {R:List L→FRes} (M:Mk K (cA K C) (maA K C "__init__")) (F:FnMW P w K mg base j C "__init__" qual st kws ps R)
  (hb:∀fd,FunD K "__init__" qual (defArgs st) (defBody st) (defScope st) [] kws (maA K C "__init__") fd→∃g,KBn K fd ps (np+1) ks g (fun vs zs=>gS (.p 0::sl.map upS) vs dm zs)) (q:∀G,DqA K G dm ms) (g:mg C=some (.ref (cA K C))) (hj:j≤k):MkKB P w K mg base k C ps.length np ks ms sl R:=by
 obtain⟨fd,h,Fd⟩:=F.ex;obtain⟨gg,h2⟩:=hb fd Fd;exact⟨⟨_,fd,ps,gg,dm,M,h.mono hj,h2,q⟩,g⟩
section
variable {X:Cx} {CX:CXT} {k n:Nat} {f C:Addr} {fd:FuncData} {ps ks:List Str} {sp:Sp} {x:Str} {p pos:Pos} {e:Expr} {es:List Expr} {kws:List Keyword} {t tk:TA} {g:List Value→List Value→List Value} {sl:List Sl} {dm:List V}
theorem qaJ {E:XK} {pins:List (Addr×Obj)} {σ:L2.St} {H:Hp} {s:Shared} {Q:VK} {us ws:List Value} {vs zs:List V} (M:Mk X.K C f) (F:FnOk X.prog X.w X.K X.mg X.base CX k f fd ps sp) (hr:Room (k+1) X.A) (hb:KBn X.K fd ps (n+1) ks g (fun vs zs=>gS (.p 0::sl.map upS) vs dm zs))
  (hx:PassesAt CX X σ E) (I:Inv X pins σ H s) (r:Vals vs us) (rz:Vals zs ws) (l1:vs.length=n) (l2:zs.length=ks.length)
  (h:∀x dx,H x=none→H dx=none→dx≠x→sp (.ref x::gS sl vs dm zs) (upd (upd H dx (.own x)) x (.ins C dx [])) (fun v H2=>v=.non∧Q (.ref x) H2) E) :
  wpAny (model X.prog X.w) X.A (call (.ref C) us (ks.zip ws)) (EP X pins σ Q) X.xe s:=by
 have hq:=h (s.heap.objs.size+1) s.heap.objs.size (I.hok.fresh (Nat.le_succ _)) (I.hok.fresh (Nat.le_refl _)) (Nat.ne_of_lt (Nat.lt_succ_self _));have I2:=Inv.made (C:=C) I;have r1:Vals (V.ref (s.heap.objs.size+1)::vs) (Value.ref (s.heap.objs.size+1)::us):=.cons rfl r;have r2:=hb.rel r1 rz;rw[qg1]at r2;have e1:(Value.ref (s.heap.objs.size+1)::us).length=n+1:=r1.length.symm.trans (congrArg Nat.succ l1);have e2:ws.length=ks.length:=rz.length.symm.trans l2;refine wpAny_call (make_map (f:=f) I.kIn M.makes M.init (beq_iff_eq.mp M.fn) (codeAny_mono (F.run _ X.stack _ _ ⟨Value.ref (s.heap.objs.size+1)::us,ks.zip ws⟩ (g (Value.ref (s.heap.objs.size+1)::us) ws) _ _ E (hr.make C us (ks.zip ws))
  (I2.env0.make C us (ks.zip ws)) (hb.to _ (Value.ref (s.heap.objs.size+1)::us) ws I2.kIn e1 e2) r2 hq) fun r s' hq'=>?_))
 cases r with
 | error e=>exact hx pins _ _ e s' I2 hq'
 | ok fl=>
  cases fl with
  | ret u=>
   obtain⟨v,H',I3,rv,ev,q3⟩:=I2.after hq';subst ev;exact⟨rv,⟨V.ref (s.heap.objs.size+1),H',I3,rfl,q3⟩⟩
  | next=>exact False.elim hq'
  | brk=>exact False.elim hq'
  | cont=>exact False.elim hq'
end
theorem qfu {K:Kx} {σ:L2.St} {G:Hp}:∀{vs:List V} {ds:List D},DqA K.k G vs ds→Nr K σ G vs (ds.map .d)
 | _,_,.nil=>.nil
 | _,_,.cons h t=>.cons h (qfu t)
theorem qhy {K:Kx} {W:WX} {n m:Nat} {dm:List V} {ds:List D} {sl:List Sl} {t tk:TA} {ma mk:AM} (hs:∀G,DqA K.k G dm ds) (ht:R8 K W t ma) (hk:R8 K W tk mk):R8 K W (qhK n m dm sl t tk) (yk n m ds sl ma mk):=fun σ G H ρ R Q h=>by
 unfold yk bindR at h;refine ht.fst R (fun xs ρ1 e vs G1 H1 S1 R1 x1=>?_) (fun e ρ1 q=>by rw[q]at h;exact h) (fun q=>by rw[q]at h;exact h);rw[e]at h;have h:=D5.step S1 h;simp only[qcq]at h;unfold bindR at h;refine hk.fst R1 (fun ys ρ2 e2 zs G2 H2 S2 R2 x2=>?_) (fun e ρ1 q=>by rw[q]at h;exact h) (fun q=>by rw[q]at h;exact h);rw[e2]at h;have h:=D5.step S2 h;simp only[qcp]at h;split at h
 ·rename_i hl;exact⟨x1.len.trans hl.1,x2.len.trans hl.2,h _ G2 H2 (Stp.refl _ _ _ _) R2 (qag (x1.mono S2.g) (qfu (hs G2)) x2)⟩
 ·exact h.elim
def qtw:Option L→Bool
 | none=>true
 | some (.d _)=>true
 | some (.r (.lst _))=>true
 | _=>false
def allR (ρ:Env):Bool:=ρ.all qtw
def qtZ:Option L→Option L
 | some (.r (.lst _))=>none
 | o=>o
def qsc (ρ:Env):Env:=ρ.map qtZ
theorem qhz {ρ:Env} (h:allR ρ=true) {i:Nat} {l:L} (e:ρ[i]?=some (some l)):(∃x,l=.d x)∨∃es,l=.r (.lst es):=by
 have:=List.all_eq_true.mp h _ (List.mem_of_getElem? e);cases l with
 | d x=>exact .inl ⟨x,rfl⟩
 | r x=>cases x<;>first | exact .inr ⟨_,rfl⟩ | cases this
 | _=>cases this
structure FT (K:Kx) (i:Nat) (C f:Str) (a dx p:Addr) (A:List (Str×V)) (A':List (Str×D)) (σ:L2.St) (G H:Hp) (ρ:Env) (vs:List V) (ds:List D):Prop where
 r:Rel K σ G H (ρ.set i none)
 hn:allR (ρ.set i none)=true
 np:¬Own σ (ρ.set i none) p
 na:¬Own σ (ρ.set i none) a
 e:ρ[i]?=some (some (.r (.ins C (A'++[(f,.lst ds)]))))
 s:σ[i]?=some (some (.ref a))
 ga:G a=none
 gp:G p=none
 ha:H a=some (.ins (cA K.k C) dx (A++[(f,.ref p)]))
 gd:G dx=some (.own a)
 hp:H p=some (.lst vs)
 qA:DqF K.k G A A'
 q:DqA K.k G vs ds
 lA:A.lookup f=none
 lA':A'.lookup f=none
section
variable {K:Kx} {W:WX} {i:Nat} {C f:Str} {a dx p:Addr} {A:List (Str×V)} {A':List (Str×D)} {σ:L2.St} {G H G1 H1:Hp} {ρ ρ1:Env} {vs:List V} {ds:List D}
theorem FT.dat (X:FT K i C f a dx p A A' σ G H ρ vs ds) {j:Nat} {l:L} (hj:j≠i) (e:ρ[j]?=some (some l)):(∃x,l=.d x)∨∃es,l=.r (.lst es):=by
 refine qhz X.hn (i:=j) ?_;rw[List.getElem?_set_ne (fun z=>hj z.symm)];exact e
def qtH (i:Nat) (ρ:Env) (d:D):Env:=qsc (ρ.set i (some (.d d)))
def qhD (K:Kx) (i:Nat) (C f:Str) (a dx p:Addr) (A:List (Str×V)) (A':List (Str×D)) (σ0:L2.St) (ρ0:Env) (G0 H0 G H:Hp) (D:Ends):Res Fl→Prop
 | .ok .nx ρ1=>∀σ1 G1 H1 vs1 ds1,Stp σ0 ρ0 G0 H0 σ1 ρ1 G1 H1→FT K i C f a dx p A A' σ1 G1 H1 ρ1 vs1 ds1→Fr p G H G1 H1→D.nx σ1 H1
 | .ok .ct ρ1=>∀σ1 G1 H1 vs1 ds1,Stp σ0 ρ0 G0 H0 σ1 ρ1 G1 H1→FT K i C f a dx p A A' σ1 G1 H1 ρ1 vs1 ds1→Fr p G H G1 H1→D.ct σ1 H1
 | _=>False
def qql (i:Nat) (ρ:Env):Env:=match ρ[i]? with
 | some (some (.r x))=>qsc (ρ.set i (some (.d x)))
 | _=>ρ
theorem FT.lk (X:FT K i C f a dx p A A' σ G H ρ vs ds):qql i ρ=qtH i ρ (qit C f A' ds):=by
 unfold qql;rw[X.e];rfl
theorem qhD.step {σ0:L2.St} {ρ0:Env} {G0 H0:Hp} {D:Ends} (fr:Fr p G H G1 H1):∀{r:Res Fl},qhD K i C f a dx p A A' σ0 ρ0 G0 H0 G H D r→qhD K i C f a dx p A A' σ0 ρ0 G0 H0 G1 H1 D r
 | .ok .nx _,h=>fun σ1 G2 H2 vs1 ds1 S X q=>h σ1 G2 H2 vs1 ds1 S X (fr.trans q)
 | .ok .ct _,h=>fun σ1 G2 H2 vs1 ds1 S X q=>h σ1 G2 H2 vs1 ds1 S X (fr.trans q)
 | .ok .bk _,h=>h
 | .ok (.rt _) _,h=>h
 | .ex _ _,h=>h
 | .bad,h=>h
end
namespace Lay
def it:Nat→Nat→Nat
 | 0,i=>i
 | n+1,i=>it n (5*i+1)
def lp (mask:Nat):Nat→Nat→Nat→Nat×Nat
 | 0,i,p=>(i,p)
 | n+1,i,p=>lp mask n (SetTable.leap mask i p).1 (SetTable.leap mask i p).2
structure Own (mask:Nat) (owner:Array (Option Nat)) (k:Nat):Prop where
 size:owner.size=mask+1
 perm:(owner.toList.filterMap id).Perm (List.range k)
end Lay
end DL
namespace DL
open PySem PySem.Spec PyProof.Rows L2
namespace Lay
theorem qay:∀(fuel e n:Nat),n<2 ^ (e+fuel)→∃e',SetTable.sizeAbove.go n fuel (2 ^ e)=2 ^ e'∧n<2 ^ e'∧(2 ^ e'≤2 ^ e∨2 ^ e'≤2*n)
 | 0,e,n,h=>⟨e,rfl,by simpa using h,.inl (Nat.le_refl _)⟩
 | fuel+1,e,n,h=>by
  unfold SetTable.sizeAbove.go;split
  ·rename_i hc;obtain⟨e',h1,h2,h3⟩:=qay fuel (e+1) n (by rw[Nat.add_assoc,Nat.add_comm 1];exact h);rw[Nat.pow_succ]at h1;refine⟨e',h1,h2,?_⟩;rcases h3 with h3 | h3
   ·right;rw[Nat.pow_succ]at h3;omega
   ·right;exact h3
  ·rename_i hc;exact⟨e,rfl,by omega,.inl (Nat.le_refl _)⟩
theorem above (n:Nat) (h:n<2 ^ 20):∃e,SetTable.sizeAbove n=2 ^ e∧n<2 ^ e∧2 ^ e≤8+2*n:=by
 obtain⟨e,h1,h2,h3⟩:=qay 64 3 n (Nat.lt_trans h (by decide));refine⟨e,h1,h2,?_⟩;rcases h3 with h3 | h3<;>omega
end Lay
end DL
namespace DL
open PySem PySem.Spec PyProof.Rows L2
def Ez:List D→Option (List (List Int))
 | []=>some []
 | .tup ds::r=>(match T5 ds,Ez r with
  | some n,some ns=>some (n::ns)
  | _,_=>none)
 | _::_=>none
theorem Om:∀{ds:List D} {nss:List (List Int)},Ez ds=some nss→ds=nss.map fun ns=>.tup (ns.map .int)
 | [],nss,e=>by cases Option.some.inj e;rfl
 | .tup dd::r,nss,e=>by
  unfold Ez at e;split at e
  ·rename_i n ns h1 h2;cases Option.some.inj e;rw[Om h2,Nc h1];rfl
  ·cases e
 | .non::_,_,e | .bl _::_,_,e | .int _::_,_,e | .str _::_,_,e | .lst _::_,_,e | .ro _::_,_,e | .dct _::_,_,e | .ins _ _::_,_,e | .dcT _::_,_,e=>by cases e
abbrev LeP (x y:Int×Int):Prop:=SrtO.lexB y x=false
theorem LeP.tr {x y z:Int×Int} (h1:LeP x y) (h2:LeP y z):LeP x z:=by
 have a:=SrtO.lexB_no.mp h1;have b:=SrtO.lexB_no.mp h2;exact SrtO.lexB_no.mpr (by omega)
end DL
namespace L2
open PySem PySem.Spec PyProof.Rows
end L2
namespace DL
open PySem PySem.Spec PyProof.Rows L2
variable {K:Kx} {W:WX}
theorem qiT {σ:L2.St} {ρ:Env} {G H:Hp} {p:Addr} (R:Rel K σ G H ρ) (hp:H p=none):¬Own σ ρ p:=fun⟨i,l,e1,o,e3⟩=>by
 obtain⟨v,e4,e5⟩:=R.at_ i l e1;rw[e3]at e4;cases Option.some.inj (Option.some.inj e4);have:∀y,MOk K G H (.ref p) y→False:=fun y hm=>by
  obtain⟨a,ea,_,hn⟩:=hm.ref;cases ea;exact hn hp
 cases l with
 | d y=>cases o
 | m y=>exact this y e5
 | r y=>exact this y e5
 | p y=>exact this y e5.1
 | xh=>cases o
 | u _ _=>cases o
end DL
namespace L2
open PySem PySem.Spec PyProof.Rows
def D8:List Int→List Int→Bool
 | [],[]=>false
 | [],_::_=>true
 | _::_,[]=>false
 | x::xs,y::ys=>if x=y then D8 xs ys else decide (x<y)
theorem Fj:∀{x y:List Int},D8 x y=true→D8 y x=false
 | [],[],h=>by cases h
 | [],_::_,_=>rfl
 | _::_,[],h=>by cases h
 | x::xs,y::ys,h=>by
  unfold D8 at h ⊢;by_cases e:x=y
  ·rw[if_pos e]at h;rw[if_pos e.symm];exact Fj h
  ·rw[if_neg e]at h;rw[if_neg (Ne.symm e)];have:=of_decide_eq_true h;exact decide_eq_false (by omega)
theorem xp:∀{x y z:List Int},D8 x y=false→D8 y z=false→D8 x z=false
 | [],[],_,_,h=>h
 | [],_::_,_,h,_=>by cases h
 | _::_,_,[],_,_=>rfl
 | _::_,[],_::_,_,h=>by cases h
 | x::xs,y::ys,z::zs,h1,h2=>by
  unfold D8 at h1 h2 ⊢;by_cases e1:x=y
  ·subst e1;rw[if_pos rfl]at h1;by_cases e2:x=z
   ·rw[if_pos e2]at h2;rw[if_pos e2];exact xp h1 h2
   ·rw[if_neg e2]at h2;rw[if_neg e2];exact h2
  ·rw[if_neg e1]at h1;have a1:=of_decide_eq_false h1;by_cases e2:y=z
   ·subst e2;rw[if_neg e1];exact h1
   ·rw[if_neg e2]at h2;have a2:=of_decide_eq_false h2;have e3:¬x=z:=by omega
    rw[if_neg e3];exact decide_eq_false (by omega)
theorem qx:∀{x y:List Int},D8 x y=false→D8 y x=false→x=y
 | [],[],_,_=>rfl
 | [],_::_,h,_=>by cases h
 | _::_,[],_,h=>by cases h
 | x::xs,y::ys,h1,h2=>by
  unfold D8 at h1 h2;by_cases e:x=y
  ·rw[if_pos e]at h1;rw[if_pos e.symm]at h2;rw[e,qx h1 h2]
  ·rw[if_neg e]at h1;rw[if_neg (Ne.symm e)]at h2;have a1:=of_decide_eq_false h1;have a2:=of_decide_eq_false h2;omega
def Wg (h:Heap) (u:Value) (k:List Int):Prop:=∃a its,u=.ref a∧h.IsTuple a its∧IntsAre its.toList k
theorem Wg.keeps {h h':Heap} {u:Value} {k:List Int} (q:Wg h u k) (kp:∀b o,h.get? b=some o→o.cls=.type "tuple"→h'.get? b=some o):Wg h' u k:=by
 obtain⟨a,its,e,⟨o,ho,hc,n,hd⟩,i⟩:=q;exact⟨a,its,e,⟨o,kp a o ho hc,hc,n,hd⟩,i⟩
theorem za {vs:List Value} {ns ms:List Int} (a:IntsAre vs ns) (b:IntsAre vs ms):ns=ms:=by
 have l1:=IntsAre.length a;have l2:=IntsAre.length b;refine List.ext_getElem? fun i=>?_;by_cases hi:i<vs.length
 ·obtain⟨t1,e1⟩:=IntsAre.int_at a i _ (List.getElem?_eq_getElem hi);obtain⟨t2,e2⟩:=IntsAre.int_at b i _ (List.getElem?_eq_getElem hi);rw[e1]at e2;injection e2 with e3 e4
  rw[List.getD_eq_getElem?_getD,List.getD_eq_getElem?_getD,List.getElem?_eq_getElem (show i<ns.length by omega),List.getElem?_eq_getElem (show i<ms.length by omega)]at e3;rw[List.getElem?_eq_getElem (show i<ns.length by omega),List.getElem?_eq_getElem (show i<ms.length by omega)];exact congrArg some e3
 ·rw[List.getElem?_eq_none (by omega),List.getElem?_eq_none (by omega)]
theorem Wg.uniq {h:Heap} {u:Value} {k j:List Int} (p:Wg h u k) (q:Wg h u j):k=j:=by
 obtain⟨a,its,e,⟨o,ho,hc,n,hd⟩,i⟩:=p;obtain⟨a',its',e',⟨o',ho',hc',n',hd'⟩,i'⟩:=q;rw[e]at e';cases e';rw[ho]at ho';cases Option.some.inj ho';rw[hd]at hd';injection hd' with d1 d2
 subst d1;exact za i i'
section
variable {prog:Program} {w:World} {A:Around} {E:Value→Shared→Prop} {s:Shared}
open Classical in
noncomputable def qeS (h:Heap) (u:Value):List Int:=if q:∃k,Wg h u k then q.choose else []
theorem qfN {h:Heap} {u:Value} {k:List Int} (q:Wg h u k):qeS h u=k:=by
 have ex:∃k,Wg h u k:=⟨k,q⟩;unfold qeS;rw[dif_pos ex];exact ex.choose_spec.uniq q
theorem qdE (k:Value→List Int):SrtO.Swo fun v u=>D8 (k v) (k u):=⟨fun _ _ h=>Fj h,fun _ _ _ h1 h2=>xp h2 h1⟩
end
end L2
namespace DL
open PySem PySem.Spec PyProof.Rows L2
def tupQ (k:List Int):D:=.tup (k.map .int)
def qhU (x:List Int):List (List Int)→List (List Int)
 | []=>[x]
 | y::ys=>if D8 y x=true then y::qhU x ys else x::y::ys
def qbx:List (List Int)→List (List Int)
 | []=>[]
 | x::xs=>qhU x (qbx xs)
abbrev LeT (x y:List Int):Prop:=D8 y x=false
theorem Fv (x:List Int):∀ys,(qhU x ys).Perm (x::ys)
 | []=>.refl _
 | y::ys=>by
  unfold qhU;split
  ·exact ((Fv x ys).cons y).trans (.swap x y ys)
  ·exact .refl _
theorem Bl:∀xs,(qbx xs).Perm xs
 | []=>.refl _
 | x::xs=>(Fv x _).trans ((Bl xs).cons x)
theorem qab (x:List Int):∀{ys},ys.Pairwise LeT→(qhU x ys).Pairwise LeT
 | [],_=>List.pairwise_singleton _ _
 | y::ys,h=>by
  unfold qhU;obtain⟨h1,h2⟩:=List.pairwise_cons.mp h;split
  ·rename_i hxy;refine List.pairwise_cons.mpr ⟨fun z hz=>?_,qab x h2⟩;rcases List.mem_cons.mp ((Fv x ys).mem_iff.mp hz) with rfl | hz
   ·exact Fj hxy
   ·exact h1 z hz
  ·rename_i hxy;have hxy:LeT x y:=by
    show D8 y x=false;cases q:D8 y x
    ·rfl
    ·exact absurd q hxy
   refine List.pairwise_cons.mpr ⟨fun z hz=>?_,h⟩;rcases List.mem_cons.mp hz with rfl | hz
   ·exact hxy
   ·exact xp (h1 z hz) hxy
theorem Iu:∀xs,(qbx xs).Pairwise LeT
 | []=>List.Pairwise.nil
 | x::xs=>qab x (Iu xs)
theorem E4:∀{xs ys:List (List Int)},xs.Perm ys→xs.Pairwise LeT→ys.Pairwise LeT→xs=ys
 | [],ys,p,_,_=>by rw[List.nil_perm.mp p]
 | x::xs,[],p,_,_=>nomatch (List.perm_nil.mp p)
 | x::xs,y::ys,p,h1,h2=>by
  obtain⟨a1,a2⟩:=List.pairwise_cons.mp h1;obtain⟨b1,b2⟩:=List.pairwise_cons.mp h2;have e:x=y:=by
   have hx:x∈y::ys:=p.mem_iff.mp List.mem_cons_self;have hy:y∈x::xs:=p.mem_iff.mpr List.mem_cons_self;rcases List.mem_cons.mp hx with e | hx
   ·exact e
   ·rcases List.mem_cons.mp hy with e | hy
    ·exact e.symm
    ·exact qx (b1 x hx) (a1 y hy)
  subst e;rw[E4 (p.cons_inv) a2 b2]
def qp9:List D→Option (List D)
 | [.lst ds]=>(match Ez ds with
   | some ([]::ks)=>some ((qbx ([]::ks)).map tupQ)
   | _=>Lr [.lst ds])
 | as=>Lr as
theorem Ey:∀ks:List (List Int),Ez (ks.map tupQ)=some ks
 | []=>rfl
 | k::ks=>by
  show (match T5 (k.map D.int),Ez (ks.map tupQ) with | some n,some ns=>some (n::ns) | _,_=>none)=_;rw[Fu,Ey ks]
section
variable {K:Kx} {W:WX}
structure DcI (K:Kx) (σ:L2.St) (G1 H1:Hp) (ρ1:Env) (js:List Nat) (A:Addr) (accV:List (Key×V)) (acc:List (Key×D)) (G':Hp) (ρ':Env) (H':Hp):Prop where
 S:Stp σ ρ1 G1 H1 σ ρ' G' H'
 R:Rel K σ G' H' ρ'
 h:H' A=some (.dK accV)
 g:G' A=none
 no:¬Own σ ρ' A
 q:DqK K G' accV acc
 len:ρ'.length=ρ1.length
 same:∀i∈js,ρ'[i]?=ρ1[i]?
theorem j5 {σ:L2.St} {G H:Hp} {ρ:Env} {A:Addr} (R:Rel K σ G H ρ) (hA:H A=none):¬Own σ ρ A:=fun⟨i,l,e1,o,e3⟩=>by
 obtain⟨v,e4,e5⟩:=R.at_ i l e1;rw[e3]at e4;cases Option.some.inj (Option.some.inj e4);have:∀y,MOk K G H (.ref A) y→False:=fun y hm=>by
  obtain⟨a,ea,_,hn⟩:=hm.ref;cases ea;exact hn hA
 cases l with
 | d y=>cases o
 | m y=>exact this y e5
 | r y=>exact this y e5
 | p y=>exact this y e5.1
 | xh=>cases o
 | u _ _=>cases o
theorem DcI.start {σ:L2.St} {G1 H1:Hp} {ρ1:Env} {js:List Nat} {A:Addr} {accV:List (Key×V)} {acc:List (Key×D)} (R:Rel K σ G1 H1 ρ1) (hA:H1 A=none) (q:DqK K G1 accV acc):DcI K σ G1 H1 ρ1 js A accV acc G1 ρ1 (upd H1 A (.dK accV)):=
 ⟨(Stp.refl _ _ _ _).side hA,R.side (R.same.free hA) (j5 R hA),upd_same,R.same.free hA,j5 R hA,q,rfl,fun _ _=>rfl⟩
theorem DcI.item {σ:L2.St} {G1 H1 G' H':Hp} {ρ1 ρ':Env} {js:List Nat} {A:Addr} {accV:List (Key×V)} {acc:List (Key×D)} (I:DcI K σ G1 H1 ρ1 js A accV acc G' ρ' H') {G2 H2:Hp} (gr:Gro G' H' G2 H2):DcI K σ G1 H1 ρ1 js A accV acc G2 ρ' H2:=by
 refine⟨I.S.trans (gr.stp (σ:=σ) (ρ:=ρ')),I.R.gro gr,gr.h A _ I.h,?_,I.no,I.q.mono gr.g,I.len,I.same⟩;cases q:G2 A with
 | none=>rfl
 | some o=>
  rcases gr.gf A o q with z | z
  ·rw[I.g]at z;cases z
  ·rw[I.h]at z;cases z
theorem DcI.leave {σ σ2:L2.St} {G1 H1 G2 H2 G3 H3:Hp} {ρ1 ρ' ρ2 ρ3:Env} {js ks:List Nat} {A:Addr} {accV Lc:List (Key×V)} {acc qk3:List (Key×D)} (I:DcI K σ G1 H1 ρ1 js A accV acc G2 ρ' H2) (hA:H1 A=none) (hcl:clean ρ1 js=true) (hks:∀i∈ks,i∈js)
  (T:Tg ks (wipe σ js) σ2 (Vb ρ' js) ρ2) (S4:Stp σ2 ρ2 G2 (Aa A H2) σ2 ρ3 G3 (Aa A H3)) (R4:Rel K σ2 G3 (Aa A H3) ρ3) (h3:H3 A=some (.dK Lc)) (g3:G3 A=none) (q3:DqK K G3 Lc qk3) :
  DcI K σ G1 H1 ρ1 js A Lc qk3 G3 (J4 ρ1 ρ3 js) H3:=by
 have R2:Rel K σ G2 (Aa A H2) ρ':=I.R.outD I.g I.no;have S2:Stp σ ρ1 G1 H1 σ ρ' G2 (Aa A H2):=I.S.outD hA;obtain⟨S5,R5⟩:=Rel.turn R2 I.len I.same hcl ks hks T S4 R4;have l3:ρ3.length=ρ1.length:=by
  have e1:=R4.len;have e2:=T.len;rw[wipe_length]at e2;have e3:=R2.len;have e4:=I.len;omega
 have no3:¬Own σ (J4 ρ1 ρ3 js) A:=j5 R5 Um;have S6:=(S2.trans S5).side (o:=.dK Lc) hA;have R6:=R5.side (o:=.dK Lc) g3 no3;rw[E9 h3]at S6 R6;exact⟨S6,R6,h3,g3,no3,q3,by rw[V6];exact l3,fun i hi=>U0 l3 hi⟩
end
end DL
namespace L2
open PySem PySem.Spec PyProof.Rows
def qk8 (h:Heap) (v:Value) (x y z:Int):Prop:=∃a o t u r n,v=.ref a∧h.get? a=some o∧o.cls=.type "tuple"∧o.data=.seq #[.int x t,.int y u,.int z r] n
theorem Wg.tri {h:Heap} {v:Value} {k:List Int} (p:Wg h v k) (hk:k.length=3):∃x y z,k=[x,y,z]∧qk8 h v x y z:=by
 obtain⟨a,its,e,⟨o,ho,hc,n,hd⟩,i⟩:=p;match k,hk with
 | [x,y,z],_=>
  refine⟨x,y,z,rfl,?_⟩;have l:its.toList.length=3:=IntsAre.length i;match hq:its.toList,l with
  | [p,q,s],_=>
   rw[hq]at i;obtain⟨t,e0⟩:=IntsAre.int_at i 0 p rfl;obtain⟨u,e1⟩:=IntsAre.int_at i 1 q rfl;obtain⟨r,e2⟩:=IntsAre.int_at i 2 s rfl;refine⟨a,o,t,u,r,n,e,ho,hc,?_⟩;rw[hd];congr 1;apply Array.ext';rw[hq,e0,e1,e2];rfl
theorem O6 {h:Heap}:∀{vs:List Value},(∀v∈vs,∃x y z,qk8 h v x y z)→∃fs:List Value,PySem.W.KatTups h vs fs∧fs.length=vs.length∧∀f∈fs,∃x t,f=Value.int x t
 | [],_=>⟨[],PySem.W.KatTups.nil,rfl,fun _ hm=>by simp at hm⟩
 | v::vs,hp=>by
  obtain⟨fs,h1,h2,h3⟩:=O6 (vs:=vs) fun v' hm=>hp v' (List.mem_cons_of_mem _ hm);obtain⟨x,y,z,a,o,t,u,r,n,e,ho,hc,hd⟩:=hp v (List.mem_cons_self ..);subst e;refine⟨.int x t::fs,PySem.W.KatTups.cons ho hc hd rfl h1,by rw[List.length_cons,List.length_cons,h2],fun f hm=>?_⟩;rcases List.mem_cons.mp hm with rfl | hm
  ·exact⟨x,t,rfl⟩
  ·exact h3 f hm
section
variable {prog:Program} {w:World} {A:Around} {E:Value→Shared→Prop} {s:Shared}
theorem qfP {vs:List Value} {k:Value→List Int} (hp:∀v∈vs,Wg s.heap v (k v)∧(k v).length=3):SrtO.Cmp prog w A s (tuples' true) (fun p=>p.1∈vs) (SrtO.lt2 fun v u=>D8 (k v) (k u)):=by
 intro p q hm hm';show wpAny (model prog w) A (keyLt' (tuples' true) p.1 q.1) (fun r s'=>s'=s∧r=D8 (k p.1) (k q.1)) (fun _ _=>False) s;obtain⟨x,y,z,e1,a,o,t,u,r,n,e,ho,hc,hd⟩:=(hp _ hm).1.tri (hp _ hm).2;obtain⟨x',y',z',e1',a',o',t',u',r',n',e',ho',hc',hd'⟩:=(hp _ hm').1.tri (hp _ hm').2;rw[e1,e1',e,e'];refine PySem.W.kat_lt ho hd ho' hd' ?_;show PySem.W.KatLex prog w A true (decide (3<3)) _ [(.int x t,.int x' t'),(.int y u,.int y' u'),(.int z r,.int z' r')] 0 s;have lx:D8 [x,y,z] [x',y',z']=if x=x' then (if y=y' then (if z=z' then false else decide (z<z')) else decide (y<y')) else decide (x<x'):=rfl
 rw[lx];refine PySem.W.kat_cons (SeqAt.EqAt.int_int x t x' t' prog w _ _ ?_);refine PySem.W.kat_go (fun q1=>?_) (fun q1=>?_)
 ·have ex:x=x':=by simpa using q1
  rw[if_pos ex];refine PySem.W.kat_yes (PySem.W.kat_cons (SeqAt.EqAt.int_int y u y' u' prog w _ _ ?_));refine PySem.W.kat_go (fun q2=>?_) (fun q2=>?_)
  ·have ey:y=y':=by simpa using q2
   rw[if_pos ey];refine PySem.W.kat_yes (PySem.W.kat_cons (SeqAt.EqAt.int_int z r z' r' prog w _ _ ?_));refine PySem.W.kat_go (fun q3=>?_) (fun q3=>?_)
   ·have ez:z=z':=by simpa using q3
    rw[if_pos ez];exact PySem.W.kat_yes (PySem.W.kat_nil ⟨rfl,rfl⟩)
   ·have ez:¬z=z':=by simpa using q3
    rw[if_neg ez];exact PySem.W.kat_no (PySem.W.kat_one _ _ (PyProof.Rows.lt_int ⟨rfl,rfl⟩))
  ·have ey:¬y=y':=by simpa using q2
   rw[if_neg ey];exact PySem.W.kat_no (PySem.W.kat_one _ _ (PyProof.Rows.lt_int ⟨rfl,rfl⟩))
 ·have ex:¬x=x':=by simpa using q1
  rw[if_neg ex];exact PySem.W.kat_no (oneLt_int ⟨rfl,rfl⟩)
theorem E1 {a:Addr} {vs:List Value} {k:Value→List Int} (h0:0<vs.length) (hp:∀u∈vs,Wg s.heap u (k u)∧(k u).length=3) (ha:∀o,s.heap.get? a=some o→o.cls≠.type "tuple"):SrtO.SortableO prog w A s a vs fun v u=>D8 (k v) (k u):=by
 intro h' keep;have hp':∀u∈vs,Wg h' u (k u)∧(k u).length=3:=fun u hm=>⟨(hp u hm).1.keeps fun b o e c=>keep b o (fun z=>by subst z;exact ha o e c) e,(hp u hm).2⟩;obtain⟨fs,h1,h2,h3⟩:=O6 (h:=h') (vs:=vs) fun v hm=>by
  obtain⟨x,y,z,_,q⟩:=(hp' v hm).1.tri (hp' v hm).2;exact⟨x,y,z,q⟩
 refine⟨tuples' true,fun Q E hq=>?_,qfP (s:={ s with heap:=h' }) hp'⟩;refine PySem.W.kat_kind (s:={ s with heap:=h' }) (T:=.type "int") h1 (by omega) (fun f hm=>?_) (by rfl) ?_
 ·obtain⟨x,t,rfl⟩:=h3 f hm;exact PySem.W.Looks.now
 ·have e:(Value.type "int" != Value.type "tuple")=true:=by first | decide +kernel | rfl | decide
  rw[e];exact hq
theorem jr {l:Addr} {vs:List Value} {k:Value→List Int} {Q:Value→Shared→Prop} (hl:s.heap.IsList l vs.toArray) (hz:vs.length≤sizeLine) (hp:∀u∈vs,Wg s.heap u (k u)∧(k u).length=3)
  (h:∀(h':Heap) (d:Addr) (out:List Value),SrtO.Srtd (fun v u=>D8 (k v) (k u)) out→SrtO.Stb (fun v u=>D8 (k v) (k u)) out vs→(∀b o,s.heap.get? b=some o→h'.get? b=some o)→s.heap.objs.size≤d→(∃n,h'.get? d=some (seqObj "list" out.toArray n))→Q (.ref d) { s with heap:=h' }) :
  wpAny (model prog w) A (call (.builtin "sorted") [.ref l]) Q E s:=by
 refine SrtO.sorted_ord (qdE k) hl hz (fun h2 h₁ a ha kk=>?_) fun out hs hb=>?_
 ·refine E1 (s:={ s with heap:=h₁ }) (by omega) (fun u hm=>⟨(hp u hm).1.keeps fun b o e _=>(kk b o e).2,(hp u hm).2⟩) fun o e=>?_;have e':some o=some (seqObj "list" vs.toArray 0):=e.symm.trans ha;cases e';intro c;exact absurd (Value.type.inj c) (by decide)
 ·exact h _ _ out hs hb (fun b o e=>sortedAll_old e) (Nat.le_succ _) (sortedAll_at s.heap vs out.toArray)
end
end L2
namespace DL
open PySem PySem.Spec PyProof.Rows L2
def Bm:List D→Option (List D)
 | [.lst ds]=>(match Ez ds with
   | some ks=>if (ks.all fun k=>decide (k.length=3))=true then some ((qbx ks).map tupQ) else Lr [.lst ds]
   | none=>Lr [.lst ds])
 | as=>Lr as
theorem qc7 {X:Cx}:CallR X (.builtin "sorted") (rFn X.K Bm):=by
 intro pins s σ H xs us Q I r h;obtain⟨G,as,d,sG,va,e,q⟩:=h;unfold Bm at e;split at e
 ·rename_i ds;split at e
  ·rename_i ks en;split at e
   ·rename_i h3;have h3:∀k∈ks,k.length=3:=fun k hk=>of_decide_eq_true (List.all_eq_true.mp h3 k hk);cases Option.some.inj e;obtain⟨x,rfl,hx⟩:=Dm va;obtain⟨a,ys,rfl,h1,h2⟩:Vw X.K G H x (.lst ds):=hx;have ed:ds=ks.map tupQ:=Om en;obtain⟨its,rv,pl,hz⟩:=I.list (xs:=ys) (a:=a) (.inl (.inl h1));rw[Vals.ref1 r];have one:∀{v:V} {u:Value} {k:List Int},RelV v u→Dq X.K G v (tupQ k)→Wg s.heap u k∧∃l,v=.ref l∧u=.ref l:=fun {v u k} ru hd=>by
     cases hd with
     | tup h3 h4=>
      have h4:DqA X.K G _ (k.map .int):=h4;rw[h4.ints]at h3;obtain⟨its',rv',ht,_⟩:=I.tuple (Same.seqN sG h3).sq;exact⟨⟨_,its'.toArray,ru,ht,rv'.ints⟩,_,rfl,ru⟩
    rw[ed]at h2;have hold:∀{ys:List V} {us:List Value} {ks:List (List Int)},Vals ys us→DqA X.K G ys (ks.map tupQ)→us.map (qeS s.heap)=ks∧∀u∈us,Wg s.heap u (qeS s.heap u)∧Dq X.K G (backV u) (tupQ (qeS s.heap u))∧∃l,u=.ref l:=by
     intro ys us ks hv;induction hv generalizing ks with
     | nil=>
      intro hq;cases ks with
      | nil=>exact⟨rfl,fun u hu=>nomatch hu⟩
      | cons a b=>cases hq
     | cons r1 _ ih=>
      intro hq;cases ks with
      | nil=>cases hq
      | cons a b=>
       cases hq with
       | cons h5 h6=>
        obtain⟨hp,l,rfl,rfl⟩:=one r1 h5;obtain⟨i1,i2⟩:=ih h6;have ek:=qfN hp;refine⟨by rw[List.map_cons,ek,i1],fun u hu=>?_⟩;rcases List.mem_cons.mp hu with rfl | hu
        ·rw[ek];exact⟨hp,h5,l,rfl⟩
        ·exact i2 u hu
    obtain⟨ek,hall⟩:=hold rv h2;have hlen:its.length=ys.length:=rv.length.symm;refine jr (k:=qeS s.heap) pl.isList (by rw[hlen];exact hz) (fun v hv=>⟨(hall v hv).1,h3 _ (by rw[← ek];exact List.mem_map_of_mem hv)⟩) fun h' dd out hs hb kp hd hn=>?_;have hm:∀u∈out,u∈its:=fun u hu=>hb.perm.mem_iff.mp hu;obtain⟨n,hn⟩:=hn;have eo:out.map (qeS s.heap)=qbx ks:=by
     refine E4 (((hb.perm.map _).trans (by rw[ek])).trans (Bl _).symm) ?_ (Iu _);exact List.pairwise_map.mpr hs
    have hdq:∀os:List Value,(∀u∈os,u∈its)→DqA X.K G (os.map backV) ((os.map (qeS s.heap)).map tupQ):=fun os=>by
     induction os with
     | nil=>exact fun _=>.nil
     | cons u os ih=>exact fun hu=>.cons (hall u (hu u List.mem_cons_self)).2.1 (ih fun v hv=>hu v (List.mem_cons_of_mem _ hv))
    refine⟨.ref dd,upd H dd (.lst (out.map backV)),I.laid (t':=s.toks) kp hd ⟨?_,out,n,vals_back fun u hu=>(hall u (hm u hu)).2.2,hn⟩,rfl,q dd _ (I.hok.fresh hd) ?_⟩
    ·rw[List.length_map,hb.perm.length_eq,hlen];exact hz
    ·rw[← eo];exact hdq out hm
   ·exact Be pins s σ H xs us Q I r ⟨G,_,d,sG,va,e,q⟩
  ·exact Be pins s σ H xs us Q I r ⟨G,_,d,sG,va,e,q⟩
 ·exact Be pins s σ H xs us Q I r ⟨G,_,d,sG,va,e,q⟩
theorem qaD {ks:List (List Int)} (h:∀k∈ks,k.length=3):Bm [.lst (ks.map tupQ)]=some ((qbx ks).map tupQ):=by
 show (match Ez (ks.map tupQ) with | some ks=>_ | none=>_)=_;rw[Ey];exact if_pos (List.all_eq_true.mpr fun k hk=>decide_eq_true (h k hk))
structure NScopeS (N ps:List Str) (sc:Scope):Prop where
 kind:sc.kind=.function
 co:sc.isCoroutine=false
 gen:sc.isGenerator=false
 nd:N.Nodup
 pre:N.take ps.length=ps
 par:∀x∈ps,sc.names.lookup x=some .local∨sc.names.lookup x=some .cell
 nocls:∀y∈sc.names,y.2=.cell→y.1≠"__class__"
 free:∀y∈sc.names,y.2=.free→y.1="__class__"
 clsk:sc.names.lookup ("__class__" : Str)=some .free
theorem cells_mem:∀(l:List (Str×NameKind)) (n:Nat) (a:List (Str×Addr)) (x:Str) (c:Addr),(x,c)∈cellsFrom n l a→(x,c)∈a∨(x,NameKind.cell)∈l
 | [],_,_,_,_,h=>.inl h
 | (y,k)::r,n,a,x,c,h=>by
  unfold cellsFrom at h;split at h
  ·rename_i hk;rcases cells_mem r (n+1) ((y,n)::a) x c h with z | z
   ·rcases List.mem_cons.mp z with e | z
    ·cases e;have:k=.cell:=eq_of_beq hk;exact .inr (by rw[this];exact List.mem_cons_self)
    ·exact .inl z
   ·exact .inr (List.mem_cons_of_mem _ z)
  ·rcases cells_mem r n a x c h with z | z
   ·exact .inl z
   ·exact .inr (List.mem_cons_of_mem _ z)
abbrev clS (sc:Scope) (L cc:Addr):List (Str×Addr):=cellsFrom (L+1) sc.names []++[(("__class__" : Str),cc)]
theorem NScopeS.look {N ps:List Str} {sc:Scope} (S:NScopeS N ps sc) {L:Addr} (cc:Addr):(clS sc L cc).lookup ("__class__" : Str)=some cc:=by
 have e:(cellsFrom (L+1) sc.names []).lookup ("__class__" : Str)=none:=by
  cases z:(cellsFrom (L+1) sc.names []).lookup ("__class__" : Str) with
  | none=>rfl
  | some c=>
   rcases cells_mem _ _ _ _ _ (PySem.mem_of_lookup z) with h | h
   ·cases h
   ·exact absurd rfl (S.nocls _ h rfl)
 unfold clS;rw[List.lookup_append,e];simp[List.lookup]
end DL
namespace L2
open PySem PySem.Calls PyProof.Rows PySem.Spec
def qpC (h:Heap) (z TI TO i1 i2 l1 l2 S:Addr) (i:Nat) (xs ys:Array Value):Prop:=
 IsPair h TI (.ref i1) (.ref i2)∧h.IsListIter i1 l1 i∧h.IsListIter i2 l2 i∧h.IsList l1 xs∧h.IsList l2 ys∧
  ((IsZip h z TI TO .none∧∃a b,IsPair h TO a b)∨∃T f oT,IsZipHeld h z TI TO T f∧h.get? T=some oT∧T≠z∧T≠i1∧T≠i2∧T≠S)
structure ZpG (xs ys:Array Value) (lo:Addr) (h:Heap) (as:List Addr):Prop where
 rise:as.Pairwise (· < ·)
 above:∀a∈as,lo<a
 pairs:∀(j:Nat) (a:Addr),as[j]?=some a→∃x y,xs[j]?=some x∧ys[j]?=some y∧h.get? a=some (tOb #[x,y])
theorem ZpG.there {xs ys:Array Value} {lo:Addr} {h:Heap} {as:List Addr} (g:ZpG xs ys lo h as) {a:Addr} (ha:a∈as):a<h.objs.size:=by
 obtain⟨j,hj⟩:=List.mem_iff_getElem?.mp ha;obtain⟨_,_,_,_,e⟩:=g.pairs j a hj;exact Heap.lt_size e
section
variable {z TI TO i1 i2 l1 l2 S:Addr} {i:Nat} {xs ys:Array Value}
theorem qpC.keep {h h':Heap} (st:qpC h z TI TO i1 i2 l1 l2 S i xs ys) (k:∀b o,b≠S→h.get? b=some o→h'.get? b=some o)
  (nz:z≠S) (nTI:TI≠S) (nTO:TO≠S) (n1:i1≠S) (n2:i2≠S) (m1:l1≠S) (m2:l2≠S):qpC h' z TI TO i1 i2 l1 l2 S i xs ys:=by
 obtain⟨hTI,h1,h2,hl1,hl2,hz⟩:=st;refine⟨k _ _ nTI hTI,h1.at fun o e=>k _ o n1 e,h2.at fun o e=>k _ o n2 e,hl1.at fun o e=>k _ o m1 e,hl2.at fun o e=>k _ o m2 e,?_⟩;rcases hz with ⟨hz,a,b,hTO⟩ | ⟨T,f,oT,hz,hT,r1,r2,r3,r4⟩
 ·exact .inl ⟨k _ _ nz hz,a,b,k _ _ nTO hTO⟩
 ·exact .inr ⟨T,f,oT,k _ _ nz hz,k _ _ r4 hT,r1,r2,r3,r4⟩
variable {prog:Program} {w:World} {A:Around} {E:Value→Shared→Prop} {s:Shared}
end
end L2
namespace L2
open PySem PySem.Calls PyProof.Rows PySem.Spec
structure ZpH (H H':Hp) (S:Addr) (as:List Addr) (xs ys:List V):Prop where
 s0:H S=none
 s1:H' S=some (.lst (as.map V.ref))
 ns:S∉as
 a0:∀a∈as,H a=none
 len:as.length=min xs.length ys.length
 off:∀b,b≠S→b∉as→H' b=H b
 prs:∀(j:Nat) (a:Addr),as[j]?=some a→∃x y o,xs[j]?=some x∧ys[j]?=some y∧H' a=some (.frz o (.tup [x,y]))∧o.dict=none
theorem ZpH.same {H H':Hp} {S:Addr} {as:List Addr} {xs ys:List V} (z:ZpH H H' S as xs ys):∀b o,H b=some o→H' b=some o:=fun b o e=>by
 rw[z.off b (fun q=>by rw[q,z.s0]at e;cases e) (fun q=>by rw[z.a0 b q]at e;cases e)];exact e
end L2
namespace DL
open PySem PySem.Spec PyProof.Rows L2
def qhf (us:List (Key×D)) (k:Key):List (Key×D):=us.filter fun kv=>decide (kv.1≠k)
theorem DqK.dropq {K:PySem.W.Frag} {G:Hp} {k:Key}:∀{vs:List (Key×V)} {ds:List (Key×D)},DqK K G vs ds→DqK K G (dropK vs k) (qhf ds k)
 | _,_,.nil=>.nil
 | _,_,.cons (k:=j) h t=>by
  have ih:=DqK.dropq (k:=k) t;unfold dropK qhf at *;rw[List.filter_cons,List.filter_cons];by_cases e:j=k
  ·simp only[e,ne_eq,not_true,decide_false];exact ih
  ·simp only[e,ne_eq,not_false_eq_true,decide_true,if_true];exact .cons h ih
def qld (us:List (Key×D)) (x:Int):List (Key×D):=if (qbn us (.inl x)).isSome=true then qhf us (.inl x) else qaN us (.inl x) (.bl true)
def L9 (mv:List (Key×D)):Nat→D→D→List (Key×D)→Option (List (Key×D))
 | _,.non,_,us=>some us
 | n+1,.int x,.int q,us=>if us.length<mx then (match qbn mv (.inl q) with
  | some (.tup [nd,q2])=>L9 mv n nd q2 (qld us x)
  | _=>none) else none
 | _,_,_,_=>none
def qie (mv:List (Key×D)) (n:Nat) (e:Int) (us:List (Key×D)):Option (List (Key×D)):=match qbn mv (.inl e) with
 | some (.tup [nd,q])=>L9 mv n nd q us
 | _=>none
def qmH (K:PySem.W.Frag) (fu fe:Str):TS:=
 tSeq (tAsg (tDGet (tVar 1) (tFld K (tVar 0) fe)) (gTup K 2 (gCons (gName 2) (gCons (gName 3) gNil))))
  (tSeq (tWhile (tB (tNotN (tVar 2))) (tSeq (tIfS (tB (tDIn (tVar 2) (tFld K (tVar 0) fu))) (tSeq (sDDel (tFld K (tVar 0) fu) (tVar 2)) tNext) (tSeq (sDPut (tFld K (tVar 0) fu) (tVar 2) (tC (.bl true))) tNext))
   (tSeq (tAsg (tDGet (tVar 1) (tVar 3)) (gTup K 2 (gCons (gName 2) (gCons (gName 3) gNil)))) tNext))) tNext)
theorem qh7 {H:Hp} {d:Addr} {o:HO} (h:H d=some o):upd H d o=H:=by
 funext b
 by_cases e:b=d
 ·rw[e,upd_same,h]
 ·rw[upd_ne e]
theorem qcg {mv:List (Key×D)} {n:Nat} {q:D} {us:List (Key×D)}:L9 mv n .non q us=some us:=by cases n<;>rfl
section
variable {K:PySem.W.Frag} {C fu fe:Str} {H:Hp} {a m dx d:Addr} {fs:List (Str×V)} {G:Hp} {mvV usV:List (Key×V)} {mvD usD us':List (Key×D)} {n:Nat} {e:Int} {E:Ends}
theorem qcD {k:Key} {t:D} (q:DqK K G mvV mvD) (h:qbn mvD k=some t):∃v,valV mvV k=some v∧Dq K G v t:=by
 have:=DqK.get (k:=k) q;rw[h]at this;exact this
theorem qj2 {k:Key} (q:DqK K G mvV mvD) (h:qbn mvD k=none):valV mvV k=none:=by
 have:=DqK.get (k:=k) q;rw[h]at this;exact this
theorem qbv (fU:FldC K C fu) (fE:FldC K C fe) (ha:H a=some (.ins (cA K C) dx fs)) (hu:fs.lookup fu=some (.ref d)) (he:fs.lookup fe=some (.int e)) (hm:H m=some (.dK mvV)) (md:m≠d) (hd:H d=some (.dK usV)) (sG:Same G H) (gd:G d=none)
  (qm:DqK K G mvV mvD) (qu:DqK K G usV usD) (ht:qie mvD n e usD=some us') (hQ:∀σ usV',DqK K G usV' us'→E.nx σ (upd H d (.dK usV'))):qmH K fu fe E [some (.ref a),some (.ref m),none,none] H:=by
 have ad:a≠d:=fun z=>by rw[z,hd]at ha;cases ha
 unfold qie at ht;split at ht
 ·rename_i nd q hg;obtain⟨tv,e1,e2⟩:=qcD qm hg;cases e2 with
  | tup e3 e4=>
   rename_i t xs;cases e4 with
   | cons d1 e5=>
    cases e5 with
    | cons d2 e6=>
     cases e6;rename_i v1 v2;refine⟨_,rfl,_,rfl,a,_,dx,fs,_,rfl,ha,fE.cl,fE.no,he,m,.ref t,rfl,?_,?_⟩
     ·have:=DGet.k (k:=.inl e) hm;rw[e1]at this;exact this
     refine⟨t,[v1,v2],rfl,(Same.seqN sG e3).sq,rfl,v1,[v2],rfl,v2,[],rfl,rfl,?_⟩;refine⟨fun k σ H'=>∃nd q v1 v2 usV usD,σ=[some (.ref a),some (.ref m),some v1,some v2]∧H'=upd H d (.dK usV)∧DqK K G usV usD∧Dq K G v1 nd∧Dq K G v2 q∧L9 mvD k nd q usD=some us',⟨n,nd,q,v1,v2,usV,usD,rfl,(qh7 hd).symm,qu,d1,d2,ht⟩,?_⟩;rintro k σ H' ⟨nd,q,v1,v2,usV,usD,rfl,rfl,qu,d1,d2,ht⟩;have ha':(upd H d (.dK usV)) a=some (.ins (cA K C) dx fs):=by rw[upd_ne ad];exact ha
     have hm':(upd H d (.dK usV)) m=some (.dK mvV):=by rw[upd_ne md];exact hm
     have hd':(upd H d (.dK usV)) d=some (.dK usV):=upd_same;refine⟨v1,rfl,_,rfl,?_⟩;cases d1 with
     | non=>
      rw[qcg]at ht;cases ht;rw[if_neg (by simp)];exact hQ _ _ qu
     | int x=>
      rw[if_pos (by simp)];cases k with
      | zero=>simp[L9]at ht
      | succ k=>
       cases d2 with
       | int y=>
        unfold L9 at ht;split at ht
        ·rename_i hl;split at ht
         ·rename_i nd2 q2 hg;obtain⟨tv,e1,e2⟩:=qcD qm hg;cases e2 with
          | tup e3 e4=>
           rename_i t xs;cases e4 with
           | cons d1' e5=>
            cases e5 with
            | cons d2' e6=>
             cases e6;rename_i w1 w2;refine⟨fun σ' H'=>∃m',m'<k+1∧∃nd q v1 v2 usV usD,σ'=[some (.ref a),some (.ref m),some v1,some v2]∧H'=upd H d (.dK usV)∧DqK K G usV usD∧Dq K G v1 nd∧Dq K G v2 q∧L9 mvD m' nd q usD=some us',fun _ _ z=>z,?_⟩;have last:∀qhI,DqK K G qhI (qld usD x)→∀D':Ends,D'.nx=(fun σ' H'=>∃m',m'<k+1∧∃nd q v1 v2 usV usD,σ'=[some (.ref a),some (.ref m),some v1,some v2]∧H'=upd H d (.dK usV)∧DqK K G usV usD∧Dq K G v1 nd∧Dq K G v2 q∧L9 mvD m' nd q usD=some us')→
               tSeq (tAsg (tDGet (tVar 1) (tVar 3)) (gTup K 2 (gCons (gName 2) (gCons (gName 3) gNil)))) tNext D' [some (.ref a),some (.ref m),some (.int x),some (.int y)] (upd H d (.dK qhI)):=fun qhI q2 D' hD=>by
              have hm2:(upd H d (.dK qhI)) m=some (.dK mvV):=by rw[upd_ne md];exact hm
              have s2:Same G (upd H d (.dK qhI)):=fun b o z=>by
               rw[upd_ne (fun w=>by rw[w,gd]at z;cases z)];exact sG b o z
              refine⟨_,rfl,_,rfl,m,.ref t,rfl,?_,?_⟩
              ·have:=DGet.k (k:=.inl y) hm2;rw[e1]at this;exact this
              refine⟨t,[w1,w2],rfl,(Same.seqN s2 e3).sq,rfl,w1,[w2],rfl,w2,[],rfl,rfl,?_⟩;show D'.nx _ _;rw[hD];exact⟨k,Nat.lt_succ_self k,nd2,_,w1,w2,qhI,_,rfl,rfl,q2,d1',d2',ht⟩
             refine⟨_,rfl,_,rfl,a,_,dx,fs,_,rfl,ha',fU.cl,fU.no,hu,d,valV usV (.inl x),rfl,DGet.k (k:=.inl x) hd',_,rfl,?_⟩;cases hgu:qbn usD (.inl x) with
             | none=>
              have hv:=qj2 qu hgu;rw[hv];rw[if_neg (by simp)];refine⟨_,rfl,a,_,dx,fs,_,rfl,ha',fU.cl,fU.no,hu,_,rfl,d,_,rfl,DPut.k (k:=.inl x) (v:=.bl true) hd' ?_,?_⟩
              ·rw[qu.length];exact Gp hl
              ·rw[upd_upd];refine last _ ?_ _ rfl;unfold qld;rw[hgu];exact qu.put (.bl true)
             | some z=>
              obtain⟨zv,hv,_⟩:=qcD qu hgu;rw[hv];rw[if_pos (by simp)];refine⟨_,rfl,a,_,dx,fs,_,rfl,ha',fU.cl,fU.no,hu,_,rfl,d,usV,.inl x,rfl,hd',rfl,by rw[hv];rfl,?_⟩;rw[upd_upd];refine last _ ?_ _ rfl;unfold qld;rw[hgu];exact qu.dropq
         ·cases ht
        ·cases ht
       | _=>simp[L9]at ht
     | _=>cases k<;>simp[L9]at ht
 ·cases ht
end
structure FSt (K:PySem.W.Frag) (C fu:Str) (σ0:L2.St) (ρ0:Env) (G0 H0:Hp) (fs0:List (Str×D)) (a dx d:Addr) (fsV:List (Str×V)) (us:List (Key×D)) (σ:L2.St) (G H:Hp) (ρ:Env):Prop where
 rel:Rel ⟨K,none⟩ σ G H (none::ρ)
 s0:σ[0]?=some (some (.ref a))
 z0:σ0[0]?=some (some (.ref a))
 ga:G a=none
 ha:H a=some (.ins (cA K C) dx (fsV++[(fu,.ref d)]))
 gdx:G dx=some (.own a)
 qf:DqF K G fsV fs0
 gd:G d=none
 hd:∃usV,H d=some (.dK usV)∧DqK K G usV us
 na:¬Own σ (none::ρ) a
 nd:¬Own σ (none::ρ) d
 h0d:H0 d=none
 stp:Stp σ0 ρ0 G0 H0 σ (some (.r .non)::ρ) G H
section
variable {K:PySem.W.Frag} {C fu fe mt:Str} {σ0 σ σ3:L2.St} {ρ0 ρ ρ2:Env} {G0 H0 G H G' H' G2 Gc:Hp} {fs0:List (Str×D)} {a dx d:Addr} {fsV:List (Str×V)} {us us':List (Key×D)} {D:Ends}
theorem FSt.ad (F:FSt K C fu σ0 ρ0 G0 H0 fs0 a dx d fsV us σ G H ρ):a≠d:=fun z=>by
 obtain⟨_,h,_⟩:=F.hd;rw[← z,F.ha]at h;cases h
end
def qhH:List L→Option (List D)
 | []=>some []
 | .d x::as=>(qhH as).map (x::·)
 | _::_=>none
theorem Eu:∀{as:List L} {ds:List D},qhH as=some ds→as=ds.map .d
 | [],_,h=>by cases h;rfl
 | .d x::as,_,h=>by
  obtain⟨es,e,rfl⟩:=Option.map_eq_some_iff.mp h;rw[Eu e];rfl
theorem yx:∀{ds:List D},qhH (ds.map .d)=some ds
 | []=>rfl
 | d::ds=>by show (qhH (ds.map .d)).map (d::·)=_;rw[yx];rfl
def vKp (as:List L):FRes→FRes
 | .ok l _=>.ok l as
 | .ex e _=>.ex e as
 | .bad=>.bad
def fV (n:Nat) (R:List L→FRes) (as:List L):FRes:=match qhH as with
 | some ds=>if n≤ds.length∧ds.length≤mx then vKp as (R ((ds.take n++[D.tup (ds.drop n)]).map L.d)) else .bad
 | none=>.bad
def spV (K:PySem.W.Frag) (n:Nat) (R:List L→FRes):Sp:=fun vs H Q E=>spF K vs.length (fV n R) vs H Q E
section
variable {K:PySem.W.Frag} {G H G' H':Hp} {vs:List V} {ds:List D} {R:List L→FRes} {n:Nat}
theorem qsK (s:Same G H) (q:DqA K G vs ds):yp ⟨K,none⟩ G H vs (ds.map .d):=by
 refine⟨⟨s,by simp[q.length],fun i l e=>?_,fun y h=>(by cases h),fun i j l l' a _ e1 _ o1 _ _=>?_⟩,fun l hl=>?_⟩
 ·rw[List.getElem?_map,List.getElem?_map]at e;obtain⟨l',e1,e2⟩:=Option.map_eq_some_iff.mp e;obtain⟨d,e3,rfl⟩:=Option.map_eq_some_iff.mp e1;cases e2;obtain⟨v,h1,h2⟩:=q.get e3;exact⟨v,by rw[List.getElem?_map,h1];rfl,h2⟩
 ·rw[List.getElem?_map,List.getElem?_map]at e1;obtain⟨l',e1,e2⟩:=Option.map_eq_some_iff.mp e1;obtain⟨d,e3,rfl⟩:=Option.map_eq_some_iff.mp e1;cases e2;cases o1
 ·obtain⟨d,_,rfl⟩:=List.mem_map.mp hl;rfl
theorem qk0:∀{vs:List V} {ds:List D},yp ⟨K,none⟩ G H vs (ds.map .d)→DqA K G vs ds
 | [],[],_=>.nil
 | [],d::ds,A=>by have:=A.1.len;simp at this
 | v::vs,[],A=>by have:=A.1.len;simp at this
 | v::vs,d::ds,A=>by
  refine .cons ?_ (qk0 (vs:=vs) (ds:=ds) ⟨⟨A.1.same,by have:=A.1.len;simpa using this,fun i l e=>A.1.at_ (i+1) l e,A.1.exo,fun i j l l' a hij e1 e2 o1 o2 e3=>A.1.sep (i+1) (j+1) l l' a (by omega) e1 e2 o1 o2 e3⟩,fun l hl=>A.2 l (List.mem_cons_of_mem _ hl)⟩);obtain⟨u,h1,h2⟩:=A.1.at_ 0 _ (by rfl);cases h1;exact h2
theorem qae {σ σ':L2.St} {ρ':Env} (S:Stp σ ((ds.map L.d).map some) G H σ' ρ' G' H') (s:Same G' H'):Gro G H G' H':=by
 have no:∀a,¬Own σ ((ds.map L.d).map some) a:=fun a ⟨i,l,e,o,_⟩=>by
  rw[List.getElem?_map,List.getElem?_map]at e;obtain⟨l',e1,e2⟩:=Option.map_eq_some_iff.mp e;obtain⟨d,_,rfl⟩:=Option.map_eq_some_iff.mp e1;cases e2;cases o
 refine⟨S.g,s,fun a o e=>S.fr a o e (no a),fun a o e=>?_⟩;rcases S.gf a o e with h | h | h
 ·exact .inl h
 ·exact .inr h
 ·exact absurd h.own (no a)
theorem qgb {v:V} (g:Same H H') {G2 H2:Hp}:∀{l:L},qeP ⟨K,none⟩ H' G2 H2 v l→qeP ⟨K,none⟩ H G2 H2 v l
 | .d _,h=>h
 | .m _,h=>⟨h.1,fun a e=>g.free (h.2 a e)⟩
 | .u _ _,⟨t,va,vb,h1,h2,h3,h4,h5⟩=>⟨t,va,vb,h1,h2,h3,h4,fun a e=>g.free (h5 a e)⟩
 | .r _,h=>h
 | .p _,h=>h
 | .xh,h=>h
theorem qby {Q:VK} {E:XK} (h:spV K n R vs H Q E):∃ws rest,vs=ws++rest∧ws.length=n∧rest.length≤sizeLine∧∀(p:Addr) (o:Obj),H p=none→o.dict=none→spF K (n+1) R (ws++[V.ref p]) (upd H p (.frz o (.tup rest))) Q E:=by
 obtain⟨hl,G,as,A,hp⟩:=h;unfold fV at hp;cases e:qhH as with
 | none=>rw[e]at hp;exact hp.elim
 | some ds=>
  rw[e]at hp;obtain rfl:=Eu e;simp only at hp;split at hp
  ·rename_i hn;obtain⟨hn,hm⟩:=hn;have q:=qk0 A;have lv:=q.length;refine⟨vs.take n,vs.drop n,(List.take_append_drop n vs).symm,by rw[List.length_take];omega,Nat.le_trans (by rw[List.length_drop];omega) (Xz hm),fun p o hpn ho=>?_⟩;have g:=Gro.new (o:=.frz o (.tup (vs.drop n))) A.1.same hpn;have q2:DqA K (upd G p (.frz o (.tup (vs.drop n)))) (vs.take n++[V.ref p]) (ds.take n++[.tup (ds.drop n)]):=
    ((q.take n).mono g.g).append (.cons (.tup (.inl ⟨o,upd_same,ho⟩) ((q.drop n).mono g.g)) .nil)
   refine⟨by rw[List.length_append,List.length_take];simp;omega,_,_,qsK g.s q2,?_⟩;cases e2:R ((ds.take n++[D.tup (ds.drop n)]).map L.d) with
   | bad=>rw[e2]at hp;exact hp.elim
   | ex x bs=>
    rw[e2]at hp;intro c d G2 H2 S2 R2 qe;have g2:=qae S2 R2.same;have gt:=g.trans g2;exact hp c d G2 H2 gt.stp (A.1.gro gt) qe
   | ok l bs=>
    rw[e2]at hp;intro v G2 H2 S2 R2 qr;have g2:=qae S2 R2.same;have gt:=g.trans g2;exact hp v G2 H2 gt.stp (A.1.gro gt) (qgb g.h qr)
  ·exact hp.elim
end
section
variable {CX:CXT} {P:Program} {w:World} {K:PySem.W.Frag} {mg:Str→Option Value} {base:Heap} {k:Nat} {f:Addr} {name qual:Str} {params:Arguments} {body:List Stmt} {scope:Scope} {dV kV doc pm cdv ct oc:Value} {an od:Option Addr} {osl:Array (Option Value)} {N ps:List Str} {sp:Sp}
theorem qer {pv:Str} (lk:K.lookup f=some ⟨oc,od,.func (PySem.W.fnOf name qual params body scope dV kV doc pm an cdv ct),osl⟩) (hcd:PySem.W.codeIn K cdv qual=true) (S:FnScope N (ps++[pv]) scope) (up:StX.CXUp CX)
  (hb:∀us rest:List Value,us.length=ps.length→bindArgs (PySem.W.fnOf name qual params body scope dV kV doc pm an cdv ct) ⟨us++rest,[]⟩=(newTuple rest >>= fun t=>pure (ps.zip us++[(pv,t)])))
  (hbody:∀(A:Around) (outer:List PySem.Env) (s:Shared) (H:Hp) (vs:List V) (Q:VK) (E:XK),Room k (A.deeper (envOfC qual scope s.heap.objs.size f cdv))→sp vs H Q E→
   ∃t,PSs (cxOf CX P w K mg base N qual scope f cdv A outer s H E) body t∧t { nx:=fun _ H'=>Q .non H',rt:=Q } (start N vs) H) :
  FnR P w K mg base CX (k+1) f (fun vs H Q E=>∃ws rest,vs=ws++rest∧ws.length=ps.length∧rest.length≤sizeLine∧∀(p:Addr) (o:Obj),H p=none→o.dict=none→sp (ws++[V.ref p]) (upd H p (.frz o (.tup rest))) Q E):=by
 rintro A outer s H us vs Q E hr e0 r ⟨ws,rest,rfl,hl,hz,hq⟩;obtain⟨u1,u2,rfl,r1,r2⟩:=StX.vals_split r;have fr:H s.heap.objs.size=none:=e0.hok.fresh (Nat.le_refl _);have l1:u1.length=ps.length:=r1.length.symm.trans hl;have l2:u2.length≤sizeLine:=by rw[← r2.length];exact hz
 let ob:Obj:={ cls:=.type "tuple",data:=.seq u2.toArray }
 refine StX.run_bnd lk hcd S hr e0 (G:=fun xs H2=>∃(p:Addr) (o:Obj),H p=none∧o.dict=none∧xs=ws++[V.ref p]∧H2=upd H p (.frz o (.tup rest))) (fun A' Ex Q' h=>?_) fun s2 H2 xs ⟨p,o,hp,ho,ex,eH⟩ hr'=>?_
 ·rw[hb u1 u2 l1];refine wpAny_bind (wpAny_newTuple (wpAny_pure ?_) l2);have got:(s.heap.push ob).get? s.heap.objs.size=some ob:=Heap.get?_push_size _ rfl;have new:ObjOk P w (upd H s.heap.objs.size (.frz ob (.tup rest))) (s.heap.push ob) s.heap.objs.size (.frz ob (.tup rest)):=⟨got,hz,u2,r2,⟨_,got,rfl,_,rfl⟩⟩;have un:=StX.un_laid (fs:=frs outer) (s:=s) (o:=ob) (u:=.frz ob (.tup rest)) fr;have z:=h _ _ (ws++[V.ref s.heap.objs.size]) (u1++[Value.ref s.heap.objs.size]) (StX.env0_laid e0 new) un rfl (fun e s'=>up outer s H _ _ E e s' un (fun b o q=>Heap.get?_push_of_some _ q) rfl) (r1.append (.cons rfl .nil))
   (by rw[List.length_append,List.length_append,hl];rfl) ⟨_,ob,fr,rfl,rfl,rfl⟩
  rw[List.zip_append l1.symm]at z;exact z
 ·subst ex eH;exact hbody A outer s2 _ _ Q E hr' (hq p o hp ho)
end
theorem qj8 {K:PySem.W.Frag} {G H:Hp} {vs:List V} {as:List L} {Q:VK} {E:XK} {N:List Str} {t:TS} {body:SM} (hp:qfF ⟨K,none⟩ vs as G H Q E (Q7 N.length body as)) (h2:Nt ⟨K,none⟩ (fun cls d _ H=>E cls d H) t body) (Aok:yp ⟨K,none⟩ G H vs as):t { nx:=fun _ H'=>Q .non H',rt:=Q } (L2.start N vs) H:=by
 have est:L2.start N vs=vs.map some++List.replicate (N.length-as.length) none:=by
  have:=Aok.1.len;simp only[List.length_map]at this;unfold L2.start;rw[this]
 rw[est];refine h2 _ G H (as.map some++List.replicate (N.length-as.length) none) (Rel.enter Aok) _ ?_;unfold Q7 at hp;cases e:body (as.map some++List.replicate (N.length-as.length) none) with
 | bad=>rw[e]at hp;exact hp
 | ex x ρ'=>
  rw[e]at hp;exact fun c d σ' G' H' S' R' q=>hp c d G' H' (Rel.leave Aok S' R').1 (Rel.leave Aok S' R').2 q
 | ok fl ρ'=>
  rw[e]at hp;cases fl with
  | nx=>exact fun σ' G' H' S' R'=>hp _ G' H' (Rel.leave Aok S' R').1 (Rel.leave Aok S' R').2 .non
  | bk=>exact hp.elim
  | ct=>exact hp.elim
  | rt l=>
   intro σ' v G' H' S' R' q;obtain⟨a,b⟩:=Rel.leave Aok S' R';have own:∀c,Ss (vs.map some++List.replicate (N.length-as.length) none) (as.map some++List.replicate (N.length-as.length) none) c→False:=fun c ⟨i,l,e1,o,_⟩=>by
    have:=Aok.2 l (List.mem_of_getElem? (Vl e1));rw[o]at this;cases this
   refine hp v G' H' a b ?_;cases l with
   | d x=>exact q
   | r x=>exact q.elim
   | p x=>exact q.elim
   | xh=>exact q.elim
   | u _ _=>
    obtain⟨t,va,vb,h1,h2,h3,h4,h5⟩:=q;exact⟨t,va,vb,h1,h2,h3,h4,fun b eb=>(h5 b eb).elim id fun z=>(own b z).elim⟩
   | m x=>exact⟨q.1,fun b eb=>(q.2 b eb).elim id fun z=>(own b z).elim⟩
structure FnV (P:Program) (w:World) (K:PySem.W.Frag) (mg:Str→Option Value) (base:Heap) (k:Nat) (x:Str) (n:Nat) (R:List L→FRes):Prop where
 ex:FnR P w K mg base (L2.CX P w) k (cA K x) (spV K n R)
 g:mg x=some (.ref (cA K x))
 kp:PySem.W.keepIn K (.ref (cA K x))=true
section
variable {P:Program} {w:World} {K:PySem.W.Frag} {mg:Str→Option Value} {base:Heap}
theorem qcK {x pv:Str} {st:Stmt} {N ps:List Str} {k:Nat} {body:SM} (F:FnF K x st) (g:mg x=some (.ref (cA K x))) (S:FnScope N (ps++[pv]) (defScope st))
  (hbind:∀(kV doc pm:Value) (an:Option Addr) (cdv ct:Value) (us rest:List Value),us.length=ps.length→bindArgs (PySem.W.fnOf x x (defArgs st) (defBody st) (defScope st) .none kV doc pm an cdv ct) ⟨us++rest,[]⟩=(newTuple rest >>= fun t=>pure (ps.zip us++[(pv,t)])))
  (hb:∀(cdv:Value) (A:Around) (outer:List PySem.Env) (s:Shared) (H:Hp) (E:XK),Room k (A.deeper (envOfC x (defScope st) s.heap.objs.size (cA K x) cdv))→
   JSs (cxOf (L2.CX P w) P w K mg base N x (defScope st) (cA K x) cdv A outer s H E) none (fun cls d _ H=>E cls d H) (defBody st) body) :
  FnV P w K mg base (k+1) x ps.length (Q7 N.length body):=by
 obtain⟨fd,F⟩:=F;have F':=U6 F;refine⟨?_,g,F.kp⟩;obtain⟨oc,od,kV,doc,pm,an,cdv,ct,osl,rfl,lk,hc⟩:=F'.ex;refine FnR.imp (qer (sp:=spF K (ps.length+1) (Q7 N.length body)) lk hc S (StX.cxUp) (hbind kV doc pm an cdv ct) fun A outer s H vs Q E hr h=>?_) fun vs H Q E h=>qby h;obtain⟨hl,G,as,Aok,hp⟩:=h;obtain⟨t,h1,h2⟩:=hb cdv A outer s H E hr;exact⟨t,h1,qj8 hp h2 Aok⟩
end
def xD (ρ:Env):X→Option D
 | .d d=>some d
 | .s i=>match ρ[i]? with
  | some (some (.d x))=>some x
  | _=>none
def xDs (ρ:Env):List X→Option (List D)
 | []=>some []
 | x::xs=>match xD ρ x,xDs ρ xs with
  | some d,some ds=>some (d::ds)
  | _,_=>none
section
variable {K:Kx} {W:WX} {σ:L2.St} {G H:Hp} {ρ:Env}
theorem qh4 {v:V} {x:X} {d:D} (R:Rel K σ G H ρ) (h:XOk K σ G v x) (e:xD ρ x=some d):Dq K.k G v d:=by
 cases x with
 | d y=>cases Option.some.inj e;exact h
 | s i=>
  unfold xD at e;simp only at e;split at e
  ·rename_i y hy;cases Option.some.inj e;obtain⟨u,h1,h2⟩:=R.at_ i _ hy;have h:σ[i]?=some (some v):=h;rw[h]at h1;cases h1;exact h2
  ·cases e
theorem qbr (R:Rel K σ G H ρ):∀{vs:List V} {xs:List X} {ds:List D},Nr K σ G vs xs→xDs ρ xs=some ds→DqA K.k G vs ds
 | _,_,_,.nil,e=>by cases Option.some.inj e;exact .nil
 | _,_,_,.cons h t,e=>by
  unfold xDs at e;split at e
  ·rename_i d ds e1 e2;cases Option.some.inj e;exact .cons (qh4 R h e1) (qbr R t e2)
  ·cases e
def vt (ma:AM) (ρ:Env):Option (List D)→Res (List X)
 | some ds=>bindR (ma ρ) fun xs ρ2=>.ok (ds.map .d++xs) ρ2
 | none=>.bad
def vv (ma:AM) (ρ:Env):Option D→Res (List X)
 | some d=>vt ma ρ (qaE d)
 | none=>.bad
def qee (ma:AM):X→Env→Res (List X):=fun x ρ1=>vv ma ρ1 (xD ρ1 x)
def yj (me:EM) (ma:AM):AM:=fun ρ=>bindR (me ρ) (qee ma)
theorem qdj {te:TE} {t:TA} {me:EM} {ma:AM} (he:Yh K W te me) (ha:R8 K W t ma):R8 K W (StX.tStar K.k te t) (yj me ma):=fun σ G H ρ R Q h=>by
 unfold yj bindR at h;refine he.fst R (fun x ρ1 e v G1 H1 S1 R1 x1=>?_) (fun e ρ1 q=>by rw[q]at h;exact h) (fun q=>by rw[q]at h;exact h);rw[e]at h;have h:=D5.step S1 h;simp only[qee]at h;cases e2:xD ρ1 x with
 | none=>rw[e2]at h;exact h.elim
 | some d=>
  rw[e2]at h;simp only[vv]at h;have q:=qh4 R1 x1 e2;cases e3:qaE d with
  | none=>rw[e3]at h;exact h.elim
  | some ds=>
   rw[e3]at h;simp only[vt]at h;unfold bindR at h;obtain⟨p,xs,rfl,hq,hd⟩:=Bp R1.same (Dq.vw R1.same q) e3;refine⟨p,xs,rfl,hq.symm,?_⟩;refine ha.fst R1 (fun ys ρ2 e4 us G2 H2 S2 R2 x2=>?_) (fun e ρ1 q=>by rw[q]at h;exact h) (fun q=>by rw[q]at h;exact h);rw[e4]at h;exact h _ _ _ S2 R2 ((DqA.xs (hd.mono S2.g)).app x2)
def tCallV (sp:Sp) (E:L2.St→XK) (t:TA):TE:=fun σ H Q=>t σ H fun vs H1=>sp vs H1 Q (E σ)
def cvE (ρ:Env):FRes→Res X
 | .ok (.d x) _=>.ok (.d x) ρ
 | .ok (.m x) _=>.ok (.d x) ρ
 | .ex e _=>.ex e ρ
 | _=>.bad
def vR (n:Nat) (R:List L→FRes) (ds:List D):FRes:=if n≤ds.length∧ds.length≤mx then R ((ds.take n++[D.tup (ds.drop n)]).map L.d) else .bad
def kCE (n:Nat) (R:List L→FRes) (ρ:Env):Option (List D)→Res X
 | some ds=>cvE ρ (vR n R ds)
 | none=>.bad
def v3 (n:Nat) (R:List L→FRes):List X→Env→Res X:=fun xs ρ1=>kCE n R ρ1 (xDs ρ1 xs)
def Sb (n:Nat) (R:List L→FRes) (ma:AM):EM:=fun ρ=>bindR (ma ρ) (v3 n R)
theorem qoW {n:Nat} {R:List L→FRes} {ds:List D}:fV n R (ds.map .d)=vKp (ds.map .d) (vR n R ds):=by
 unfold fV vR;rw[yx];simp only;split<;>rfl
theorem qhj {n:Nat} {R:List L→FRes} {vs:List V} {ds:List D} {Q:VK} {E:XK} (Rl:Rel K σ G H ρ) (q:DqA K.k G vs ds)
  (h:match vR n R ds with
   | .ok l _=>∀v G' H',Gro G H G' H'→qeP ⟨K.k,none⟩ H G' H' v l→Q v H'
   | .ex e _=>∀c d G' H',Gro G H G' H'→ExOk K.k G' c d e→E c d H'
   | .bad=>False):spV K.k n R vs H Q E:=by
 refine⟨rfl,G,ds.map .d,qsK Rl.same q,?_⟩;rw[qoW];cases e:vR n R ds with
 | bad=>rw[e]at h;exact h.elim
 | ex x bs=>
  rw[e]at h;exact fun c d G' H' S' R' qe=>h c d G' H' (qae S' R'.same) qe
 | ok l bs=>
  rw[e]at h;exact fun v G' H' S' R' qr=>h v G' H' (qae S' R'.same) qr
theorem Ec {n:Nat} {R:List L→FRes} {t:TA} {ma:AM} (ht:R8 K W t ma):Yh K W (tCallV (spV K.k n R) (WE W) t) (Sb n R ma):=fun σ G H ρ Rl Q h=>by
 unfold Sb bindR at h;refine ht.fst Rl (fun xs ρ1 e vs G1 H1 S1 R1 x1=>?_) (fun e ρ1 q=>by rw[q]at h;exact h) (fun q=>by rw[q]at h;exact h);rw[e]at h;have h:=EPost.step S1 h;simp only[v3]at h;cases e2:xDs ρ1 xs with
 | none=>rw[e2]at h;exact h.elim
 | some ds=>
  rw[e2]at h;simp only[kCE]at h;refine qhj R1 (qbr R1 x1 e2) ?_;cases e3:vR n R ds with
  | bad=>rw[e3]at h;exact h
  | ex x bs=>
   rw[e3]at h;exact fun c d G' H' g qe=>h c d G' H' g.stp (R1.gro g) qe
  | ok l bs=>
   rw[e3]at h;intro v G' H' g q;cases l with
   | d x=>exact h v G' H' g.stp (R1.gro g) q
   | m x=>
    obtain⟨G2,S2,R2,q2⟩:=Frs.lock g.stp (R1.gro g) ⟨q.1,fun a ea=>⟨q.2 a ea,fun z=>Own.there R1 z (q.2 a ea)⟩⟩;exact h v G2 H' S2 R2 q2
   | r x=>exact h.elim
   | p x=>exact h.elim
   | xh=>exact h.elim
   | u _ _=>exact h.elim
end
section
variable {X:Cx} {CX:CXT} {k:Nat} {f:Addr} {sp:Sp} {E:L2.St→XK} {x:Str} {p pos spos:Pos} {e:Expr} {es:List Expr} {te:TE} {t:TA}
theorem Iz {pins:List (Addr×Obj)} {σ:L2.St} {H:Hp} {s:Shared} {Q:VK} {us:List Value} {vs:List V} (F:FnR X.prog X.w X.K X.mg X.base CX k f sp) (hr:Room k X.A) (hx:PassesAt CX X σ (E σ)) (I:Inv X pins σ H s) (r:Vals vs us) (h:sp vs H Q (E σ)):wpAny (model X.prog X.w) X.A (call (.ref f) us) (EP X pins σ Q) X.xe s:=
 wpAny_call (codeAny_mono (F X.A X.stack s H us vs Q (E σ) hr I.env0 r h) fun r s' hq=>by
  cases r with
  | error e=>exact hx pins H s e s' I hq
  | ok fl=>
   cases fl with
   | ret u=>exact I.after hq
   | next=>exact False.elim hq
   | brk=>exact False.elim hq
   | cont=>exact False.elim hq)
theorem qbV (F:FnR X.prog X.w X.K X.mg X.base CX k f sp) (hr:Room k X.A) (hg:Gl X x) (hm:X.mg x=some (.ref f)) (hk:PySem.W.keepIn X.K (.ref f)=true) (hx:∀σ,PassesAt CX X σ (E σ)) (ha:PA X (e::es) t) (hdb:(x == ("__debug__" : Str))=false:=by decide)
  (he:starEach (e::es) X.env=(false,eval e X.env)::starEach es X.env:=by rfl) (hpl:(backTo pos (starEach es X.env)).any (·.1)=false:=by rfl):PE X (.Call (.Name x p) (e::es) [] pos) (tCallV sp E t):=by
 refine⟨fun pins s σ H Q I h=>?_⟩;refine wpAny_Call_Name_kw (ld_glob I hg hm ?_ hdb);exact PySem.W.callWith_K (h₀:=X.base) I.ok.mod.kin hk (thn (ha.run pos pins s σ H _ I h) fun us s1 ⟨vs,H1,I1,r,q⟩=>⟨I1.kIn,Iz F hr (hx σ) I1 r q⟩) he hpl
theorem qbU (F:FnR X.prog X.w X.K X.mg X.base CX k f sp) (hr:Room k X.A) (hg:Gl X x) (hm:X.mg x=some (.ref f)) (hk:PySem.W.keepIn X.K (.ref f)=true) (hx:∀σ,PassesAt CX X σ (E σ)) (ha:PA X (e::es) t) (hdb:(x == ("__debug__" : Str))=false:=by decide)
  (he:starEach (e::es) X.env=(false,eval e X.env)::starEach es X.env:=by rfl) (hst:(backTo pos (starEach es X.env)).any (·.1)=true:=by rfl):PE X (.Call (.Name x p) (e::es) [] pos) (tCallV sp E t):=by
 refine⟨fun pins s σ H Q I h=>?_⟩;refine wpAny_Call_Name_kw (ld_glob I hg hm ?_ hdb);exact PySem.W.callWith_S2 (h₀:=X.base) I.ok.mod.kin hk (thn (ha.run pos pins s σ H _ I h) fun us s1 ⟨vs,H1,I1,r,q⟩=>⟨I1.kIn,Iz F hr (hx σ) I1 r q⟩) he hst
theorem qbW (F:FnR X.prog X.w X.K X.mg X.base CX k f sp) (hr:Room k X.A) (hg:Gl X x) (hm:X.mg x=some (.ref f)) (hk:PySem.W.keepIn X.K (.ref f)=true) (hx:∀σ,PassesAt CX X σ (E σ)) (he:PE X e te) (hdb:(x == ("__debug__" : Str))=false:=by decide)
  (hst:starEach [.Starred e spos] X.env=[(true,eval e X.env)]:=by rfl):PE X (.Call (.Name x p) [.Starred e spos] [] pos) (tCallV sp E (StX.tStar X.K te tNil)):=by
 refine⟨fun pins s σ H Q I h=>?_⟩;refine wpAny_Call_Name_kw (ld_glob I hg hm ?_ hdb);refine PySem.W.callWith_S (h₀:=X.base) I.ok.mod.kin hk (thn (he.run pins s σ H _ I h) fun v s1 ⟨y,H1,I1,ry,a,xs,ey,hxs,q⟩=>?_) hst;subst ey;obtain rfl:v=Value.ref a:=ry;have q:sp (xs++[]) H1 Q (E σ):=q;rw[List.append_nil]at q;exact StX.star_any I1 hxs fun us s2 I2 rv=>⟨I2.kIn,Iz F hr (hx σ) I2 rv q⟩
end
section
variable {X:Cx} {xa:Option XA} {W:WX} {e:Expr} {es:List Expr} {am:AM} {me:EM} {pos p spos:Pos} {x:Str} {k n:Nat} {R:List L→FRes}
theorem qgV (h:JE X xa W e me) (hr:JA X xa W es am) (hs:starEach (.Starred e p::es) X.env=(true,eval e X.env)::starEach es X.env:=by rfl):JA X xa W (.Starred e p::es) (yj me am):=
 let ⟨_,a,b⟩:=h;let ⟨_,c,d⟩:=hr;⟨_,StX.pa_star a c hs,qdj b d⟩
theorem qcy (B:FnV X.prog X.w X.K X.mg X.base k x n R) (hr:Room k X.A) (tk:Takes X W) (ha:JA X xa W (e::es) am) (hg:Gl X x:=by rfl)
  (hdb:(x == ("__debug__" : Str))=false:=by decide) (he:starEach (e::es) X.env=(false,eval e X.env)::starEach es X.env:=by rfl) (hpl:(backTo pos (starEach es X.env)).any (·.1)=false:=by rfl):JE X xa W (.Call (.Name x p) (e::es) [] pos) (Sb n R am):=
 let ⟨_,h1,h2⟩:=ha;⟨_,qbV B.ex hr hg B.g B.kp (fun σ=>passAt tk σ) h1 hdb he hpl,Ec h2⟩
theorem qcx (B:FnV X.prog X.w X.K X.mg X.base k x n R) (hr:Room k X.A) (tk:Takes X W) (ha:JA X xa W (e::es) am) (hg:Gl X x:=by rfl)
  (hdb:(x == ("__debug__" : Str))=false:=by decide) (he:starEach (e::es) X.env=(false,eval e X.env)::starEach es X.env:=by rfl) (hst:(backTo pos (starEach es X.env)).any (·.1)=true:=by rfl):JE X xa W (.Call (.Name x p) (e::es) [] pos) (Sb n R am):=
 let ⟨_,h1,h2⟩:=ha;⟨_,qbU B.ex hr hg B.g B.kp (fun σ=>passAt tk σ) h1 hdb he hst,Ec h2⟩
theorem qcz (B:FnV X.prog X.w X.K X.mg X.base k x n R) (hr:Room k X.A) (tk:Takes X W) (he:JE X xa W e me) (hg:Gl X x:=by rfl) (hdb:(x == ("__debug__" : Str))=false:=by decide)
  (hst:starEach [.Starred e spos] X.env=[(true,eval e X.env)]:=by rfl):JE X xa W (.Call (.Name x p) [.Starred e spos] [] pos) (Sb n R (yj me Qx)):=
 let ⟨_,h1,h2⟩:=he;⟨_,qbW B.ex hr hg B.g B.kp (fun σ=>passAt tk σ) h1 hdb hst,Ec (qdj h2 qaw)⟩
end
def qqv:List V→Hp→VK→Prop:=fun vs H Q=>∃a b:Int,vs=[.int a,.int b]∧a.natAbs<2 ^ 64∧b.natAbs<2 ^ 64∧Q (.int ((a.natAbs.lcm b.natAbs:Nat):Int)) H
theorem qkO {X:Cx}:CallR X (.builtin "math.lcm") qqv:=by
 intro pins s σ H vs us Q I r h;obtain⟨a,b,rfl,ha,hb,q⟩:=h;obtain⟨t,u,rfl⟩:=Vals.int2 r;exact PySem.W.mc_lcm ha hb fun _=>⟨.int _,H,I.tok _,⟨_,rfl⟩,q⟩
def qlQ (ρ:Env):Option (List D)→Res X
 | some [.int a,.int b]=>if a.natAbs<2 ^ 64∧b.natAbs<2 ^ 64 then .ok (.d (.int ((a.natAbs.lcm b.natAbs:Nat):Int))) ρ else .bad
 | _=>.bad
def ql5:List X→Env→Res X:=fun xs ρ1=>qlQ ρ1 (xDs ρ1 xs)
def qeC (ma:AM):EM:=fun ρ=>bindR (ma ρ) ql5
theorem qkp {K:Kx} {W:WX} {t:TA} {ma:AM} (ht:R8 K W t ma):Yh K W (tCB qqv t) (qeC ma):=fun σ G H ρ R Q h=>by
 unfold qeC bindR at h;refine ht.fst R (fun xs ρ1 e vs G1 H1 S1 R1 x1=>?_) (fun e ρ1 q=>by rw[q]at h;exact h) (fun q=>by rw[q]at h;exact h);rw[e]at h;have h:=EPost.step S1 h;simp only[ql5]at h;cases e2:xDs ρ1 xs with
 | none=>rw[e2]at h;exact h.elim
 | some ds=>
  rw[e2]at h;have q:=qbr R1 x1 e2;unfold qlQ at h;split at h
  ·rename_i a b eq;cases Option.some.inj eq;split at h
   ·rename_i hh;cases q with
    | cons h1 q=>
    cases q with
    | cons h2 q=>
    cases q;cases h1;cases h2;exact⟨a,b,rfl,hh.1,hh.2,h _ _ _ (Stp.refl _ _ _ _) R1 (.int _)⟩
   ·exact h.elim
  ·exact h.elim
theorem qy {X:Cx} {xa:Option XA} {W:WX} {e:Expr} {es:List Expr} {am:AM} {pos p:Pos} {x:Str} (hm:X.mg x=some (.builtin "math.lcm")) (ha:JA X xa W (e::es) am) (hg:Gl X x:=by rfl)
  (hdb:(x == ("__debug__" : Str))=false:=by decide) (he:starEach (e::es) X.env=(false,eval e X.env)::starEach es X.env:=by rfl) (hpl:(backTo pos (starEach es X.env)).any (·.1)=false:=by rfl):JE X xa W (.Call (.Name x p) (e::es) [] pos) (qeC am):=
 let ⟨_,h1,h2⟩:=ha;⟨_,pe_callBfun qkO hg hm h1 hdb he hpl,qkp h2⟩
section
variable {ρ:Env} {me:EM} {ma:AM} {n i:Nat} {R:List L→FRes} {xs:List X} {x:X} {d:D} {ds es:List D} {e:Exn} {bs:List L} {o:Option (Option L)} {a b:Int}
@[simp] theorem quj:xD ρ (.d d)=some d:=(rfl)
@[simp] theorem qsW:xDs ρ []=some []:=(rfl)
def qkQ:Option D→Option (List D)→Option (List D)
 | some d,some ds=>some (d::ds)
 | _,_=>none
@[simp] theorem qsX:xDs ρ (x::xs)=qkQ (xD ρ x) (xDs ρ xs):=(rfl)
@[simp] theorem qpk:qkQ (some d) (some ds)=some (d::ds):=(rfl)
@[simp] theorem qmv:yj me ma ρ=bindR (me ρ) (qee ma):=(rfl)
@[simp] theorem qlS:qee ma x ρ=vv ma ρ (xD ρ x):=(rfl)
@[simp] theorem qlU:vv ma ρ (some d)=vt ma ρ (qaE d):=(rfl)
@[simp] theorem qlT:vt ma ρ (some ds)=bindR (ma ρ) fun xs ρ2=>.ok (ds.map .d++xs) ρ2:=(rfl)
@[simp] theorem qkG:Sb n R ma ρ=bindR (ma ρ) (v3 n R):=(rfl)
@[simp] theorem qjB:v3 n R xs ρ=kCE n R ρ (xDs ρ xs):=(rfl)
@[simp] theorem qtP:kCE n R ρ (some ds)=cvE ρ (vR n R ds):=(rfl)
@[simp] theorem qs1:vR n R ds=if n≤ds.length∧ds.length≤mx then R ((ds.take n++[D.tup (ds.drop n)]).map L.d) else .bad:=(rfl)
@[simp] theorem quf:cvE ρ (.ok (.d d) bs)=.ok (.d d) ρ:=(rfl)
@[simp] theorem que:cvE ρ (.ok (.m d) bs)=.ok (.d d) ρ:=(rfl)
@[simp] theorem qpc:qeC ma ρ=bindR (ma ρ) ql5:=(rfl)
@[simp] theorem qok:ql5 xs ρ=qlQ ρ (xDs ρ xs):=(rfl)
@[simp] theorem qnU:qlQ ρ (some [.int a,.int b])=if a.natAbs<2 ^ 64∧b.natAbs<2 ^ 64 then .ok (.d (.int ((a.natAbs.lcm b.natAbs:Nat):Int))) ρ else .bad:=(rfl)
end
abbrev PM:Type:=Env→Res (List (Key×D))
def qk5 (K:Kx) (trs:List (TE×TE)) (m:PM):Prop:=∀σ G H ρ,Rel K σ G H ρ→∀Q:List (V×V)→Hp→Prop,
 (match m ρ with
  | .ok kds ρ'=>∀kvs G' H',Stp σ ρ G H σ ρ' G' H'→Rel K σ G' H' ρ'→DqK K.k G' kvs kds→Q (kvs.map fun kv=>(kV kv.1,kv.2)) H'
  | _=>False)→tPairs trs σ H Q
def qdT:PM:=fun ρ=>.ok [] ρ
def qne (k:Key) (d:D):Res (List (Key×D))→Res (List (Key×D))
 | .ok r ρ=>.ok ((k,d)::r) ρ
 | _=>.bad
def qls (mr:PM) (k:Key):Option (D×Env)→Res (List (Key×D))
 | some (d,ρ3)=>qne k d (mr ρ3)
 | none=>.bad
def qlt (mr:PM) (k:Key):Res X→Res (List (Key×D))
 | .ok z ρ2=>qls mr k (fz ρ2 z)
 | _=>.bad
def qlu (mv:EM) (mr:PM) (ρ1:Env):Option Key→Res (List (Key×D))
 | some k=>qlt mr k (mv ρ1)
 | none=>.bad
def qlr (mv:EM) (mr:PM):Res X→Res (List (Key×D))
 | .ok y ρ1=>qlu mv mr ρ1 ((look ρ1 y).bind qbm)
 | _=>.bad
def Ov (mk mv:EM) (mr:PM):PM:=fun ρ=>qlr mv mr (mk ρ)
section
variable {K:Kx} {W:WX}
theorem qgf:qk5 K [] qdT:=fun σ G H ρ R Q h=>h [] G H (Stp.refl _ _ _ _) R .nil
theorem qdS {tk tv:TE} {mk mv:EM} {trs:List (TE×TE)} {mr:PM} (hk:Yh K (fun _ _ _ _=>False) tk mk) (hv:Yh K (fun _ _ _ _=>False) tv mv) (hr:qk5 K trs mr):qk5 K ((tk,tv)::trs) (Ov mk mv mr):=fun σ G H ρ R Q h=>by
 unfold Ov at h;refine hk σ G H ρ R _ ?_;cases ek:mk ρ with
 | bad=>rw[ek]at h;exact h.elim
 | ex x ρ1=>rw[ek]at h;exact h.elim
 | ok y ρ1=>
  rw[ek]at h;intro u G1 H1 S1 R1 x1;simp only[qlr]at h;cases el:(look ρ1 y).bind qbm with
  | none=>rw[el]at h;exact h.elim
  | some k=>
   obtain⟨yd,e5,e6⟩:=Option.bind_eq_some_iff.mp el;rw[el]at h;have ev:=qcm (J5 R1 x1 e5) e6;subst ev;simp only[qlu]at h;refine hv σ G1 H1 ρ1 R1 _ ?_;cases ev:mv ρ1 with
   | bad=>rw[ev]at h;exact h.elim
   | ex x ρ2=>rw[ev]at h;exact h.elim
   | ok z ρ2=>
    rw[ev]at h;intro w G2 H2 S2 R2 x2;simp only[qlt]at h;cases ef:fz ρ2 z with
    | none=>rw[ef]at h;exact h.elim
    | some q=>
     obtain⟨d,ρ3⟩:=q;rw[ef]at h;simp only[qls]at h;obtain⟨G3,S3,R3,q3⟩:=Nn R2 x2 ef;refine hr σ G3 H2 ρ3 R3 _ ?_;cases er:mr ρ3 with
     | bad=>rw[er]at h;exact h.elim
     | ex x ρ4=>rw[er]at h;exact h.elim
     | ok r ρ4=>
      rw[er]at h;exact fun kvs G4 H4 S4 R4 q4=>h ((k,w)::kvs) G4 H4 (((S1.trans S2).trans S3).trans S4) R4 (.cons (q3.mono S4.g) q4)
def qmk:Res (List (Key×D))→Res D
 | .ok r ρ=>if r.length≤15 then .ok (.dct (r.foldl (fun acc q=>qaN acc q.1 q.2) [])) ρ else .bad
 | _=>.bad
def fDp (m:PM):FM:=fun ρ=>qmk (m ρ)
theorem qjc {G:Hp}:∀{kvs:List (Key×V)} {kds:List (Key×D)},DqK K.k G kvs kds→∀{vs:List (Key×V)} {ds:List (Key×D)},DqK K.k G vs ds→DqK K.k G (mergeK vs kvs) (kds.foldl (fun acc q=>qaN acc q.1 q.2) ds)
 | _,_,.nil,_,_,h=>h
 | _,_,.cons q t,_,_,h=>qjc t (h.put q)
theorem qc3 {G:Hp}:∀{kvs:List (Key×V)} {kds:List (Key×D)},DqK K.k G kvs kds→kvs.length=kds.length
 | _,_,.nil=>rfl
 | _,_,.cons _ t=>by rw[List.length_cons,List.length_cons,qc3 t]
theorem qoT {trs:List (TE×TE)} {m:PM} (hm:qk5 K trs m):yn K W (tDisp trs) (fDp m):=fun σ G H ρ R Q h p hp=>by
 unfold fDp at h;have g0:G p=none:=R.same.free hp;have n0:=qiT R hp;refine hm σ G _ ρ (R.side g0 n0) _ ?_;cases em:m ρ with
 | bad=>rw[em]at h;exact h.elim
 | ex x ρ1=>rw[em]at h;exact h.elim
 | ok r ρ3=>
  rw[em]at h;simp only[qmk]at h;intro kvs G3 H2 S R3 q3;split at h
  ·rename_i hl;have h3:H2 p=some (.dK []):=S.fr p _ upd_same n0;have n3:¬Own σ ρ3 p:=fun z=>by
    rcases S.ow p z with z | z
    ·exact n0 z
    ·rw[upd_same]at z;cases z
   have g3:G3 p=none:=by
    cases q:G3 p with
    | none=>rfl
    | some o=>
     rcases S.gf p o q with z | z | z
     ·rw[g0]at z;cases z
     ·rw[upd_same]at z;cases z
     ·exact absurd z.own n0
   refine⟨h3,kvs,rfl,by rw[qc3 q3];exact hl,?_⟩;have S0:Stp σ ρ G H σ ρ3 G3 H2:=((Stp.refl σ ρ G H).side hp).trans S;refine h _ G3 _ (S0.side hp) (R3.side g3 n3) ⟨⟨p,_,rfl,g3,upd_same,qjc q3 (vs:=[]) (ds:=[]) .nil⟩,fun a ea=>?_⟩;cases ea;exact⟨hp,n3⟩
  ·exact h.elim
end
def JPm (X:Cx) (xa:Option XA) (pos:Pos) (ks:List (Option Expr)) (vs:List Expr) (m:PM):Prop:=∃trs,PPs X pos ks vs trs∧qk5 ⟨X.K,xa⟩ trs m
section
variable {X:Cx} {xa:Option XA} {W:WX} {ke ve:Expr} {ks:List (Option Expr)} {vs:List Expr} {mk mv:EM} {m:PM} {pos:Pos}
theorem qgO:JPm X xa pos [] [] qdT:=⟨_,pps_nil,qgf⟩
theorem v8 (hk:JE X xa WF ke mk) (hv:JE X xa WF ve mv) (hr:JPm X xa pos ks vs m):JPm X xa pos (some ke::ks) (ve::vs) (Ov mk mv m):=
 let ⟨_,h1,h2⟩:=hk
 let ⟨_,h3,h4⟩:=hv
 let ⟨_,h5,h6⟩:=hr
 ⟨_,pps_cons h1 h3 h5,qdS h2 h4 h6⟩
theorem qoy (h:JPm X xa pos ks vs m) (ha:ks.all (·.isSome)=true:=by rfl) (hl:ks.length=vs.length:=by rfl) (h0:ks≠[]:=by simp) (h15:ks.length≤15:=by simp):JF X xa W (.Dict ks vs pos) (fDp m):=
 let ⟨_,h1,h2⟩:=h
 ⟨_,pe_disp h1 ha hl h0 h15,qoT h2⟩
end
section
variable {ρ:Env} {y z:X} {d:D} {k:Key} {mk mv:EM} {m:PM} {r:List (Key×D)}
@[simp] theorem qsr:fDp m ρ=qmk (m ρ):=(rfl)
@[simp] theorem qo1:qmk (.ok r ρ)=if r.length≤15 then .ok (.dct (r.foldl (fun acc q=>qaN acc q.1 q.2) [])) ρ else .bad:=(rfl)
@[simp] theorem qlq:qdT ρ=.ok [] ρ:=(rfl)
@[simp] theorem qiJ:Ov mk mv m ρ=qlr mv m (mk ρ):=(rfl)
@[simp] theorem qnc:qlr mv m (.ok y ρ)=qlu mv m ρ ((look ρ y).bind qbm):=(rfl)
@[simp] theorem qiL:qlu mv m ρ (some k)=qlt m k (mv ρ):=(rfl)
@[simp] theorem qnf:qlt m k (.ok z ρ)=qls m k (fz ρ z):=(rfl)
@[simp] theorem qiK:qls m k (some (d,ρ))=qne k d (m ρ):=(rfl)
@[simp] theorem qnd:qne k d (.ok r ρ)=.ok ((k,d)::r) ρ:=(rfl)
end
section
variable {X:Cx} {CX:CXT} {k:Nat} {f C:Addr} {fd:FuncData} {ps ks:List Str} {sp:Sp} {x:Str} {p pos:Pos} {kws:List Keyword} {tk:TA} {g:List Value→List Value→List Value} {sl:List Sl} {dm:List V}
theorem qaP {E:L2.St→XK} (M:Mk X.K C f) (F:FnOk X.prog X.w X.K X.mg X.base CX k f fd ps sp) (hr:Room (k+1) X.A) (hg:Gl X x) (hm:X.mg x=some (.ref C)) (hb:KBn X.K fd ps (0+1) ks g (fun vs zs=>gS (.p 0::sl.map upS) vs dm zs)) (hx:∀σ,PassesAt CX X σ (E σ))
  (hkw:PK X kws tk) (hall:(backToKw pos (keywordEach kws X.env)).all (·.1.isSome)=true:=by rfl) (hks:(backToKw pos (keywordEach kws X.env)).filterMap (·.1)=ks:=by rfl)
  (hdb:(x == ("__debug__" : Str))=false:=by decide) (hpl:((backTo pos (starEach [] X.env)).any (·.1) || (backToKw pos (keywordEach kws X.env)).any (·.1.isNone))=false:=by rfl) :
  PE X (.Call (.Name x p) [] kws pos) (tMk C sp E (qhK 0 ks.length dm sl tNil tk)):=by
 refine⟨fun pins s σ H Q I h=>?_⟩;refine wpAny_Call_Name_kw (ld_glob I hg hm ?_ hdb);refine PySem.W.callWith_KW0 (h₀:=X.base) I.ok.mod.kin M.kp hall ?_ hpl;refine thn (hkw.run pos pins s σ H _ I h) fun ws s2 ⟨zs,H2,I2,rz,l1,l2,q2⟩=>⟨I2.kIn,?_⟩;rw[hks];exact qaJ (us:=[]) (vs:=[]) M F hr hb (hx σ) I2 .nil rz l1 l2 q2
end
section
variable {X:Cx} {xa:Option XA} {W:WX} {C:Str} {n k:Nat} {ks:List Str} {ms:List D} {sl:List Sl} {R:List L→FRes} {kws:List Keyword} {mk:AM} {p pos:Pos}
theorem qgQ (B:MkKB X.prog X.w X.K X.mg X.base k C n 0 ks ms sl R) (hr:Room (k+1) X.A) (tk:Takes X W) (hkw:JK X xa W kws mk) (hg:Gl X C:=by rfl) (hall:(backToKw pos (keywordEach kws X.env)).all (·.1.isSome)=true:=by rfl) (hks:(backToKw pos (keywordEach kws X.env)).filterMap (·.1)=ks:=by rfl)
  (hdb:(C == ("__debug__" : Str))=false:=by decide) (hpl:((backTo pos (starEach [] X.env)).any (·.1) || (backToKw pos (keywordEach kws X.env)).any (·.1.isNone))=false:=by rfl) :
  JF X xa W (.Call (.Name C p) [] kws pos) (fMk C n R (yk 0 ks.length ms sl Qx mk)):=by
 obtain⟨f,fd,ps,g,dm,M,F,hb,q⟩:=B.ex;obtain⟨_,h3,h4⟩:=hkw;exact⟨_,qaP M F hr hg B.g hb (fun σ=>passAt tk σ) h3 hall hks hdb hpl,qj4 (qhy q qaw h4)⟩
theorem Ft (B:MkKB X.prog X.w X.K X.mg X.base k C n 0 ks ms sl R) (hr:Room (k+1) X.A) (tk:Takes X W) (hkw:JK X xa W kws mk) (hg:Gl X C:=by rfl) (hall:(backToKw pos (keywordEach kws X.env)).all (·.1.isSome)=true:=by rfl) (hks:(backToKw pos (keywordEach kws X.env)).filterMap (·.1)=ks:=by rfl)
  (hdb:(C == ("__debug__" : Str))=false:=by decide) (hpl:((backTo pos (starEach [] X.env)).any (·.1) || (backToKw pos (keywordEach kws X.env)).any (·.1.isNone))=false:=by rfl) :
  JE X xa W (.Call (.Name C p) [] kws pos) (eF (fMk C n R (yk 0 ks.length ms sl Qx mk))):=by
 obtain⟨_,h1,h2⟩:=qgQ B hr tk hkw hg hall hks hdb hpl;exact⟨_,h1,h2.ev⟩
end
end DL
namespace Law
open PySem PySem.Spec PyProof.Rows L2 DL
def Yg:SM:=(Ql (Bv ["Numbers"] "divisor" 0 (Qi 1))
 (Ql (Bv ["Numbers"] "modulus" 0 (Qi 2))
 (Ql (Bv ["Numbers"] "spread" 0 (Qi 3))
 (Ql (Bv ["Numbers"] "stride" 0 (Qi 4))
 (Ql (Bv ["Numbers"] "reach" 0 (Qi 5))
 Qw)))))
def Qm:List L→FRes:=Q7 6 Yg
def Wv:SM:=(Ql (Xl (P0 3 (Zv (Qg 1) (Zv (Qg 2) (Zv (Qg 3) Mq)))) (Qi 0))
 (Ql (J3 (eOp Kk (Qi 1) (eOp U2 (Qi 2) (eOp Gn (Qi 3) (eC (.int 1))))))
 Qw))
def Y2:List L→FRes:=Q7 4 Wv
def Nj:SM:=(Ql (Xl (P0 3 (Zv (Qg 2) (Zv (Qg 3) (Zv (Qg 4) Mq)))) (Qi 0))
 (Ql (Xl (P0 2 (Zv (Qg 5) (Zv (Qg 6) Mq))) (eCB Ef (Qf (eOp Gn (Qi 1) (Qi 2)) (Qf (Qi 3) Qx))))
 (Ql (sIf (mOr (tBl (eOp neD (Qi 6) (eC (.int 0)))) (mOr (tBl (eOp ltD (Qi 5) (eC (.int 0)))) (tBl (eOp geD (Qi 5) (Qi 4)))))
 (Ql (J3 (eC .non))
 Qw)
 Qw)
 (Ql (J3 (Qi 5))
 Qw))))
def Jt:List L→FRes:=Q7 7 Nj
def V8:SM:=(Ql (Xl (P0 3 (Zv (Qg 1) (Zv (Qg 2) (Zv (Qg 3) Mq)))) (Qi 0))
 (Ql (J3 (Gg (Qf (eOp Kk (Qi 1) (eOp U2 (Qi 2) (eOp Gn (Qi 3) (eC (.int 1))))) (Qf (eUn Ro (Qi 2)) (Qf (Qi 3) Qx)))))
 Qw))
def Jo:List L→FRes:=Q7 4 V8
def Wu:SM:=(Ql (Xl (P0 3 (Zv (Qg 3) (Zv (Qg 4) (Zv (Qg 5) Mq)))) (Qi 0))
 (Ql (sIf (tBl (eOp geD (Qi 2) (Qi 5)))
 (Ql (J3 (eC .non))
 Qw)
 Qw)
 (Ql (J3 (Gg (Qf (eOp Kk (Qi 3) (eOp U2 (Qi 4) (Qi 2))) (Qf (eOp U2 (Qi 4) (Qi 1)) (Qf (eOp Np (eOp Gn (eOp Kk (eOp Gn (Qi 5) (Qi 2)) (Qi 1)) (eC (.int 1))) (Qi 1)) Qx)))))
 Qw)))
def Y0:List L→FRes:=Q7 6 Wu
def U9:SM:=(Ql (Xl (P0 3 (Zv (Qg 3) (Zv (Qg 4) (Zv (Qg 5) Mq)))) (Qi 0))
 (Ql (sIf (tBl (eOp isD (Qi 2) (eC .non)))
 (Ql (Xl (Qg 2) (Qi 5))
 Qw)
 Qw)
 (Ql (sIf (mOr (tBl (eOp ltD (Qi 1) (eC (.int 0)))) (tBl (eOp gtD (Qi 1) (Qi 5))))
 (Ql (Uz "BadPlace" "place" (Qf (Qi 1) Qx))
 Qw)
 Qw)
 (Ql (sIf (mOr (tBl (eOp ltD (Qi 2) (Qi 1))) (tBl (eOp gtD (Qi 2) (Qi 5))))
 (Ql (Uz "BadPlace" "place" (Qf (Qi 2) Qx))
 Qw)
 Qw)
 (Ql (sIf (tBl (eOp eqD (Qi 1) (Qi 2)))
 (Ql (J3 (eC .non))
 Qw)
 Qw)
 (Ql (J3 (Gg (Qf (eOp Kk (Qi 3) (eOp U2 (Qi 4) (Qi 1))) (Qf (Qi 4) (Qf (eOp Gn (Qi 2) (Qi 1)) Qx)))))
 Qw))))))
def Vs:List L→FRes:=Q7 6 U9
def Nh:SM:=(Ql (J3 (eCB qp1 (Qf (eF (fLc (Ge (Qi 0)) [1] (Qg 1) qt (eOp ixD (Qi 1) (eC (.int 2))))) Qx)))
 Qw)
def Y1:List L→FRes:=Q7 2 Nh
def U8:SM:=(Ql (sIf (tBl (eOp eqD (eOp ixD (Qi 0) (eC (.int 0))) (eC (.str "block"))))
 (Ql (J3 (Gg (Qf (eOp Np (eOp U2 (eOp ixD (Qi 0) (eC (.int 2))) (Qi 1)) (eOp ixD (Qi 0) (eC (.int 1)))) (Qf (eOp Np (eOp U2 (eOp Kk (eOp ixD (Qi 0) (eC (.int 2))) (eC (.int 1))) (Qi 1)) (eOp ixD (Qi 0) (eC (.int 1)))) Qx))))
 Qw)
 Qw)
 (Ql (Xl (Qg 2) (eCB An (Qf (eOp ixD (Qi 0) (eC (.int 1))) (Qf (Qi 1) Qx))))
 (Ql (Bw (eOp ixD (Qi 0) (eC (.int 0)))
 (Px "front" (Ql (J3 (Gg (Qf (eC (.int 0)) (Qf (Qi 2) Qx))))
 Qw)
 (Px "rest" (Ql (J3 (Gg (Qf (Qi 2) (Qf (Qi 1) Qx))))
 Qw)
 (Px "last" (Ql (J3 (Gg (Qf (eOp Gn (Qi 1) (Qi 2)) (Qf (Qi 1) Qx))))
 Qw)
 (qaX (Ql (J3 (Gg (Qf (eC (.int 0)) (Qf (eOp Gn (Qi 1) (Qi 2)) Qx))))
 Qw))))))
 Qw)))
def Vr:List L→FRes:=Q7 3 U8
def Gz:SM:=(Ql (sIf (tBl (eOp ltD (Qi 0) (eC (.int 0))))
 (Ql (Uz "BadLength" "length" (Qf (Qi 0) Qx))
 Qw)
 Qw)
 (Ql (sIf (tBl (eOp eqD (Qi 0) (eC (.int 0))))
 (Ql (J3 (Gg Qx))
 Qw)
 Qw)
 (Ql (J3 (Gg (Qf (Gg (Qf (eC (.int 0)) (Qf (eC (.int 1)) (Qf (Qi 0) Qx)))) Qx)))
 Qw)))
def Kw:List L→FRes:=Q7 1 Gz
def Hi:SM:=(Ql (J3 (Ma ["Feed"] "_parts" (Qi 0)))
 Qw)
def Mm:List L→FRes:=Q7 1 Hi
def Kc:SM:=(sFg [5,6]
 (Ql (Xl (Qg 6) (eOp qbk (eCB intD (Qf (eOp U2 (eOp Kk (Qi 3) (eC (.int 1))) (eOp Kk (eOp Kk (eC (.int 48271)) (eOp U2 (eC (.int 6)) (Qi 2))) (eOp U2 (eC (.int 2)) (Qi 5)))) Qx)) (eC (.int 2147483629))))
 (Ql (Kj (D2 1 (eOp qbk (eCB intD (Qf (eOp U2 (Qi 6) (Qi 6)) Qx)) (eC (.int 1000003)))))
 Qw)))
def Yr:SM:=(sFg [5]
 (Ql (sIf (tBl (eOp gtD (Qi 4) (eC (.int 0))))
 (Ql (Kj (D2 1 (eOp qbk (eCB intD (Qf (Qi 4) Qx)) (eC (.int 1000)))))
 (Ql (Xl (Qg 4) (eOp Np (Qi 4) (eC (.int 1000))))
 Qw))
 Qw)
 Qw))
def Xi:SM:=(sFg [2,3,4]
 (Ql (Xl (Qg 3) (eCB intD (Qf (eOp ixD (Qi 0) (Qi 2)) Qx)))
 (Ql (Xl (Qg 4) (eCB qmu (Qf (Qi 3) Qx)))
 (Ql (sFg [4] (sIf (qd6 (tBl (eOp geD (Qi 3) (eC (.int 0)))) (tBl (eOp ltD (Qi 3) (eOp qlp (eC (.int 10)) (eC (.int 18))))))
 (Ql (N7 (Dx (Qf (eC (.int 3)) Qx)) (Qg 5)
 Kc)
 Qw)
 (Ql (N7 (Dx (Qf (eC (.int 60)) Qx)) (Qg 5)
 Yr)
 Qw)))
 Qw))))
def Wx:SM:=(Ql (Pw 1 (O7 Qx))
 (Ql (N7 (Dx (Qf (eCB An (Qf (eCB Oa (Qf (Qi 0) Qx)) (Qf (eC (.int 63)) Qx))) Qx)) (Qg 2)
 Xi)
 (Ql (Iy (qkd (Qi 1) xk xk (Fc (eUn Ro (eC (.int 1))))))
 Qw)))
def Y4:List L→FRes:=Q7 7 Wx
def G7:SM:=(Ql (sIf (tBl (eOp eqD (eCB Oa (Qf (Qi 0) Qx)) (eC (.int 0))))
 (Ql (J3 (eC (.int 0)))
 Qw)
 Qw)
 (Ql (J3 (eOp qbk (eCB intD (Qf (qc2 0) Qx)) (Qi 1)))
 Qw))
def Qz:List L→FRes:=Q7 2 G7
def V9:SM:=(Ql (sIf (mOr (tBl (eOp eqD (eOp ixD (eOp ixD (Qi 0) (eUn Ro (eC (.int 1)))) (eC (.int 0))) (eC (.str "open")))) (tBl (eOp eqD (eOp ixD (eOp ixD (Qi 0) (eUn Ro (eC (.int 1)))) (eC (.int 0))) (eC (.str "next")))))
 (Ql (Kj (D2 0 (Gg (Qf (eC (.str "same")) Qx))))
 Qw)
 Qw)
 (Ql (sIf (tBl (eOp eqD (eOp ixD (Qi 1) (eUn Ro (eC (.int 1)))) (eC (.int 0))))
 (Ql (Kj (D2 0 (Gg (Qf (eC (.str "next")) Qx))))
 (Ql (Iw 1 (eUn Ro (eC (.int 1))) (eC (.int 1)))
 Qw))
 (Ql (Kj (D2 0 (Gg (Qf (eC (.str "shut")) Qx))))
 (Ql (Kj (qc2 1))
 Qw)))
 Qw))
def Ji:List L→FRes:=Q7 2 V9
def Zq:NM:=(nFg [2]
 (vj (nIf (mOr (tBl (eOp eqD (eOp ixD (Qi 2) (eC (.int 0))) (eC (.str "open")))) (tBl (eOp eqD (eOp ixD (Qi 2) (eC (.int 0))) (eC (.str "next")))))
 (vj qb3
 qd3)
 (vj (nFg [3,4] (nIf (tBl (eOp eqD (eOp ixD (Qi 2) (eC (.int 0))) (eC (.str "shut"))))
 (vj (xl 1 3)
 (vj (xl 1 4)
 (vj (qhQ (eUn Ro (eC (.int 1))) (Gg (Qf (eC (.str "both")) (Qf (Qi 4) (Qf (Qi 3) Qx)))))
 qd3)))
 (vj (qhQ (eUn Ro (eC (.int 1))) (Qi 2))
 qd3)))
 qd3))
 qd3))
def Hg:SM:=(qbE 1 (vj (qi5 (Ge (Qi 0)) (Qg 2)
 Zq)
 (vj (qi2 (eC (.int 0)))
 qd3)))
def Vv:List L→FRes:=Q7 5 Hg
def Zw:SM:=(sFg [4,5]
 (Ql (sIf (tBl (eOp eqD (Qi 3) (eC (.int 0))))
 (Ql qlk
 Qw)
 Qw)
 (Ql (Xl (Qg 5) (eOp qbk (eCB intD (Qf (Qi 2) Qx)) (Qi 3)))
 (Ql (Xl (Qg 2) (Qi 3))
 (Ql (Xl (Qg 3) (Qi 5))
 Qw)))))
def Ka:SM:=(Ql (Xl (Qg 2) (Qi 0))
 (Ql (Xl (Qg 3) (Qi 1))
 (Ql (N7 (Dx (Qf (eC (.int 300)) Qx)) (Qg 4)
 Zw)
 (Ql (J3 (eOp U2 (eOp Np (Qi 0) (Qi 2)) (Qi 1)))
 Qw))))
def Q6:List L→FRes:=Q7 6 Ka
def Hh:SM:=(Ql (sIf (tBl (eOp eqD (eOp ixD (Qi 0) (eC (.int 0))) (eC (.str "same"))))
 (Ql (J3 (Gg (Qf (Qi 1) (Qf (Qi 2) Qx))))
 Qw)
 Qw)
 (Ql (sIf (tBl (eOp eqD (eOp ixD (Qi 0) (eC (.int 0))) (eC (.str "turn"))))
 (Ql (J3 (Gg (Qf (Qi 1) (Qf (eF (fLc (Ge (qft (Qi 2) (Fc (eUn Ro (eC (.int 1)))))) [3] (Qg 3) qt (eOp Gn (eOp Gn (Qi 1) (eC (.int 1))) (Qi 3)))) Qx))))
 Qw)
 Qw)
 (Ql (sFg [4] (sIf (tBl (eOp eqD (eOp ixD (Qi 0) (eC (.int 0))) (eC (.str "each"))))
 (Ql (Xl (Qg 4) (eF (fLc (Ge (Qi 2)) [3] (Qg 3) (tBl (eOp eqD (eOp qbk (eCB intD (Qf (Qi 3) Qx)) (eOp ixD (Qi 0) (eC (.int 1)))) (eOp ixD (Qi 0) (eC (.int 2))))) (eOp Np (eOp Gn (Qi 3) (eOp ixD (Qi 0) (eC (.int 2)))) (eOp ixD (Qi 0) (eC (.int 1)))))))
 (Ql (J3 (Gg (Qf (eOp Np (eOp Gn (eOp Kk (eOp Gn (Qi 1) (eOp ixD (Qi 0) (eC (.int 2)))) (eOp ixD (Qi 0) (eC (.int 1)))) (eC (.int 1))) (eOp ixD (Qi 0) (eC (.int 1)))) (Qf (Qi 4) Qx))))
 Qw))
 Qw))
 (Ql (Xl (Qg 5) (eC (.int 0)))
 (Ql (Xl (Qg 6) (Qi 1))
 (Ql (sIf (tBl (eOp eqD (eOp ixD (Qi 0) (eC (.int 0))) (eC (.str "front"))))
 (Ql (Xl (Qg 6) (eCB An (Qf (eOp ixD (Qi 0) (eC (.int 1))) (Qf (Qi 1) Qx))))
 Qw)
 Qw)
 (Ql (sIf (tBl (eOp eqD (eOp ixD (Qi 0) (eC (.int 0))) (eC (.str "rest"))))
 (Ql (Xl (Qg 5) (eCB An (Qf (eOp ixD (Qi 0) (eC (.int 1))) (Qf (Qi 1) Qx))))
 Qw)
 Qw)
 (Ql (sIf (tBl (eOp eqD (eOp ixD (Qi 0) (eC (.int 0))) (eC (.str "last"))))
 (Ql (Xl (Qg 5) (eCB qq (Qf (eC (.int 0)) (Qf (eOp Gn (Qi 1) (eOp ixD (Qi 0) (eC (.int 1)))) Qx))))
 Qw)
 Qw)
 (Ql (sIf (tBl (eOp eqD (eOp ixD (Qi 0) (eC (.int 0))) (eC (.str "but"))))
 (Ql (Xl (Qg 6) (eCB qq (Qf (eC (.int 0)) (Qf (eOp Gn (Qi 1) (eOp ixD (Qi 0) (eC (.int 1)))) Qx))))
 Qw)
 Qw)
 (Ql (sIf (tBl (eOp eqD (eOp ixD (Qi 0) (eC (.int 0))) (eC (.str "block"))))
 (Ql (Xl (Qg 5) (eOp Np (eOp U2 (eOp ixD (Qi 0) (eC (.int 2))) (Qi 1)) (eOp ixD (Qi 0) (eC (.int 1)))))
 (Ql (Xl (Qg 6) (eOp Np (eOp U2 (eOp Kk (eOp ixD (Qi 0) (eC (.int 2))) (eC (.int 1))) (Qi 1)) (eOp ixD (Qi 0) (eC (.int 1)))))
 Qw))
 Qw)
 (Ql (J3 (Gg (Qf (eOp Gn (Qi 6) (Qi 5)) (Qf (eF (fLc (Ge (Qi 2)) [3] (Qg 3) (qd6 (tBl (eOp leD (Qi 5) (Qi 3))) (tBl (eOp ltD (Qi 3) (Qi 6)))) (eOp Gn (Qi 3) (Qi 5)))) Qx))))
 Qw)))))))))))
def Vx:List L→FRes:=Q7 7 Hh
def Vi:SM:=(Ql (J3 (qhW (qdx "int" (Qi 0)) (qkE (qdx "bool" (Qi 0)))))
 Qw)
def Q4:List L→FRes:=Q7 1 Vi
def Xx:SM:=(sFg [2]
 (Ql (Kj (D2 1 (eOp ixD (Qi 2) (eC (.int 0)))))
 (Ql (sIf (tBl (eOp gtD (eOp ixD (Qi 2) (eC (.int 2))) (eC (.int 1))))
 (Ql (Kj (D2 1 (eOp Kk (eOp ixD (Qi 2) (eC (.int 0))) (eOp U2 (eOp ixD (Qi 2) (eC (.int 1))) (eOp Gn (eOp ixD (Qi 2) (eC (.int 2))) (eC (.int 1)))))))
 Qw)
 Qw)
 Qw)))
def K8:SM:=(Ql (Pw 1 (O7 Qx))
 (Ql (N7 (Ge (Qi 0)) (Qg 2)
 Xx)
 (Ql (J3 (Qi 1))
 Qw)))
def X8:List L→FRes:=Q7 3 K8
def Vk:SM:=(sFg [3]
 (Ql (sIf (tBl (eOp geD (eOp ixD (Qi 1) (eOp Gn (Qi 3) (eC (.int 1)))) (eOp ixD (Qi 1) (Qi 3))))
 (Ql (J3 (eC (.bl false)))
 Qw)
 Qw)
 Qw))
def K9:SM:=(Ql (Xl (Qg 1) (eF (fLc (Ge (eF (fCB Bm (Qf (Qi 0) Qx)))) [2] (Qg 2) qt (eOp ixD (Qi 2) (eC (.int 2))))))
 (Ql (N7 (qaY (Qf (eC (.int 1)) (Qf (eCB Oa (Qf (Qi 1) Qx)) Qx))) (Qg 3)
 Vk)
 (Ql (J3 (eC (.bl true)))
 Qw)))
def Jm:List L→FRes:=Q7 4 K9
def Ha:SM:=(Ql (J3 (eCB Bi (Qf (eF (fLc (Ge (qft (Qi 0) (Fc (eUn Ro (eC (.int 1)))))) [1] (Qg 1) qt (Q9 1 Jo (Qf (Qi 1) Qx)))) Qx)))
 Qw)
def Vt:List L→FRes:=Q7 2 Ha
def V1:SM:=(sFg [5,6]
 (Ql (Xl (Qg 6) (Q9 3 Y0 (Qf (Qi 5) (Qf (Qi 1) (Qf (eOp qbk (eOp Gn (Qi 2) (Qi 4)) (Qi 1)) Qx)))))
 (Ql (sIf (tBl (eOp qhT (Qi 6) (eC .non)))
 (Ql (Kj (D2 3 (Qi 6)))
 Qw)
 Qw)
 (Ql (qeY 4 qhB (eOp ixD (Qi 5) (eC (.int 2))))
 Qw))))
def Ni:SM:=(Ql (Pw 3 (O7 Qx))
 (Ql (Xl (Qg 4) (eC (.int 0)))
 (Ql (N7 (Ge (Qi 0)) (Qg 5)
 V1)
 (Ql (J3 (eCB Bi (Qf (Qi 3) Qx)))
 Qw))))
def W9:List L→FRes:=Q7 7 Ni
def K1:SM:=(sFg [6,7,8]
 (Ql (Xl (Qg 7) (eCB qq (Qf (eOp Gn (Qi 1) (Qi 5)) (Qf (eC (.int 0)) Qx))))
 (Ql (Xl (Qg 8) (eCB An (Qf (eOp Gn (Qi 2) (Qi 5)) (Qf (eOp ixD (Qi 6) (eC (.int 2))) Qx))))
 (Ql (sIf (tBl (eOp ltD (Qi 7) (Qi 8)))
 (Ql (Kj (D2 4 (Q9 3 Vs (yk 1 2 [] [.p 0,.k 0,.k 1] (Qf (Qi 6) Qx) (Qf (Qi 7) (Qf (Qi 8) Qx))))))
 Qw)
 Qw)
 (Ql (qeY 5 qhB (eOp ixD (Qi 6) (eC (.int 2))))
 Qw)))))
def Se:SM:=(Ql (Xl (Qg 3) (Q9 1 Y1 (Qf (Qi 0) Qx)))
 (Ql (sIf (tBl (eOp isD (Qi 2) (eC .non)))
 (Ql (Xl (Qg 2) (Qi 3))
 Qw)
 Qw)
 (Ql (sIf (mOr (tBl (eOp ltD (Qi 1) (eC (.int 0)))) (tBl (eOp gtD (Qi 1) (Qi 3))))
 (Ql (Uz "BadPlace" "place" (Qf (Qi 1) Qx))
 Qw)
 Qw)
 (Ql (sIf (mOr (tBl (eOp ltD (Qi 2) (Qi 1))) (tBl (eOp gtD (Qi 2) (Qi 3))))
 (Ql (Uz "BadPlace" "place" (Qf (Qi 2) Qx))
 Qw)
 Qw)
 (Ql (Pw 4 (O7 Qx))
 (Ql (Xl (Qg 5) (eC (.int 0)))
 (Ql (N7 (Ge (Qi 0)) (Qg 6)
 K1)
 (Ql (J3 (eCB Bi (Qf (Qi 4) Qx)))
 Qw))))))))
def Ul:List L→FRes:=Q7 9 Se
def Sf:SM:=(Ql (Iy (fLc (mEn (Qi 0)) [2,3] (P0 2 (Zv (Qg 2) (Zv (Qg 3) Mq))) (tBl (eOp qhT (Q9 2 Jt (Qf (Qi 3) (Qf (Qi 1) Qx))) (eC .non))) (Qi 2)))
 Qw)
def H7:List L→FRes:=Q7 4 Sf
def Pc:SM:=(sFg [3]
 (Ql (Xl (Qg 2) (eOp Kk (eOp U2 (Qi 2) (eC (.int 1000))) (Q9 2 Qz (Qf (Qi 0) (Qf (eC (.int 1000)) Qx)))))
 Qw))
def G6:SM:=(Ql (Xl (Qg 2) (eC (.int 0)))
 (Ql (N7 (Dx (Qf (Q9 2 Qz (Qf (Qi 0) (Qf (eOp Kk (Qi 1) (eC (.int 1))) Qx))) Qx)) (Qg 3)
 Pc)
 (Ql (J3 (Qi 2))
 Qw)))
def Ky:List L→FRes:=Q7 4 G6
def Wy:SM:=(Ql (Xl (Qg 3) (Q9 2 Qz (Qf (Qi 0) (Qf (eC (.int 10)) Qx))))
 (Ql (sIf (tBl (eOp eqD (Qi 3) (eC (.int 0))))
 (Ql (J3 (Gg (Qf (eC (.str "same")) Qx)))
 Qw)
 Qw)
 (Ql (sIf (tBl (eOp eqD (Qi 3) (eC (.int 1))))
 (Ql (J3 (Gg (Qf (eC (.str "turn")) Qx)))
 Qw)
 Qw)
 (Ql (sIf (tBl (eOp ltD (Qi 3) (eC (.int 6))))
 (Ql (J3 (Gg (Qf (eOp ixD (eF (O7 (Qf (eC (.str "front")) (Qf (eC (.str "rest")) (Qf (eC (.str "last")) (Qf (eC (.str "but")) Qx)))))) (eOp Gn (Qi 3) (eC (.int 2)))) (Qf (Q9 2 Qz (Qf (Qi 0) (Qf (eOp Kk (Qi 1) (eC (.int 1))) Qx))) Qx))))
 Qw)
 Qw)
 (Ql (Xl (Qg 4) (eOp Kk (eC (.int 1)) (Q9 2 Qz (Qf (Qi 0) (Qf (Qi 2) Qx)))))
 (Ql (J3 (Gg (Qf (eOp ixD (eF (O7 (Qf (eC (.str "each")) (Qf (eC (.str "block")) Qx)))) (eOp qbk (eCB intD (Qf (Qi 3) Qx)) (eC (.int 2)))) (Qf (Qi 4) (Qf (Q9 2 Qz (Qf (Qi 0) (Qf (Qi 4) Qx))) Qx)))))
 Qw))))))
def Y5:List L→FRes:=Q7 5 Wy
def W2:SM:=(Ql (Xl (P0 5 (Zv (Qg 2) (Zv (Qg 3) (Zv (Qg 4) (Zv (Qg 5) (Zv (Qg 6) Mq)))))) (Qi 1))
 (Ql (sFg [7] (sIf (tBl (eOp eqD (eOp ixD (Qi 0) (eC (.int 0))) (eC (.str "each"))))
 (Ql (Xl (Qg 7) (eOp Np (eOp Gn (eOp Kk (Qi 4) (eOp U2 (eC (.int 2)) (eOp ixD (Qi 0) (eC (.int 1))))) (eC (.int 2))) (eOp ixD (Qi 0) (eC (.int 1)))))
 (Ql (J3 (Gg (Qf (eOp U2 (Qi 2) (eOp ixD (Qi 0) (eC (.int 1)))) (Qf (Q9 2 Q6 (Qf (Qi 3) (Qf (eOp U2 (Qi 2) (eOp ixD (Qi 0) (eC (.int 1)))) Qx))) (Qf (Qi 7) (Qf (eOp U2 (Qi 5) (eOp ixD (Qi 0) (eC (.int 1)))) (Qf (eOp Kk (Qi 6) (eOp U2 (eOp U2 (eC (.int 2)) (Qi 5)) (eOp Gn (eOp ixD (Qi 0) (eC (.int 1))) (eC (.int 1))))) Qx)))))))
 Qw))
 Qw))
 (Ql (sIf (tBl (eOp eqD (eOp ixD (Qi 0) (eC (.int 0))) (eC (.str "block"))))
 (Ql (J3 (Gg (Qf (eOp U2 (Qi 2) (eOp ixD (Qi 0) (eC (.int 1)))) (Qf (Q9 2 Q6 (Qf (Qi 3) (Qf (eOp U2 (Qi 2) (eOp ixD (Qi 0) (eC (.int 1)))) Qx))) (Qf (eOp Kk (Qi 4) (eC (.int 1))) (Qf (Qi 5) (Qf (eOp Kk (Qi 6) (eOp U2 (eOp U2 (eC (.int 2)) (Qi 5)) (eOp Kk (Qi 4) (eC (.int 2))))) Qx)))))))
 Qw)
 Qw)
 (Ql (sIf (mOr (tBl (eOp eqD (eOp ixD (Qi 0) (eC (.int 0))) (eC (.str "same")))) (tBl (eOp eqD (eOp ixD (Qi 0) (eC (.int 0))) (eC (.str "turn")))))
 (Ql (J3 (Qi 1))
 Qw)
 Qw)
 (Ql (J3 (Gg (Qf (Qi 2) (Qf (Qi 3) (Qf (eOp Kk (Qi 4) (eOp ixD (Qi 0) (eC (.int 1)))) (Qf (Qi 5) (Qf (eOp Kk (Qi 6) (eOp U2 (eOp U2 (eC (.int 2)) (Qi 5)) (eOp Kk (eOp Kk (Qi 4) (eOp ixD (Qi 0) (eC (.int 1)))) (eC (.int 1))))) Qx)))))))
 Qw)))))
def Y6:List L→FRes:=Q7 8 W2
def Zp:SM:=(sFg [4]
 (Ql (sIf (tBl (eOp eqD (eOp ixD (Qi 4) (eC (.int 0))) (eC (.str "open"))))
 (Ql (Kj (D2 3 (eOp ixD (Qi 3) (eUn Ro (eC (.int 1))))))
 Qw)
 (Ql (sIf (tBl (eOp eqD (eOp ixD (Qi 4) (eC (.int 0))) (eC (.str "next"))))
 (Ql (Kj (D2 3 (eOp ixD (Qi 3) (eUn Ro (eC (.int 2))))))
 Qw)
 (Ql (sFg [5,6] (sIf (tBl (eOp eqD (eOp ixD (Qi 4) (eC (.int 0))) (eC (.str "shut"))))
 (Ql (Xl (Qg 5) (qc2 3))
 (Ql (Xl (Qg 6) (qc2 3))
 (Ql (Iw 3 (eUn Ro (eC (.int 1))) (Gg (Qf (eOp Kk (eOp ixD (Qi 6) (eC (.int 0))) (eOp ixD (Qi 5) (eC (.int 0)))) (Qf (eOp Kk (eOp ixD (Qi 6) (eC (.int 1))) (eF (fLc (Ge (eOp ixD (Qi 5) (eC (.int 1)))) [7] (Qg 7) qt (eOp Kk (eOp ixD (Qi 6) (eC (.int 0))) (Qi 7))))) Qx))))
 Qw)))
 (Ql (Iw 3 (eUn Ro (eC (.int 1))) (Q9 3 Vx (Qf (Qi 4) (Qf (eOp ixD (eOp ixD (Qi 3) (eUn Ro (eC (.int 1)))) (eC (.int 0))) (Qf (eOp ixD (eOp ixD (Qi 3) (eUn Ro (eC (.int 1)))) (eC (.int 1))) Qx)))))
 Qw)))
 Qw))
 Qw))
 Qw))
def Hf:SM:=(Ql (Pw 3 (O7 (Qf (Gg (Qf (Qi 1) (Qf (eF (O7 (Qf (Qi 2) Qx))) Qx))) Qx)))
 (Ql (N7 (Ge (Qi 0)) (Qg 4)
 Zp)
 (Ql (J3 (eOp ixD (Qi 3) (eC (.int 0))))
 Qw)))
def Vu:List L→FRes:=Q7 8 Hf
def Ke:SM:=(sFg [2]
 (Ql (sIf (El (Ek (Q9 1 Q4 (Qf (Qi 2) Qx))))
 (Ql (J3 (eC (.bl false)))
 Qw)
 Qw)
 Qw))
def Kd:SM:=(sFg [1]
 (Ql (sIf (mOr (El (Ek (qdx "tuple" (Qi 1)))) (tBl (eOp neD (eCB Oa (Qf (Qi 1) Qx)) (eC (.int 3)))))
 (Ql (J3 (eC (.bl false)))
 Qw)
 Qw)
 (Ql (N7 (Ge (Qi 1)) (Qg 2)
 Ke)
 (Ql (sIf (mOr (tBl (eOp eqD (eOp ixD (Qi 1) (eC (.int 1))) (eC (.int 0)))) (tBl (eOp ltD (eOp ixD (Qi 1) (eC (.int 2))) (eC (.int 1)))))
 (Ql (J3 (eC (.bl false)))
 Qw)
 Qw)
 Qw))))
def W0:SM:=(Ql (sIf (El (Ek (qdx "tuple" (Qi 0))))
 (Ql (J3 (eC (.bl false)))
 Qw)
 Qw)
 (Ql (N7 (Ge (Qi 0)) (Qg 1)
 Kd)
 (Ql (J3 (eC (.bl true)))
 Qw)))
def Z8:List L→FRes:=Q7 3 W0
def Xb:SM:=(sFg [2]
 (Ql (sIf (mOr (El (Ek (Q9 1 Q4 (Qf (Qi 2) Qx)))) (mOr (tBl (eOp ltD (Qi 2) (eC (.int 0)))) (tBl (eOp geD (Qi 2) (Qi 1)))))
 (Ql (J3 (eC (.bl false)))
 Qw)
 Qw)
 Qw))
def Yf:SM:=(Ql (sIf (El (Ek (qdx "list" (Qi 0))))
 (Ql (J3 (eC (.bl false)))
 Qw)
 Qw)
 (Ql (N7 (Ge (Qi 0)) (Qg 2)
 Xb)
 (Ql (J3 (eC (.bl true)))
 Qw)))
def Je:List L→FRes:=Q7 3 Yf
def Vj:SM:=(Ql (sIf (El (Ek (qkF Gx (Qi 1))))
 (Ql qqq
 Qw)
 Qw)
 (Ql (J3 (eF (fMk "Numbers" 6 Qm (yk 0 5 [] [.k 0,.k 1,.k 2,.k 3,.k 4] Qx (Qf (qeC (Qf (Ma ["Numbers"] "divisor" (Qi 0)) (Qf (Ma ["Numbers"] "divisor" (Qi 1)) Qx))) (Qf (qeC (Qf (Ma ["Numbers"] "modulus" (Qi 0)) (Qf (Ma ["Numbers"] "modulus" (Qi 1)) Qx))) (Qf (eOp Kk (Ma ["Numbers"] "spread" (Qi 0)) (Ma ["Numbers"] "spread" (Qi 1))) (Qf (qeC (Qf (Ma ["Numbers"] "stride" (Qi 0)) (Qf (Ma ["Numbers"] "stride" (Qi 1)) Qx))) (Qf (eOp Kk (Ma ["Numbers"] "reach" (Qi 0)) (Ma ["Numbers"] "reach" (Qi 1))) Qx)))))))))
 Qw))
def Vf:List L→FRes:=Q7 2 Vj
def Hc:SM:=(Ql (Xl (Qg 2) (eOp Kk (Ma ["Numbers"] "spread" (Qi 1)) (Qi 0)))
 (Ql (J3 (eF (fMk "Numbers" 6 Qm (yk 0 5 [] [.k 0,.k 1,.k 2,.k 3,.k 4] Qx (Qf (Ma ["Numbers"] "divisor" (Qi 1)) (Qf (Ma ["Numbers"] "modulus" (Qi 1)) (Qf (Qi 2) (Qf (Ma ["Numbers"] "stride" (Qi 1)) (Qf (eOp Kk (Ma ["Numbers"] "reach" (Qi 1)) (eOp U2 (eOp U2 (eC (.int 2)) (Ma ["Numbers"] "stride" (Qi 1))) (eOp Kk (Qi 2) (eC (.int 1))))) Qx)))))))))
 Qw))
def Ym:List L→FRes:=Q7 3 Hc
def Ww:SM:=(Ql (J3 (eF (fMk "Numbers" 6 Qm (yk 0 5 [] [.k 0,.k 1,.k 2,.k 3,.k 4] Qx (Qf (eOp U2 (Ma ["Numbers"] "divisor" (Qi 1)) (Qi 0)) (Qf (qeC (Qf (Ma ["Numbers"] "modulus" (Qi 1)) (Qf (eOp U2 (Ma ["Numbers"] "divisor" (Qi 1)) (Qi 0)) Qx))) (Qf (eOp Np (eOp Gn (eOp Kk (Ma ["Numbers"] "spread" (Qi 1)) (eOp U2 (eC (.int 2)) (Qi 0))) (eC (.int 2))) (Qi 0)) (Qf (eOp U2 (Ma ["Numbers"] "stride" (Qi 1)) (Qi 0)) (Qf (eOp Kk (Ma ["Numbers"] "reach" (Qi 1)) (eOp U2 (eOp U2 (eC (.int 2)) (Ma ["Numbers"] "stride" (Qi 1))) (eOp Gn (Qi 0) (eC (.int 1))))) Qx)))))))))
 Qw)
def Y3:List L→FRes:=Q7 2 Ww
def K5:SM:=(Ql (Xl (Qg 2) (eOp Kk (Ma ["Numbers"] "spread" (Qi 1)) (eC (.int 1))))
 (Ql (J3 (eF (fMk "Numbers" 6 Qm (yk 0 5 [] [.k 0,.k 1,.k 2,.k 3,.k 4] Qx (Qf (eOp U2 (Ma ["Numbers"] "divisor" (Qi 1)) (Qi 0)) (Qf (qeC (Qf (Ma ["Numbers"] "modulus" (Qi 1)) (Qf (eOp U2 (Ma ["Numbers"] "divisor" (Qi 1)) (Qi 0)) Qx))) (Qf (Qi 2) (Qf (Ma ["Numbers"] "stride" (Qi 1)) (Qf (eOp Kk (Ma ["Numbers"] "reach" (Qi 1)) (eOp U2 (eOp U2 (eC (.int 2)) (Ma ["Numbers"] "stride" (Qi 1))) (eOp Kk (Qi 2) (eC (.int 1))))) Qx)))))))))
 Qw))
def X6:List L→FRes:=Q7 3 K5
def Kf:SM:=(sFg [7]
 (Ql (sIf (tBl (eOp gtD (eCB Oa (Qf (Qi 6) Qx)) (eC (.int 0))))
 (Ql (Kj (Q9 2 Ji (Qf (Qi 5) (Qf (Qi 6) Qx))))
 Qw)
 Qw)
 Qw))
def Jz:SM:=(sFg [7,8]
 (Ql (Xl (Qg 8) (Q9 2 Qz (Qf (Qi 0) (Qf (eC (.int 5)) Qx))))
 (Ql (sIf (qd6 (tBl (eOp eqD (Qi 8) (eC (.int 4)))) (tBl (eOp gtD (Qi 2) (eC (.int 0)))))
 (Ql (Kj (D2 5 (Gg (Qf (eC (.str "open")) Qx))))
 (Ql (Kj (D2 6 (eC (.int 0))))
 (Ql (Xl (Qg 2) (eOp Gn (Qi 2) (eC (.int 1))))
 Qw)))
 (Ql (sIf (qd6 (tBl (eOp eqD (Qi 8) (eC (.int 3)))) (tBl (eOp gtD (eCB Oa (Qf (Qi 6) Qx)) (eC (.int 0)))))
 (Ql (Kj (Q9 2 Ji (Qf (Qi 5) (Qf (Qi 6) Qx))))
 Qw)
 (Ql (Kj (D2 5 (Q9 3 Y5 (Qf (Qi 0) (Qf (Qi 3) (Qf (Qi 4) Qx))))))
 Qw))
 Qw))
 Qw)))
def G8:SM:=(Ql (Pw 5 (O7 Qx))
 (Ql (Pw 6 (O7 Qx))
 (Ql (N7 (Dx (Qf (Qi 1) Qx)) (Qg 7)
 Jz)
 (Ql (N7 (Dx (Qf (eOp U2 (eC (.int 2)) (eCB Oa (Qf (Qi 6) Qx))) Qx)) (Qg 7)
 Kf)
 (Ql (J3 (Qi 5))
 Qw)))))
def Kz:List L→FRes:=Q7 9 G8
def Ze:SM:=(sFg [2]
 (Ql (sIf (tBl (eOp eqD (eOp ixD (Qi 2) (eC (.int 0))) (eC (.str "open"))))
 (Ql (Kj (D2 1 (eOp ixD (Qi 1) (eUn Ro (eC (.int 1))))))
 Qw)
 (Ql (sIf (tBl (eOp eqD (eOp ixD (Qi 2) (eC (.int 0))) (eC (.str "next"))))
 (Ql (Kj (D2 1 (eOp ixD (Qi 1) (eUn Ro (eC (.int 2))))))
 Qw)
 (Ql (sFg [3,4] (sIf (tBl (eOp eqD (eOp ixD (Qi 2) (eC (.int 0))) (eC (.str "shut"))))
 (Ql (Xl (Qg 3) (qc2 1))
 (Ql (Xl (Qg 4) (qc2 1))
 (Ql (Iw 1 (eUn Ro (eC (.int 1))) (Gg (Qf (Q9 2 Q6 (Qf (eOp ixD (Qi 3) (eC (.int 0))) (Qf (eOp ixD (Qi 4) (eC (.int 0))) Qx))) (Qf (Q9 2 Q6 (Qf (eOp ixD (Qi 3) (eC (.int 1))) (Qf (eOp ixD (Qi 4) (eC (.int 1))) Qx))) (Qf (eOp Kk (eOp ixD (Qi 3) (eC (.int 2))) (eOp ixD (Qi 4) (eC (.int 2)))) (Qf (Q9 2 Q6 (Qf (eOp ixD (Qi 3) (eC (.int 3))) (Qf (eOp ixD (Qi 4) (eC (.int 3))) Qx))) (Qf (eOp Kk (eOp ixD (Qi 3) (eC (.int 4))) (eOp ixD (Qi 4) (eC (.int 4)))) Qx)))))))
 Qw)))
 (Ql (Iw 1 (eUn Ro (eC (.int 1))) (Q9 2 Y6 (Qf (Qi 2) (Qf (eOp ixD (Qi 1) (eUn Ro (eC (.int 1)))) Qx))))
 Qw)))
 Qw))
 Qw))
 Qw))
def K7:SM:=(Ql (Pw 1 (O7 (Qf (Gg (Qf (eC (.int 1)) (Qf (eC (.int 1)) (Qf (eC (.int 0)) (Qf (eC (.int 1)) (Qf (eC (.int 1)) Qx)))))) Qx)))
 (Ql (N7 (Ge (Qi 0)) (Qg 2)
 Ze)
 (Ql (J3 (eOp ixD (Qi 1) (eC (.int 0))))
 Qw)))
def X7:List L→FRes:=Q7 5 K7
def Xw:SM:=(sFg [6,7,8]
 (Ql (Xl (Qg 7) (Q9 2 H7 (Qf (Qi 2) (Qf (Qi 6) Qx))))
 (Ql (Xl (Qg 8) (eOp ixD (Q9 3 Vu (Qf (Qi 0) (Qf (Qi 1) (Qf (Qi 6) Qx)))) (eC (.int 1))))
 (Ql (sIf (mOr (El (Ek (Q9 2 Je (Qf (Qi 7) (Qf (eCB Oa (Qf (Qi 2) Qx)) Qx))))) (tBl (eOp neD (eOp gtD (eCB Oa (Qf (Qi 7) Qx)) (eC (.int 0))) (eOp gtD (eCB Oa (Qf (Qi 8) Qx)) (eC (.int 0))))))
 (Ql (J3 (eC (.bl false)))
 Qw)
 Qw)
 (Ql (sFg [9,10] (sIf (tBl (eOp gtD (eCB Oa (Qf (Qi 7) Qx)) (eC (.int 0))))
 (Ql (Xl (Qg 9) (Q9 2 Jt (Qf (eOp ixD (Qi 2) (eOp ixD (Qi 7) (eC (.int 0)))) (Qf (Qi 6) Qx))))
 (Ql (Xl (Qg 10) (Q9 2 Jt (Qf (eOp ixD (Qi 2) (eOp ixD (Qi 7) (eUn Ro (eC (.int 1))))) (Qf (Qi 6) Qx))))
 (Ql (sIf (mOr (El (Ek (Q9 1 Q4 (Qf (Qi 9) Qx)))) (El (Ek (Q9 1 Q4 (Qf (Qi 10) Qx)))))
 (Ql (J3 (eC (.bl false)))
 Qw)
 Qw)
 (Ql (Kj (D2 4 (Gg (Qf (eOp ixD (Qi 7) (eC (.int 0))) (Qf (Qi 9) (Qf (eOp ixD (Qi 8) (eC (.int 0))) Qx))))))
 (Ql (Kj (D2 5 (Gg (Qf (eOp ixD (Qi 7) (eUn Ro (eC (.int 1)))) (Qf (Qi 10) (Qf (eOp ixD (Qi 8) (eUn Ro (eC (.int 1)))) Qx))))))
 Qw)))))
 Qw))
 Qw)))))
def K6:SM:=(Ql (Pw 4 (O7 Qx))
 (Ql (Pw 5 (O7 Qx))
 (Ql (N7 (Ge (Qi 3)) (Qg 6)
 Xw)
 (Ql (J3 (qhW (Q9 1 Jm (Qf (Qi 4) Qx)) (Q9 1 Jm (Qf (Qi 5) Qx))))
 Qw))))
def Jl:List L→FRes:=Q7 11 K6
def Jc:SM:=(sFg [2,3,4]
 (Ql (Xl (Qg 3) (eSl slD (Qi 0) xk (Fc (eOp Gn (eCB Oa (Qf (Qi 0) Qx)) (Qi 2)))))
 (Ql (Xl (Qg 4) (eCB Oa (Qf (eF (fLc (Ge (Qi 3)) [5] (Qg 5) (tBl (eOp eqD (eOp ixD (Qi 5) (eC (.int 0))) (eC (.str "open")))) (Qi 5))) Qx)))
 (Ql (sIf (tBl (eOp eqD (Qi 4) (eCB Oa (Qf (eF (fLc (Ge (Qi 3)) [5] (Qg 5) (tBl (eOp eqD (eOp ixD (Qi 5) (eC (.int 0))) (eC (.str "shut")))) (Qi 5))) Qx))))
 (Ql (sIf (tBl (eOp leD (eOp ixD (Q9 1 X7 (Qf (Qi 3) Qx)) (eC (.int 3))) (Qi 1)))
 (Ql (J3 (Qi 3))
 Qw)
 Qw)
 Qw)
 Qw)
 Qw))))
def Wz:SM:=(Ql (N7 (Dx (Qf (eCB Oa (Qf (Qi 0) Qx)) Qx)) (Qg 2)
 Jc)
 (Ql (Iy (O7 (Qf (Gg (Qf (eC (.str "same")) Qx)) Qx)))
 Qw))
def Xs:List L→FRes:=Q7 6 Wz
def Jr (Ja:List L→FRes):SM:=(sFg [2]
 (Ql (qeY 1 qhB (eC (.int 1)))
 (Ql (sIf (tBl (eOp eqD (eOp ixD (Qi 2) (eC (.int 0))) (eC (.str "both"))))
 (Ql (qeY 1 qhB (eOp Kk (Q9 1 Ja (Qf (eOp ixD (Qi 2) (eC (.int 1))) Qx)) (Q9 1 Ja (Qf (eOp ixD (Qi 2) (eC (.int 2))) Qx))))
 Qw)
 Qw)
 Qw)))
def Y8 (Ja:List L→FRes):SM:=(Ql (Xl (Qg 1) (eC (.int 0)))
 (Ql (N7 (Ge (Qi 0)) (Qg 2)
 (Jr Ja))
 (Ql (J3 (Qi 1))
 Qw)))
def Z9:Nat→(List L→FRes)
 | 0=>Q7 3 (fun _=>.bad)
 | n+1=>Q7 3 (Y8 ((Z9 n)))
def V7:List L→FRes:=(Z9 40)
def Yq (X9:List L→FRes):SM:=(sFg [2]
 (Ql (sIf (tBl (eOp eqD (eOp ixD (Qi 2) (eC (.int 0))) (eC (.str "both"))))
 (Ql (Xl (Qg 1) (eCB qq (Qf (Qi 1) (Qf (eOp Kk (eC (.int 1)) (eCB qq (Qf (Q9 1 X9 (Qf (eOp ixD (Qi 2) (eC (.int 1))) Qx)) (Qf (Q9 1 X9 (Qf (eOp ixD (Qi 2) (eC (.int 2))) Qx)) Qx)))) Qx))))
 Qw)
 Qw)
 Qw))
def Ub (X9:List L→FRes):SM:=(Ql (Xl (Qg 1) (eC (.int 0)))
 (Ql (N7 (Ge (Qi 0)) (Qg 2)
 (Yq X9))
 (Ql (J3 (Qi 1))
 Qw)))
def Xt:Nat→(List L→FRes)
 | 0=>Q7 3 (fun _=>.bad)
 | n+1=>Q7 3 (Ub ((Xt n)))
def H9:List L→FRes:=(Xt 40)
def Z5 (Zo:List L→FRes):SM:=(sFg [2]
 (Ql (sIf (tBl (eOp eqD (eOp ixD (Qi 2) (eC (.int 0))) (eC (.str "both"))))
 (Ql (Xl (Qg 1) (eOp Kk (Q9 2 Zo (Qf (eOp ixD (Qi 2) (eC (.int 1))) (Qf (Qi 1) Qx))) (Q9 2 Zo (Qf (eOp ixD (Qi 2) (eC (.int 2))) (Qf (Qi 1) Qx)))))
 Qw)
 Qw)
 Qw))
def Xh (Zo:List L→FRes):SM:=(Ql (N7 (Ge (Qi 0)) (Qg 2)
 (Z5 Zo))
 (Ql (J3 (Qi 1))
 Qw))
def Zs:Nat→(List L→FRes)
 | 0=>Q7 3 (fun _=>.bad)
 | n+1=>Q7 3 (Xh ((Zs n)))
def Yl:List L→FRes:=(Zs 40)
def Kb:SM:=(Ql (sIf (tBl (eOp gtD (Q9 1 H9 (Qf (Qi 1) Qx)) (eC (.int 6))))
 (Ql (Uz "TooLarge" "what" (Qf (eC (.str "depth")) Qx))
 Qw)
 Qw)
 (Ql (sIf (tBl (eOp gtD (Q9 1 V7 (Qf (Qi 1) Qx)) (eC (.int 24))))
 (Ql (Uz "TooLarge" "what" (Qf (eC (.str "parts")) Qx))
 Qw)
 Qw)
 (Ql (Xl (Qg 2) (Q9 2 Yl (Qf (Qi 1) (Qf (eC (.int 1)) Qx))))
 (Ql (sIf (tBl (eOp gtD (Qi 2) (eC (.int 16))))
 (Ql (Uz "TooLarge" "what" (Qf (eC (.str "leaves")) Qx))
 Qw)
 Qw)
 (Ql (Bv ["Feed"] "_parts" 0 (Qi 1))
 (Ql (Bv ["Feed"] "_leaves" 0 (Qi 2))
 Qw))))))
def Jp:List L→FRes:=Q7 3 Kb
def V0 (Ju Zm:List L→FRes):SM:=(Ql (Bw (eOp ixD (Qi 0) (eC (.int 0)))
 (Px "same" (Ql (J3 (Qi 1))
 Qw)
 (Px "turn" (Ql (J3 (Q9 1 Vt (Qf (Qi 1) Qx)))
 Qw)
 (Px "each" (Ql (J3 (Q9 3 W9 (Qf (Qi 1) (Qf (eOp ixD (Qi 0) (eC (.int 1))) (Qf (eOp ixD (Qi 0) (eC (.int 2))) Qx)))))
 Qw)
 (Px "both" (Ql (J3 (eOp Kk (Q9 2 Zm (Qf (eOp ixD (Qi 0) (eC (.int 1))) (Qf (Qi 1) Qx))) (Q9 2 Zm (Qf (eOp ixD (Qi 0) (eC (.int 2))) (Qf (Qi 1) Qx)))))
 Qw)
 (qaX (Ql (Xl (P0 2 (Zv (Qg 2) (Zv (Qg 3) Mq))) (Q9 2 Vr (Qf (Qi 0) (Qf (Q9 1 Y1 (Qf (Qi 1) Qx)) Qx))))
 (Ql (J3 (Q9 3 Ul (yk 1 2 [] [.p 0,.k 0,.k 1] (Qf (Qi 1) Qx) (Qf (Qi 2) (Qf (Qi 3) Qx)))))
 Qw))))))))
 Qw)
def J6 (Ju Zm:List L→FRes):SM:=(sFg [2]
 (Ql (Xl (Qg 1) (Q9 2 Ju (Qf (Qi 2) (Qf (Qi 1) Qx))))
 Qw))
def Vz (Ju Zm:List L→FRes):SM:=(Ql (N7 (Ge (Qi 0)) (Qg 2)
 (J6 Ju Zm))
 (Ql (J3 (Qi 1))
 Qw))
def Q1:Nat→(List L→FRes)×(List L→FRes)
 | 0=>(Q7 4 (fun _=>.bad),Q7 3 (fun _=>.bad))
 | n+1=>(Q7 4 (V0 ((Q1 n).1) ((Q1 n).2)),Q7 3 (Vz ((Q1 n).1) ((Q1 n).2)))
def qaK:List L→FRes:=(Q1 40).1
def Wc:List L→FRes:=(Q1 40).2
def Wb:MTb:=[("Numbers",Vf)]
def Jy (Zt Zb:List L→FRes):SM:=(Ql (Bw (eOp ixD (Qi 0) (eC (.int 0)))
 (Px "same" (Ql (J3 (Qi 1))
 Qw) (Px "turn" (Ql (J3 (Qi 1))
 Qw)
 (Px "each" (Ql (J3 (Q9 2 Y3 (Qf (eOp ixD (Qi 0) (eC (.int 1))) (Qf (Qi 1) Qx))))
 Qw)
 (Px "block" (Ql (J3 (Q9 2 X6 (Qf (eOp ixD (Qi 0) (eC (.int 1))) (Qf (Qi 1) Qx))))
 Qw)
 (Px "both" (Ql (J3 (qhV Wb (Q9 2 Zb (Qf (eOp ixD (Qi 0) (eC (.int 1))) (Qf (Qi 1) Qx))) (Q9 2 Zb (Qf (eOp ixD (Qi 0) (eC (.int 2))) (Qf (Qi 1) Qx)))))
 Qw)
 (qaX (Ql (J3 (Q9 2 Ym (Qf (eOp ixD (Qi 0) (eC (.int 1))) (Qf (Qi 1) Qx))))
 Qw))))))))
 Qw)
def Jf (Zt Zb:List L→FRes):SM:=(sFg [2]
 (Ql (Xl (Qg 1) (Q9 2 Zt (Qf (Qi 2) (Qf (Qi 1) Qx))))
 Qw))
def Ya (Zt Zb:List L→FRes):SM:=(Ql (N7 (Ge (Qi 0)) (Qg 2)
 (Jf Zt Zb))
 (Ql (J3 (Qi 1))
 Qw))
def Qp:Nat→(List L→FRes)×(List L→FRes)
 | 0=>(Q7 2 (fun _=>.bad),Q7 3 (fun _=>.bad))
 | n+1=>(Q7 2 (Jy ((Qp n).1) ((Qp n).2)),Q7 3 (Ya ((Qp n).1) ((Qp n).2)))
def I0:List L→FRes:=(Qp 40).1
def Vd:List L→FRes:=(Qp 40).2
def Y9:SM:=(Ql (J3 (Q9 2 Wc (Qf (Ma ["Feed"] "_parts" (Qi 0)) (Qf (Q9 1 Kw (Qf (Qi 1) Qx)) Qx))))
 Qw)
def Y7:List L→FRes:=Q7 2 Y9
def Tc:MTb:=[("Feed",Mm)]
def Hb:SM:=(Ql (J3 (Q9 2 Vd (Qf (qkD Tc (Qi 0)) (Qf (eF (fMk "Numbers" 6 Qm (yk 0 0 [(.int 1),(.int 1),(.int 0),(.int 1),(.int 1)] [.m 0,.m 1,.m 2,.m 3,.m 4] Qx Qx))) Qx))))
 Qw)
def Xn:List L→FRes:=Q7 1 Hb
def Zr:MTb:=[("Feed",Y7)]
def Pb:SM:=(sFg [4]
 (Ql (qaH 2 (eOp ixD (Qi 4) (eC (.int 0))) (eC (.bl true)))
 (Ql (qaH 2 (Q9 1 Y2 (Qf (Qi 4) Qx)) (eC (.bl true)))
 Qw)))
def Pa:SM:=(sFg [3]
 (Ql (N7 (Ge (yb Zr "strands_at" 2 (Qi 3) (Qf (Qi 0) Qx))) (Qg 4)
 Pb)
 Qw))
def Sh:SM:=(Ql (sIf (tBl (eOp ltD (Qi 0) (eC (.int 0))))
 (Ql (Uz "BadLength" "length" (Qf (Qi 0) Qx))
 Qw)
 Qw)
 (Ql (sIf (tBl (eOp eqD (Qi 0) (eC (.int 0))))
 (Ql (Iy (O7 Qx))
 Qw)
 Qw)
 (Ql (Pw 2 (fDp (Ov (eC (.int 0)) (eC (.bl true)) (Ov (eOp Gn (Qi 0) (eC (.int 1))) (eC (.bl true)) qdT))))
 (Ql (N7 (Ge (Qi 1)) (Qg 3)
 Pa)
 (Ql (Iy (fCB Lr (Qf (eF (fCB qd9 (Qf (Qi 2) Qx))) Qx)))
 Qw)))))
def H8:List L→FRes:=Q7 5 Sh
def je:SM:=(sFg [2]
 (Ql (Xl (Qg 1) (qhV Wb (Qi 1) (Q9 1 Xn (Qf (Qi 2) Qx))))
 Qw))
def Ng:SM:=(Ql (Xl (Qg 1) (Q9 1 Xn (Qf (eOp ixD (Qi 0) (eC (.int 0))) Qx)))
 (Ql (N7 (Ge (eSl slD (Qi 0) (Fc (eC (.int 1))) xk)) (Qg 2)
 je)
 (Ql (J3 (Qi 1))
 Qw)))
def W8:List L→FRes:=Q7 3 Ng
def Hk:SM:=(sFg [8]
 (Ql (Kj (D2 4 (Gg (Qf (eOp Kk (Qi 6) (Qi 8)) (Qf (Qi 3) (Qf (eOp Kk (eOp Np (eOp Gn (Qi 7) (Qi 8)) (Qi 3)) (eC (.int 1))) Qx))))))
 Qw))
def V2:SM:=(sFg [5,6]
 (Ql (Kj (D2 4 (Gg (Qf (Qi 6) (Qf (Qi 3) (Qf (eC (.int 1)) Qx))))))
 (Ql (sFg [7] (sIf (tBl (eOp ltD (eOp Kk (Qi 5) (eC (.int 1))) (eCB Oa (Qf (Qi 2) Qx))))
 (Ql (Xl (Qg 7) (eOp Gn (eOp Gn (eOp ixD (Qi 2) (eOp Kk (Qi 5) (eC (.int 1)))) (Qi 6)) (eC (.int 1))))
 (Ql (N7 (qaY (Qf (eC (.int 1)) (Qf (eOp Kk (eCB An (Qf (Qi 3) (Qf (Qi 7) Qx))) (eC (.int 1))) Qx))) (Qg 8)
 Hk)
 Qw))
 Qw))
 Qw)))
def Nk:SM:=(Ql (Xl (Qg 2) (Sb 1 H8 (Qf (Qi 0) (yj (Qi 1) Qx))))
 (Ql (Xl (Qg 3) (Ma ["Numbers"] "stride" (Sb 0 W8 (yj (Qi 1) Qx))))
 (Ql (Pw 4 (O7 Qx))
 (Ql (N7 (mEn (Qi 2)) (P0 2 (Zv (Qg 5) (Zv (Qg 6) Mq)))
 V2)
 (Ql (J3 (Qi 4))
 Qw)))))
def Ua:List L→FRes:=Q7 9 Nk
def qeH:SM:=(Ql (Pw 1 (x8 1 Y4 (Qf (Qi 0) Qx)))
 (Ql (Xl (Qg 2) (Q9 2 Xs (Qf (Q9 5 Kz (Qf (Qi 1) (Qf (eOp Kk (eC (.int 1)) (Q9 2 Qz (Qf (Qi 1) (Qf (eC (.int 6)) Qx)))) (Qf (eC (.int 2)) (Qf (eC (.int 9)) (Qf (eC (.int 3)) Qx)))))) (Qf (eC (.int 12)) Qx))))
 (Ql (Xl (Qg 3) (eF (fMk "Feed" 2 Jp (qh1 (Qf (Q9 1 Vv (Qf (Qi 2) Qx)) Qx) []))))
 (Ql (Xl (Qg 4) (Q9 2 Qz (Qf (Qi 1) (Qf (eC (.int 31)) Qx))))
 (Ql (Xl (Qg 5) (yb Zr "strands_at" 2 (Qi 3) (Qf (Qi 4) Qx)))
 (Ql (sIf (mOr (El (Ek (Q9 1 Z8 (Qf (Qi 5) Qx)))) (El (Ek (Q9 4 Jl (Qf (Qi 2) (Qf (Qi 4) (Qf (Qi 5) (Qf (eF (fLR (rB1 (Qi 4)))) Qx))))))))
 (Ql (J3 (eC (.bl false)))
 Qw)
 Qw)
 (Ql (Xl (Qg 6) (eOp Kk (eC (.int 1)) (Q9 2 Ky (Qf (Qi 1) (Qf (eC (.int 18)) Qx)))))
 (Ql (Xl (Qg 5) (yb Zr "strands_at" 2 (Qi 3) (Qf (Qi 6) Qx)))
 (Ql (Xl (Qg 7) (Sb 1 Ua (Qf (Qi 6) (Qf (Qi 3) Qx))))
 (Ql (sIf (mOr (El (Ek (Q9 1 Z8 (Qf (Qi 5) Qx)))) (mOr (El (Ek (qdx "list" (Qi 7)))) (El (Ek (Q9 1 Z8 (Qf (eCB Bi (Qf (Qi 7) Qx)) Qx))))))
 (Ql (J3 (eC (.bl false)))
 Qw)
 Qw)
 (Ql (J3 (Q9 4 Jl (Qf (Qi 2) (Qf (Qi 6) (Qf (Qi 5) (Qf (Q9 1 X8 (Qf (Qi 7) Qx)) Qx))))))
 Qw)))))))))))
def qdN:List L→FRes:=Q7 8 qeH
structure Txt (P:Program) (K:PySem.W.Frag) (mg:Str→Option Value):Prop where
 qpy:mg "abs"=none
 qkW:mg "bool"=none
 qeO:mg "divmod"=none
 Lb:mg "enumerate"=none
 Ei:mg "int"=none
 Yp:mg "isinstance"=none
 Nq:mg "len"=none
 qav:mg "list"=none
 qdi:mg "max"=none
 qbi:mg "min"=none
 Us:mg "range"=none
 qau:mg "sorted"=none
 qpx:mg "sum"=none
 G9:mg "tuple"=none
 qcA:mg "lcm"=some (.builtin "math.lcm")
 F1:ErrF P K mg "BadLength" "length"
 Nf:ErrF P K mg "BadPlace" "place"
 Cs:ErrF P K mg "TooLarge" "what"
 A2:mg "last_member"=some (.ref (cA K "last_member"))
 qa6:mg "place_in"=some (.ref (cA K "place_in"))
 Fw:mg "strand_turned"=some (.ref (cA K "strand_turned"))
 A1:mg "strand_each"=some (.ref (cA K "strand_each"))
 zi:mg "strand_cut"=some (.ref (cA K "strand_cut"))
 qa4:mg "row_size"=some (.ref (cA K "row_size"))
 zh:mg "stretch_of"=some (.ref (cA K "stretch_of"))
 xy:mg "whole_row"=some (.ref (cA K "whole_row"))
 A4:mg "_law_stream"=some (.ref (cA K "_law_stream"))
 x6:mg "_law_draw"=some (.ref (cA K "_law_draw"))
 A6:mg "_law_onward"=some (.ref (cA K "_law_onward"))
 zp:mg "_law_parts"=some (.ref (cA K "_law_parts"))
 Fx:mg "_law_multiple"=some (.ref (cA K "_law_multiple"))
 zq:mg "_law_moved"=some (.ref (cA K "_law_moved"))
 Dz:mg "_law_is_number"=some (.ref (cA K "_law_is_number"))
 Oh:mg "_law_members"=some (.ref (cA K "_law_members"))
 Oi:mg "_law_ascends"=some (.ref (cA K "_law_ascends"))
 zj:mg "row_turned"=some (.ref (cA K "row_turned"))
 qa5:mg "row_each"=some (.ref (cA K "row_each"))
 qcE:mg "row_cut"=some (.ref (cA K "row_cut"))
 qcF:mg "holders"=some (.ref (cA K "holders"))
 x4:mg "_law_long"=some (.ref (cA K "_law_long"))
 A5:mg "_law_simple"=some (.ref (cA K "_law_simple"))
 A9:mg "_law_behind"=some (.ref (cA K "_law_behind"))
 zo:mg "_law_spots"=some (.ref (cA K "_law_spots"))
 A8:mg "_law_is_row"=some (.ref (cA K "_law_is_row"))
 T8:mg "_law_are_holders"=some (.ref (cA K "_law_are_holders"))
 zl:mg "behind_cut"=some (.ref (cA K "behind_cut"))
 A3:mg "behind_each"=some (.ref (cA K "behind_each"))
 Od:mg "behind_block"=some (.ref (cA K "behind_block"))
 x7:mg "_law_code"=some (.ref (cA K "_law_code"))
 Og:mg "_law_numbers"=some (.ref (cA K "_law_numbers"))
 Oe:mg "_law_ordered"=some (.ref (cA K "_law_ordered"))
 A7:mg "_law_narrow"=some (.ref (cA K "_law_narrow"))
 T6:mg "count_parts"=some (.ref (cA K "count_parts"))
 O5:mg "depth_of"=some (.ref (cA K "depth_of"))
 Mr:mg "leaves_behind"=some (.ref (cA K "leaves_behind"))
 O4:mg "part_row"=some (.ref (cA K "part_row"))
 Dc:mg "row_behind"=some (.ref (cA K "row_behind"))
 T7:mg "behind_part"=some (.ref (cA K "behind_part"))
 N9:mg "behind_parts"=some (.ref (cA K "behind_parts"))
 zk:mg "numbers_of"=some (.ref (cA K "numbers_of"))
 qcG:mg "ends_at"=some (.ref (cA K "ends_at"))
 qa3:mg "together"=some (.ref (cA K "together"))
 qa7:mg "cells_at"=some (.ref (cA K "cells_at"))
 qoM:mg "law"=some (.ref (cA K "law"))
 qjm:Cls K (cA K "Feed")
 Co:Meth K (cA K "Feed") "strands_at" (maA K "Feed" "strands_at")
 Cc:CvC K "Feed" "MOST_DEPTH" (.int 6)
 Tb:CvC K "Feed" "MOST_LEAVES" (.int 16)
 Cb:CvC K "Feed" "MOST_PARTS" (.int 24)
 qa2:qmx K "Numbers" Gx
 qcP:qbq K "_leaves" ["Feed"]
 Eb:qbq K "_parts" ["Feed"]
 We:qbq K "divisor" ["Numbers"]
 Gf:qbq K "modulus" ["Numbers"]
 Cq:qbq K "reach" ["Numbers"]
 Nd:qbq K "spread" ["Numbers"]
 K4:qbq K "stride" ["Numbers"]
 qgD:Mk K (cA K "Feed") (maA K "Feed" "__init__")
 Oy:Mk K (cA K "Numbers") (maA K "Numbers" "__init__")
 E8:Cls K (cA K "Feed")∧PropOf K (cA K "Feed") "parts" (maA K "Feed" "parts") (pgA K "Feed" "parts")
 Cf:OpOk K "Numbers" "__or__" (maA K "Numbers" "__or__")
 qat:mg "Feed"=some (.ref (cA K "Feed"))
 F6:mg "Numbers"=some (.ref (cA K "Numbers"))
theorem qtJ {K:PySem.W.Frag} (fd:FuncData) (F:FunD K "strand_cut" "strand_cut" (defArgs Z0) (defBody Z0) (defScope Z0) [] ([("begin",(.int 0)),("end",.non)]:List (Str×V)) (cA K "strand_cut") fd):∃g,KBn K fd (["strand","begin","end"]:List Str) 1 (["begin","end"]:List Str) g (fun vs zs=>gS [.p 0,.k 0,.k 1] vs (([]:List D).map cV) zs):=
 kb0 F 1 ["begin","end"] ([]:List (Str×V)) [.p 0,.k 0,.k 1] (by simp) (by simp) (fun D doc pm an cdv ct us mv ws l1 l2 l3=>match us,mv,ws,l1,l2,l3 with | [_],[],[_,_],_,_,_=>rfl)
theorem qtI {K:PySem.W.Frag} (fd:FuncData) (F:FunD K "row_cut" "row_cut" (defArgs Xv) (defBody Xv) (defScope Xv) [] ([("begin",(.int 0)),("end",.non)]:List (Str×V)) (cA K "row_cut") fd):∃g,KBn K fd (["row","begin","end"]:List Str) 1 (["begin","end"]:List Str) g (fun vs zs=>gS [.p 0,.k 0,.k 1] vs (([]:List D).map cV) zs):=
 kb0 F 1 ["begin","end"] ([]:List (Str×V)) [.p 0,.k 0,.k 1] (by simp) (by simp) (fun D doc pm an cdv ct us mv ws l1 l2 l3=>match us,mv,ws,l1,l2,l3 with | [_],[],[_,_],_,_,_=>rfl)
theorem Ui:FnScope ["self","divisor","modulus","spread","stride","reach"] ["self","divisor","modulus","spread","stride","reach"] (defScope Zf):=⟨rfl,rfl,rfl,by decide +kernel,rfl,by decide +kernel,by decide +kernel⟩
theorem Rn {P:Program} {w:World} {K:PySem.W.Frag} {mg:Str→Option Value} {base:Heap} (F:∃fd,FunD K "__init__" "Numbers.__init__" (defArgs Zf) (defBody Zf) (defScope Zf) [] ([("divisor",(.int 1)),("modulus",(.int 1)),("spread",(.int 0)),("stride",(.int 1)),("reach",(.int 1))]:List (Str×V)) (maA K "Numbers" "__init__") fd) (T:Txt P K mg):FnMW P w K mg base 1 "Numbers" "__init__" "Numbers.__init__" Zf ([("divisor",(.int 1)),("modulus",(.int 1)),("spread",(.int 0)),("stride",(.int 1)),("reach",(.int 1))]:List (Str×V)) ["self","divisor","modulus","spread","stride","reach"] Qm:=by
 have nd:=Ui.nd;refine qg7 (P:=P) (w:=w) (K:=K) (mg:=mg) (base:=base) (C:="Numbers") (m:="__init__") (qual:="Numbers.__init__") (st:=Zf) (kws:=([("divisor",(.int 1)),("modulus",(.int 1)),("spread",(.int 0)),("stride",(.int 1)),("reach",(.int 1))]:List (Str×V))) (N:=["self","divisor","modulus","spread","stride","reach"]) (ps:=["self","divisor","modulus","spread","stride","reach"]) (k:=0) (body:=Yg) F Ui (fun cdv A outer s H E hr=>?_);unfold Yg;refine Qb ?_ ?_;refine Ru (i:=0) T.We ?_;refine Qa (i:=1);refine Qb ?_ ?_;refine Ru (i:=0) T.Gf ?_;refine Qa (i:=2);refine Qb ?_ ?_;refine Ru (i:=0) T.Nd ?_;refine Qa (i:=3);refine Qb ?_ ?_;refine Ru (i:=0) T.K4 ?_;refine Qa (i:=4);refine Qb ?_ ?_;refine Ru (i:=0) T.Cq ?_;refine Qa (i:=5);refine Qd
theorem Nv:FnScope ["strand","begin","step","count"] ["strand"] (defScope Yt):=⟨rfl,rfl,rfl,by decide +kernel,rfl,by decide +kernel,by decide +kernel⟩
theorem Lu {P:Program} {w:World} {K:PySem.W.Frag} {mg:Str→Option Value} {base:Heap} (F:FnF K "last_member" Yt) (T:Txt P K mg):FnB P w K mg base 1 "last_member" ["strand"] Y2:=by
 have nd:=Nv.nd;refine Zg (P:=P) (w:=w) (K:=K) (mg:=mg) (base:=base) (x:="last_member") (st:=Yt) (N:=["strand","begin","step","count"]) (ps:=["strand"]) (k:=0) (body:=Wv) F T.A2 Nv (fun _ _ _ _ _ _ us hl=>match us,hl with | [_],_=>rfl) (fun cdv A outer s H E hr=>?_);unfold Wv;refine Qb ?_ ?_;refine C7 (js:=([1]++([2]++([3]++[])))) ?_ ?_;refine Qa (i:=0);refine T4 rfl ?_;refine Zn ?_ ?_;refine Qy (i:=1) nd;refine Zn ?_ ?_;refine Qy (i:=2) nd;refine Zn ?_ ?_;refine Qy (i:=3) nd;refine Gw;refine Qb ?_ ?_;refine Qv ?_;refine Qo Q2 ?_ ?_;refine Qa (i:=1);refine Qo Za ?_ ?_;refine Qa (i:=2);refine Qo Zl ?_ ?_;refine Qa (i:=3);refine Qe;refine Qd
theorem Bt:FnScope ["strand","index","begin","step","count","place","left"] ["strand","index"] (defScope W6):=⟨rfl,rfl,rfl,by decide +kernel,rfl,by decide +kernel,by decide +kernel⟩
theorem xb {P:Program} {w:World} {K:PySem.W.Frag} {mg:Str→Option Value} {base:Heap} (F:FnF K "place_in" W6) (T:Txt P K mg):FnB P w K mg base 1 "place_in" ["strand","index"] Jt:=by
 have nd:=Bt.nd;refine Zg (P:=P) (w:=w) (K:=K) (mg:=mg) (base:=base) (x:="place_in") (st:=W6) (N:=["strand","index","begin","step","count","place","left"]) (ps:=["strand","index"]) (k:=0) (body:=Nj) F T.qa6 Bt (fun _ _ _ _ _ _ us hl=>match us,hl with | [_,_],_=>rfl) (fun cdv A outer s H E hr=>?_);unfold Nj;refine Qb ?_ ?_;refine C7 (js:=([2]++([3]++([4]++[])))) ?_ ?_;refine Qa (i:=0);refine T4 rfl ?_;refine Zn ?_ ?_;refine Qy (i:=2) nd;refine Zn ?_ ?_;refine Qy (i:=3) nd;refine Zn ?_ ?_;refine Qy (i:=4) nd;refine Gw;refine Qb ?_ ?_;refine C7 (js:=([5]++([6]++[]))) ?_ ?_;refine V4 qbd T.qeO (by first | boot_by_name | rfl | kernel_rfl) ?_;refine Qc ?_ ?_;refine Qo Zl ?_ ?_;refine Qa (i:=1);refine Qa (i:=2);refine Qc ?_ ?_;refine Qa (i:=3);refine Qh;refine T4 rfl ?_;refine Zn ?_ ?_;refine Qy (i:=5) nd;refine Zn ?_ ?_;refine Qy (i:=6) nd;refine Gw;refine Qb ?_ ?_;refine Zk ?_ ?_ ?_;refine Av ?_;refine Py ?_ ?_;refine Qt (j6 hr.units) ?_ ?_;refine Qa (i:=6);refine Qe;refine Py ?_ ?_;refine Qt U1 ?_ ?_;refine Qa (i:=5);refine Qe;refine Ur (op:=?_);refine Qt qd ?_ ?_;refine Qa (i:=5);refine Qa (i:=4);refine Qb ?_ ?_;refine Qv ?_;refine Fs;refine Qd;refine Qd;refine Qb ?_ ?_;refine Qv ?_;refine Qa (i:=5);refine Qd
theorem Pn:FnScope ["strand","begin","step","count"] ["strand"] (defScope Xc):=⟨rfl,rfl,rfl,by decide +kernel,rfl,by decide +kernel,by decide +kernel⟩
theorem Ds {P:Program} {w:World} {K:PySem.W.Frag} {mg:Str→Option Value} {base:Heap} (F:FnF K "strand_turned" Xc) (T:Txt P K mg):FnB P w K mg base 1 "strand_turned" ["strand"] Jo:=by
 have nd:=Pn.nd;refine Zg (P:=P) (w:=w) (K:=K) (mg:=mg) (base:=base) (x:="strand_turned") (st:=Xc) (N:=["strand","begin","step","count"]) (ps:=["strand"]) (k:=0) (body:=V8) F T.Fw Pn (fun _ _ _ _ _ _ us hl=>match us,hl with | [_],_=>rfl) (fun cdv A outer s H E hr=>?_);unfold V8;refine Qb ?_ ?_;refine C7 (js:=([1]++([2]++([3]++[])))) ?_ ?_;refine Qa (i:=0);refine T4 rfl ?_;refine Zn ?_ ?_;refine Qy (i:=1) nd;refine Zn ?_ ?_;refine Qy (i:=2) nd;refine Zn ?_ ?_;refine Qy (i:=3) nd;refine Gw;refine Qb ?_ ?_;refine Qv ?_;refine Z7 ?_;refine Qc ?_ ?_;refine Qo Q2 ?_ ?_;refine Qa (i:=1);refine Qo Za ?_ ?_;refine Qa (i:=2);refine Qo Zl ?_ ?_;refine Qa (i:=3);refine Qe;refine Qc ?_ ?_;refine Ws Jh ?_;refine Qa (i:=2);refine Qc ?_ ?_;refine Qa (i:=3);refine Qh;refine Qd
theorem Nu:FnScope ["strand","k","i","begin","step","count"] ["strand","k","i"] (defScope Ys):=⟨rfl,rfl,rfl,by decide +kernel,rfl,by decide +kernel,by decide +kernel⟩
theorem Ls {P:Program} {w:World} {K:PySem.W.Frag} {mg:Str→Option Value} {base:Heap} (F:FnF K "strand_each" Ys) (T:Txt P K mg):FnB P w K mg base 1 "strand_each" ["strand","k","i"] Y0:=by
 have nd:=Nu.nd;refine Zg (P:=P) (w:=w) (K:=K) (mg:=mg) (base:=base) (x:="strand_each") (st:=Ys) (N:=["strand","k","i","begin","step","count"]) (ps:=["strand","k","i"]) (k:=0) (body:=Wu) F T.A1 Nu (fun _ _ _ _ _ _ us hl=>match us,hl with | [_,_,_],_=>rfl) (fun cdv A outer s H E hr=>?_);unfold Wu;refine Qb ?_ ?_;refine C7 (js:=([3]++([4]++([5]++[])))) ?_ ?_;refine Qa (i:=0);refine T4 rfl ?_;refine Zn ?_ ?_;refine Qy (i:=3) nd;refine Zn ?_ ?_;refine Qy (i:=4) nd;refine Zn ?_ ?_;refine Qy (i:=5) nd;refine Gw;refine Qb ?_ ?_;refine Zk ?_ ?_ ?_;refine Qt qd ?_ ?_;refine Qa (i:=2);refine Qa (i:=5);refine Qb ?_ ?_;refine Qv ?_;refine Fs;refine Qd;refine Qd;refine Qb ?_ ?_;refine Qv ?_;refine Z7 ?_;refine Qc ?_ ?_;refine Qo Q2 ?_ ?_;refine Qa (i:=3);refine Qo Za ?_ ?_;refine Qa (i:=4);refine Qa (i:=2);refine Qc ?_ ?_;refine Qo Za ?_ ?_;refine Qa (i:=4);refine Qa (i:=1);refine Qc ?_ ?_;refine Qo Vg ?_ ?_;refine Qo Zl ?_ ?_;refine Qo Q2 ?_ ?_;refine Qo Zl ?_ ?_;refine Qa (i:=5);refine Qa (i:=2);refine Qa (i:=1);refine Qe;refine Qa (i:=1);refine Qh;refine Qd
theorem Th:FnScope ["strand","begin","end","first","step","count"] ["strand","begin","end"] (defScope Z0):=⟨rfl,rfl,rfl,by decide +kernel,rfl,by decide +kernel,by decide +kernel⟩
theorem Ad {P:Program} {w:World} {K:PySem.W.Frag} {mg:Str→Option Value} {base:Heap} (F:qpE K "strand_cut" Z0 [] [("begin",(.int 0)),("end",.non)]) (T:Txt P K mg):FnK P w K mg base 1 "strand_cut" Z0 [] [("begin",(.int 0)),("end",.non)] ["strand","begin","end"] Vs:=by
 have nd:=Th.nd;refine qfo (P:=P) (w:=w) (K:=K) (mg:=mg) (base:=base) (x:="strand_cut") (st:=Z0) (dvs:=[]) (kws:=[("begin",(.int 0)),("end",.non)]) (N:=["strand","begin","end","first","step","count"]) (ps:=["strand","begin","end"]) (k:=0) (body:=U9) F T.zi Th (fun cdv A outer s H E hr=>?_);unfold U9;refine Qb ?_ ?_;refine C7 (js:=([3]++([4]++([5]++[])))) ?_ ?_;refine Qa (i:=0);refine T4 rfl ?_;refine Zn ?_ ?_;refine Qy (i:=3) nd;refine Zn ?_ ?_;refine Qy (i:=4) nd;refine Zn ?_ ?_;refine Qy (i:=5) nd;refine Gw;refine Qb ?_ ?_;refine Zk ?_ ?_ ?_;refine Qt qe2 ?_ ?_;refine Qa (i:=2);refine Fs;refine Qb ?_ ?_;refine Q5 (i:=2) nd ?_;refine Qa (i:=5);refine Qd;refine Qd;refine Qb ?_ ?_;refine Zk ?_ ?_ ?_;refine Av ?_;refine Py ?_ ?_;refine Qt U1 ?_ ?_;refine Qa (i:=1);refine Qe;refine Ur (op:=?_);refine Qt Uo ?_ ?_;refine Qa (i:=1);refine Qa (i:=5);refine Qb ?_ ?_;refine Wq T.Nf.txt rfl hr (takes_of rfl rfl rfl rfl) ?_;refine Qc ?_ ?_;refine Qa (i:=1);refine Qh;refine Qd;refine Qd;refine Qb ?_ ?_;refine Zk ?_ ?_ ?_;refine Av ?_;refine Py ?_ ?_;refine Qt U1 ?_ ?_;refine Qa (i:=2);refine Qa (i:=1);refine Ur (op:=?_);refine Qt Uo ?_ ?_;refine Qa (i:=2);refine Qa (i:=5);refine Qb ?_ ?_;refine Wq T.Nf.txt rfl hr (takes_of rfl rfl rfl rfl) ?_;refine Qc ?_ ?_;refine Qa (i:=2);refine Qh;refine Qd;refine Qd;refine Qb ?_ ?_;refine Zk ?_ ?_ ?_;refine Qt (Q8 hr.units) ?_ ?_;refine Qa (i:=1);refine Qa (i:=2);refine Qb ?_ ?_;refine Qv ?_;refine Fs;refine Qd;refine Qd;refine Qb ?_ ?_;refine Qv ?_;refine Z7 ?_;refine Qc ?_ ?_;refine Qo Q2 ?_ ?_;refine Qa (i:=3);refine Qo Za ?_ ?_;refine Qa (i:=4);refine Qa (i:=1);refine Qc ?_ ?_;refine Qa (i:=4);refine Qc ?_ ?_;refine Qo Zl ?_ ?_;refine Qa (i:=2);refine Qa (i:=1);refine Qh;refine Qd
theorem Br:FnScope ["row","strand"] ["row"] (defScope Kq):=⟨rfl,rfl,rfl,by decide +kernel,rfl,by decide +kernel,by decide +kernel⟩
theorem j8 {P:Program} {w:World} {K:PySem.W.Frag} {mg:Str→Option Value} {base:Heap} (F:FnF K "row_size" Kq) (T:Txt P K mg):FnB P w K mg base 1 "row_size" ["row"] Y1:=by
 have nd:=Br.nd;refine Zg (P:=P) (w:=w) (K:=K) (mg:=mg) (base:=base) (x:="row_size") (st:=Kq) (N:=["row","strand"]) (ps:=["row"]) (k:=0) (body:=Nh) F T.qa4 Br (fun _ _ _ _ _ _ us hl=>match us,hl with | [_],_=>rfl) (fun cdv A outer s H E hr=>?_);unfold Nh;refine Qb ?_ ?_;refine Qv ?_;refine V4 (qhl rfl) T.qpx qkT ?_;refine Qc ?_ ?_;refine qa1 ?_;refine qei rfl nd (own:=[("strand",1)]) ?_ ?_ (fun _ _ _ _ _=>?_) (Vm 1) (by decide) (fun _ _ _ _ _=>?_);refine Xg ?_;refine Qa (i:=0);refine blkOk_by (N:=["row","strand"]) (sc:=defScope Kq) (own:=[("strand",1)]) (by decide +kernel);refine pg_name (i:=1) nd rfl (by first | exact .inl rfl | exact .inr rfl);refine Qr ?_ ?_;refine Qa (i:=1);refine Qe;refine Qh;refine Qd
theorem Tf:FnScope ["part","size","few"] ["part","size"] (defScope Vn):=⟨rfl,rfl,rfl,by decide +kernel,rfl,by decide +kernel,by decide +kernel⟩
theorem Ac {P:Program} {w:World} {K:PySem.W.Frag} {mg:Str→Option Value} {base:Heap} (F:FnF K "stretch_of" Vn) (T:Txt P K mg):FnB P w K mg base 1 "stretch_of" ["part","size"] Vr:=by
 have nd:=Tf.nd;refine Zg (P:=P) (w:=w) (K:=K) (mg:=mg) (base:=base) (x:="stretch_of") (st:=Vn) (N:=["part","size","few"]) (ps:=["part","size"]) (k:=0) (body:=U8) F T.zh Tf (fun _ _ _ _ _ _ us hl=>match us,hl with | [_,_],_=>rfl) (fun cdv A outer s H E hr=>?_);unfold U8;refine Qb ?_ ?_;refine Zk ?_ ?_ ?_;refine Qt (Q8 hr.units) ?_ ?_;refine Qr ?_ ?_;refine Qa (i:=0);refine Qe;refine Zj;refine Qb ?_ ?_;refine Qv ?_;refine Z7 ?_;refine Qc ?_ ?_;refine Qo Vg ?_ ?_;refine Qo Za ?_ ?_;refine Qr ?_ ?_;refine Qa (i:=0);refine Qe;refine Qa (i:=1);refine Qr ?_ ?_;refine Qa (i:=0);refine Qe;refine Qc ?_ ?_;refine Qo Vg ?_ ?_;refine Qo Za ?_ ?_;refine Qo Q2 ?_ ?_;refine Qr ?_ ?_;refine Qa (i:=0);refine Qe;refine Qe;refine Qa (i:=1);refine Qr ?_ ?_;refine Qa (i:=0);refine Qe;refine Qh;refine Qd;refine Qd;refine Qb ?_ ?_;refine Q5 (i:=2) nd ?_;refine V4 (Nl rfl) T.qbi Ia ?_;refine Qc ?_ ?_;refine Qr ?_ ?_;refine Qa (i:=0);refine Qe;refine Qc ?_ ?_;refine Qa (i:=1);refine Qh;refine Qb ?_ ?_;refine Aw ?_ ?_;refine Qr ?_ ?_;refine Qa (i:=0);refine Qe;refine N8 hr.units ?_ ?_;refine Qb ?_ ?_;refine Qv ?_;refine Z7 ?_;refine Qc ?_ ?_;refine Qe;refine Qc ?_ ?_;refine Qa (i:=2);refine Qh;refine Qd;refine N8 hr.units ?_ ?_;refine Qb ?_ ?_;refine Qv ?_;refine Z7 ?_;refine Qc ?_ ?_;refine Qa (i:=2);refine Qc ?_ ?_;refine Qa (i:=1);refine Qh;refine Qd;refine N8 hr.units ?_ ?_;refine Qb ?_ ?_;refine Qv ?_;refine Z7 ?_;refine Qc ?_ ?_;refine Qo Zl ?_ ?_;refine Qa (i:=1);refine Qa (i:=2);refine Qc ?_ ?_;refine Qa (i:=1);refine Qh;refine Qd;refine qcv ?_;refine Qb ?_ ?_;refine Qv ?_;refine Z7 ?_;refine Qc ?_ ?_;refine Qe;refine Qc ?_ ?_;refine Qo Zl ?_ ?_;refine Qa (i:=1);refine Qa (i:=2);refine Qh;refine Qd;refine Qd
theorem C0:FnScope ["length"] ["length"] (defScope Ko):=⟨rfl,rfl,rfl,by decide +kernel,rfl,by decide +kernel,by decide +kernel⟩
theorem qg {P:Program} {w:World} {K:PySem.W.Frag} {mg:Str→Option Value} {base:Heap} (F:FnF K "whole_row" Ko) (T:Txt P K mg):FnB P w K mg base 1 "whole_row" ["length"] Kw:=by
 have nd:=C0.nd;refine Zg (P:=P) (w:=w) (K:=K) (mg:=mg) (base:=base) (x:="whole_row") (st:=Ko) (N:=["length"]) (ps:=["length"]) (k:=0) (body:=Gz) F T.xy C0 (fun _ _ _ _ _ _ us hl=>match us,hl with | [_],_=>rfl) (fun cdv A outer s H E hr=>?_);unfold Gz;refine Qb ?_ ?_;refine Zk ?_ ?_ ?_;refine Qt U1 ?_ ?_;refine Qa (i:=0);refine Qe;refine Qb ?_ ?_;refine Wq T.F1.txt rfl hr (takes_of rfl rfl rfl rfl) ?_;refine Qc ?_ ?_;refine Qa (i:=0);refine Qh;refine Qd;refine Qd;refine Qb ?_ ?_;refine Zk ?_ ?_ ?_;refine Qt (Q8 hr.units) ?_ ?_;refine Qa (i:=0);refine Qe;refine Qb ?_ ?_;refine Qv ?_;refine Z7 ?_;refine Qh;refine Qd;refine Qd;refine Qb ?_ ?_;refine Qv ?_;refine Z7 ?_;refine Qc ?_ ?_;refine Z7 ?_;refine Qc ?_ ?_;refine Qe;refine Qc ?_ ?_;refine Qe;refine Qc ?_ ?_;refine Qa (i:=0);refine Qh;refine Qh;refine Qd
theorem Ts:FnScope ["self"] ["self"] (defScope Xm):=⟨rfl,rfl,rfl,by decide +kernel,rfl,by decide +kernel,by decide +kernel⟩
theorem Am {P:Program} {w:World} {K:PySem.W.Frag} {mg:Str→Option Value} {base:Heap} (F:∃fd,FunD K "parts" "Feed.parts" (defArgs Xm) (defBody Xm) (defScope Xm) [] [] (pgA K "Feed" "parts") fd) (T:Txt P K mg):FnP P w K mg base 1 "Feed" "parts" 1 Mm:=by
 have nd:=Ts.nd;refine qka (P:=P) (w:=w) (K:=K) (mg:=mg) (base:=base) (C:="Feed") (m:="parts") (x:="parts") (qual:="Feed.parts") (st:=Xm) (N:=["self"]) (ps:=["self"]) (k:=0) (body:=Hi) F Ts (fun _ _ _ _ _ _ us hl=>match us,hl with | [_],_=>rfl) (fun cdv A outer s H E hr=>?_);unfold Hi;refine Qb ?_ ?_;refine Qv ?_;refine Jg T.Eb ?_;refine Qa (i:=0);refine Qd
theorem Nx:FnScope ["_law_script","_law_numbers_here","_law_place","_law_cell","_law_rest","_law_turn","_law_mixed"] ["_law_script"] (defScope Yv):=⟨rfl,rfl,rfl,by decide +kernel,rfl,by decide +kernel,by decide +kernel⟩
theorem Ly {P:Program} {w:World} {K:PySem.W.Frag} {mg:Str→Option Value} {base:Heap} (F:FnF K "_law_stream" Yv) (T:Txt P K mg):FnB P w K mg base 1 "_law_stream" ["_law_script"] Y4:=by
 have nd:=Nx.nd;refine Zg (P:=P) (w:=w) (K:=K) (mg:=mg) (base:=base) (x:="_law_stream") (st:=Yv) (N:=["_law_script","_law_numbers_here","_law_place","_law_cell","_law_rest","_law_turn","_law_mixed"]) (ps:=["_law_script"]) (k:=0) (body:=Wx) F T.A4 Nx (fun _ _ _ _ _ _ us hl=>match us,hl with | [_],_=>rfl) (fun cdv A outer s H E hr=>?_);unfold Wx;refine Qb ?_ ?_;refine K0 (i:=1) nd ?_;refine Wm ?_;refine Qh;refine Qb ?_ ?_;refine J8 (js:=[2]) (passes_of rfl) rfl ?_ ?_ ?_;refine Mp T.Us ?_;refine Qc ?_ ?_;refine V4 (Nl rfl) T.qbi Ia ?_;refine Qc ?_ ?_;refine V4 Vc T.Nq Wn ?_;refine Qc ?_ ?_;refine Qa (i:=0);refine Qh;refine Qc ?_ ?_;refine Qe;refine Qh;refine Qh;refine Qy (i:=2) nd;refine J7 (js:=[2,3,4]) ?_;refine Qb ?_ ?_;refine Q5 (i:=3) nd ?_;refine Dy Mv T.Ei Sn ?_;refine Qc ?_ ?_;refine Qr ?_ ?_;refine Qa (i:=0);refine Qa (i:=2);refine Qh;refine Qb ?_ ?_;refine Q5 (i:=4) nd ?_;refine V4 qhm T.qpy qkU ?_;refine Qc ?_ ?_;refine Qa (i:=3);refine Qh;refine Qb ?_ ?_;refine xu (js:=[4]) ?_;refine Zk ?_ ?_ ?_;refine Av ?_;refine v5 ?_ ?_;refine Qt qd ?_ ?_;refine Qa (i:=3);refine Qe;refine Au (op:=?_);refine Qt U1 ?_ ?_;refine Qa (i:=3);refine Qo qgr ?_ ?_;refine Qe;refine Qe;refine Qb ?_ ?_;refine J8 (js:=[5]) (passes_of rfl) rfl ?_ ?_ ?_;refine Mp T.Us ?_;refine Qc ?_ ?_;refine Qe;refine Qh;refine Qy (i:=5) nd;refine J7 (js:=[5,6]) ?_;refine Qb ?_ ?_;refine Q5 (i:=6) nd ?_;refine Qo Mo ?_ ?_;refine Dy Mv T.Ei Sn ?_;refine Qc ?_ ?_;refine Qo Za ?_ ?_;refine Qo Q2 ?_ ?_;refine Qa (i:=3);refine Qe;refine Qo Q2 ?_ ?_;refine Qo Q2 ?_ ?_;refine Qe;refine Qo Za ?_ ?_;refine Qe;refine Qa (i:=2);refine Qo Za ?_ ?_;refine Qe;refine Qa (i:=5);refine Qh;refine Qe;refine Qb ?_ ?_;refine Jq ?_;refine Vy (i:=1) ?_;refine Qo Mo ?_ ?_;refine Dy Mv T.Ei Sn ?_;refine Qc ?_ ?_;refine Qo Za ?_ ?_;refine Qa (i:=6);refine Qa (i:=6);refine Qh;refine Qe;refine Qd;refine Qd;refine Qb ?_ ?_;refine J8 (js:=[5]) (passes_of rfl) rfl ?_ ?_ ?_;refine Mp T.Us ?_;refine Qc ?_ ?_;refine Qe;refine Qh;refine Qy (i:=5) nd;refine J7 (js:=[5]) ?_;refine Qb ?_ ?_;refine Zk ?_ ?_ ?_;refine Qt Uo ?_ ?_;refine Qa (i:=4);refine Qe;refine Qb ?_ ?_;refine Jq ?_;refine Vy (i:=1) ?_;refine Qo Mo ?_ ?_;refine Dy Mv T.Ei Sn ?_;refine Qc ?_ ?_;refine Qa (i:=4);refine Qh;refine Qe;refine Qb ?_ ?_;refine Q5 (i:=4) nd ?_;refine Qo Vg ?_ ?_;refine Qa (i:=4);refine Qe;refine Qd;refine Qd;refine Qd;refine Qd;refine Qd;refine Qb ?_ ?_;refine Fo ?_;refine qjP ?_ ?_ ?_ ?_;refine Qa (i:=1);refine Ax;refine Ax;refine Fp ?_;refine Ws Jh ?_;refine Qe;refine Qd
theorem C4:FnScope ["_law_stream_here","_law_many"] ["_law_stream_here","_law_many"] (defScope Ku):=⟨rfl,rfl,rfl,by decide +kernel,rfl,by decide +kernel,by decide +kernel⟩
theorem qi {P:Program} {w:World} {K:PySem.W.Frag} {mg:Str→Option Value} {base:Heap} (F:FnF K "_law_draw" Ku) (T:Txt P K mg):FnB P w K mg base 1 "_law_draw" ["_law_stream_here","_law_many"] Qz:=by
 have nd:=C4.nd;refine Zg (P:=P) (w:=w) (K:=K) (mg:=mg) (base:=base) (x:="_law_draw") (st:=Ku) (N:=["_law_stream_here","_law_many"]) (ps:=["_law_stream_here","_law_many"]) (k:=0) (body:=G7) F T.x6 C4 (fun _ _ _ _ _ _ us hl=>match us,hl with | [_,_],_=>rfl) (fun cdv A outer s H E hr=>?_);unfold G7;refine Qb ?_ ?_;refine Zk ?_ ?_ ?_;refine Qt (Q8 hr.units) ?_ ?_;refine V4 Vc T.Nq Wn ?_;refine Qc ?_ ?_;refine Qa (i:=0);refine Qh;refine Qe;refine Qb ?_ ?_;refine Qv ?_;refine Qe;refine Qd;refine Qd;refine Qb ?_ ?_;refine Qv ?_;refine Qo Mo ?_ ?_;refine Dy Mv T.Ei Sn ?_;refine Qc ?_ ?_;refine O0 (i:=0);refine Qh;refine Qa (i:=1);refine Qd
theorem Nz:FnScope ["_law_code_here","_law_arms"] ["_law_code_here","_law_arms"] (defScope Yx):=⟨rfl,rfl,rfl,by decide +kernel,rfl,by decide +kernel,by decide +kernel⟩
theorem L0 {P:Program} {w:World} {K:PySem.W.Frag} {mg:Str→Option Value} {base:Heap} (F:FnF K "_law_onward" Yx) (T:Txt P K mg):FnB P w K mg base 1 "_law_onward" ["_law_code_here","_law_arms"] Ji:=by
 have nd:=Nz.nd;refine Zg (P:=P) (w:=w) (K:=K) (mg:=mg) (base:=base) (x:="_law_onward") (st:=Yx) (N:=["_law_code_here","_law_arms"]) (ps:=["_law_code_here","_law_arms"]) (k:=0) (body:=V9) F T.A6 Nz (fun _ _ _ _ _ _ us hl=>match us,hl with | [_,_],_=>rfl) (fun cdv A outer s H E hr=>?_);unfold V9;refine Qb ?_ ?_;refine Zk ?_ ?_ ?_;refine Av ?_;refine Py ?_ ?_;refine Qt (Q8 hr.units) ?_ ?_;refine Qr ?_ ?_;refine Qr ?_ ?_;refine Qa (i:=0);refine Ws Jh ?_;refine Qe;refine Qe;refine Zj;refine Ur (op:=?_);refine Qt (Q8 hr.units) ?_ ?_;refine Qr ?_ ?_;refine Qr ?_ ?_;refine Qa (i:=0);refine Ws Jh ?_;refine Qe;refine Qe;refine Zj;refine Qb ?_ ?_;refine Jq ?_;refine Vy (i:=0) ?_;refine Z7 ?_;refine Qc ?_ ?_;refine Zj;refine Qh;refine Qd;refine Qd;refine Qb ?_ ?_;refine Zk ?_ ?_ ?_;refine Qt (Q8 hr.units) ?_ ?_;refine Qr ?_ ?_;refine Qa (i:=1);refine Ws Jh ?_;refine Qe;refine Qe;refine Qb ?_ ?_;refine Jq ?_;refine Vy (i:=0) ?_;refine Z7 ?_;refine Qc ?_ ?_;refine Zj;refine Qh;refine Qb ?_ ?_;refine Fn (i:=1) ?_ ?_;refine Qe;refine Ws Jh ?_;refine Qe;refine Qd;refine Qb ?_ ?_;refine Jq ?_;refine Vy (i:=0) ?_;refine Z7 ?_;refine Qc ?_ ?_;refine Zj;refine Qh;refine Qb ?_ ?_;refine Jq ?_;refine O0 (i:=1);refine Qd;refine Qd
theorem Tq:FnScope ["_law_code_here","_law_rows","_law_token","_law_right","_law_left"] ["_law_code_here"] (defScope Vq):=⟨rfl,rfl,rfl,by decide +kernel,rfl,by decide +kernel,by decide +kernel⟩
theorem Aj {P:Program} {w:World} {K:PySem.W.Frag} {mg:Str→Option Value} {base:Heap} (F:FnF K "_law_parts" Vq) (T:Txt P K mg):FnB P w K mg base 1 "_law_parts" ["_law_code_here"] Vv:=by
 have nd:=Tq.nd;refine Zg (P:=P) (w:=w) (K:=K) (mg:=mg) (base:=base) (x:="_law_parts") (st:=Vq) (N:=["_law_code_here","_law_rows","_law_token","_law_right","_law_left"]) (ps:=["_law_code_here"]) (k:=0) (body:=Hg) F T.zp Tq (fun _ _ _ _ _ _ us hl=>match us,hl with | [_],_=>rfl) (fun cdv A outer s H E hr=>?_);unfold Hg;refine qeh (i:=1) nd ?_;refine Wr ?_ ?_;refine qjM (js:=[2]) (passes_of rfl) rfl ?_ ?_ ?_;refine Xg ?_;refine Qa (i:=0);refine Qy (i:=2) nd;refine qjJ (js:=[2]) ?_;refine Wr ?_ ?_;refine qjL ?_ ?_ ?_;refine Av ?_;refine Py ?_ ?_;refine Qt (Q8 hr.units) ?_ ?_;refine Qr ?_ ?_;refine Qa (i:=2);refine Qe;refine Zj;refine Ur (op:=?_);refine Qt (Q8 hr.units) ?_ ?_;refine Qr ?_ ?_;refine Qa (i:=2);refine Qe;refine Zj;refine Wr ?_ ?_;refine qgP (i:=1);refine Cp;refine Wr ?_ ?_;refine qov (js:=[3,4]) ?_;refine qjL ?_ ?_ ?_;refine Qt (Q8 hr.units) ?_ ?_;refine Qr ?_ ?_;refine Qa (i:=2);refine Qe;refine Zj;refine Wr ?_ ?_;refine qcu (i:=1) (j:=3) nd T.G9;refine Wr ?_ ?_;refine qcu (i:=1) (j:=4) nd T.G9;refine Wr ?_ ?_;refine qfb (i:=1) ?_ ?_;refine Ws Jh ?_;refine Qe;refine Z7 ?_;refine Qc ?_ ?_;refine Zj;refine Qc ?_ ?_;refine Qa (i:=4);refine Qc ?_ ?_;refine Qa (i:=3);refine Qh;refine Cp;refine Wr ?_ ?_;refine qfb (i:=1) ?_ ?_;refine Ws Jh ?_;refine Qe;refine Qa (i:=2);refine Cp;refine Cp;refine Cp;refine Wr ?_ ?_;refine qjK (i:=1) T.G9 ?_;refine Qe;refine Cp
theorem Po:FnScope ["_law_one","_law_other","_law_high","_law_low","_law_turn","_law_rest"] ["_law_one","_law_other"] (defScope Xd):=⟨rfl,rfl,rfl,by decide +kernel,rfl,by decide +kernel,by decide +kernel⟩
theorem Du {P:Program} {w:World} {K:PySem.W.Frag} {mg:Str→Option Value} {base:Heap} (F:FnF K "_law_multiple" Xd) (T:Txt P K mg):FnB P w K mg base 1 "_law_multiple" ["_law_one","_law_other"] Q6:=by
 have nd:=Po.nd;refine Zg (P:=P) (w:=w) (K:=K) (mg:=mg) (base:=base) (x:="_law_multiple") (st:=Xd) (N:=["_law_one","_law_other","_law_high","_law_low","_law_turn","_law_rest"]) (ps:=["_law_one","_law_other"]) (k:=0) (body:=Ka) F T.Fx Po (fun _ _ _ _ _ _ us hl=>match us,hl with | [_,_],_=>rfl) (fun cdv A outer s H E hr=>?_);unfold Ka;refine Qb ?_ ?_;refine Q5 (i:=2) nd ?_;refine Qa (i:=0);refine Qb ?_ ?_;refine Q5 (i:=3) nd ?_;refine Qa (i:=1);refine Qb ?_ ?_;refine J8 (js:=[4]) (passes_of rfl) rfl ?_ ?_ ?_;refine Mp T.Us ?_;refine Qc ?_ ?_;refine Qe;refine Qh;refine Qy (i:=4) nd;refine J7 (js:=[4,5]) ?_;refine Qb ?_ ?_;refine Zk ?_ ?_ ?_;refine Qt (Q8 hr.units) ?_ ?_;refine Qa (i:=3);refine Qe;refine Qb ?_ ?_;refine qjH;refine Qd;refine Qd;refine Qb ?_ ?_;refine Q5 (i:=5) nd ?_;refine Qo Mo ?_ ?_;refine Dy Mv T.Ei Sn ?_;refine Qc ?_ ?_;refine Qa (i:=2);refine Qh;refine Qa (i:=3);refine Qb ?_ ?_;refine Q5 (i:=2) nd ?_;refine Qa (i:=3);refine Qb ?_ ?_;refine Q5 (i:=3) nd ?_;refine Qa (i:=5);refine Qd;refine Qb ?_ ?_;refine Qv ?_;refine Qo Za ?_ ?_;refine Qo Vg ?_ ?_;refine Qa (i:=0);refine Qa (i:=2);refine Qa (i:=1);refine Qd
theorem Tr:FnScope ["_law_part","_law_size","_law_spots_here","_law_spot","_law_kept","_law_low","_law_high"] ["_law_part","_law_size","_law_spots_here"] (defScope Jw):=⟨rfl,rfl,rfl,by decide +kernel,rfl,by decide +kernel,by decide +kernel⟩
theorem Ak {P:Program} {w:World} {K:PySem.W.Frag} {mg:Str→Option Value} {base:Heap} (F:FnF K "_law_moved" Jw) (T:Txt P K mg):FnB P w K mg base 1 "_law_moved" ["_law_part","_law_size","_law_spots_here"] Vx:=by
 have nd:=Tr.nd;refine Zg (P:=P) (w:=w) (K:=K) (mg:=mg) (base:=base) (x:="_law_moved") (st:=Jw) (N:=["_law_part","_law_size","_law_spots_here","_law_spot","_law_kept","_law_low","_law_high"]) (ps:=["_law_part","_law_size","_law_spots_here"]) (k:=0) (body:=Hh) F T.zq Tr (fun _ _ _ _ _ _ us hl=>match us,hl with | [_,_,_],_=>rfl) (fun cdv A outer s H E hr=>?_);unfold Hh;refine Qb ?_ ?_;refine Zk ?_ ?_ ?_;refine Qt (Q8 hr.units) ?_ ?_;refine Qr ?_ ?_;refine Qa (i:=0);refine Qe;refine Zj;refine Qb ?_ ?_;refine Qv ?_;refine Z7 ?_;refine Qc ?_ ?_;refine Qa (i:=1);refine Qc ?_ ?_;refine Qa (i:=2);refine Qh;refine Qd;refine Qd;refine Qb ?_ ?_;refine Zk ?_ ?_ ?_;refine Qt (Q8 hr.units) ?_ ?_;refine Qr ?_ ?_;refine Qa (i:=0);refine Qe;refine Zj;refine Qb ?_ ?_;refine Qv ?_;refine Z7 ?_;refine Qc ?_ ?_;refine Qa (i:=1);refine Qc ?_ ?_;refine qa1 ?_;refine qei rfl nd (own:=[("_law_spot",3)]) ?_ ?_ (fun _ _ _ _ _=>?_) (Vm 3) (by decide) (fun _ _ _ _ _=>?_);refine Xg ?_;refine qfc ?_ ?_;refine Qa (i:=2);refine Fp ?_;refine Ws Jh ?_;refine Qe;refine blkOk_by (N:=["_law_part","_law_size","_law_spots_here","_law_spot","_law_kept","_law_low","_law_high"]) (sc:=defScope Jw) (own:=[("_law_spot",3)]) (by decide +kernel);refine pg_name (i:=3) nd rfl (by first | exact .inl rfl | exact .inr rfl);refine Qo Zl ?_ ?_;refine Qo Zl ?_ ?_;refine Qa (i:=1);refine Qe;refine Qa (i:=3);refine Qh;refine Qd;refine Qd;refine Qb ?_ ?_;refine xu (js:=[4]) ?_;refine Zk ?_ ?_ ?_;refine Qt (Q8 hr.units) ?_ ?_;refine Qr ?_ ?_;refine Qa (i:=0);refine Qe;refine Zj;refine Qb ?_ ?_;refine xr (i:=4) rfl nd (sw_true rfl rfl rfl (by decide +kernel)) (own:=[("_law_spot",3)]) ?_ ?_ (fun _ _ _ _ _=>?_) (Vm 3) (by decide) (fun _ _ _ _ _=>?_) (fun _ _ _ _ _=>?_);refine Xg ?_;refine Qa (i:=2);refine blkOk_by (N:=["_law_part","_law_size","_law_spots_here","_law_spot","_law_kept","_law_low","_law_high"]) (sc:=defScope Jw) (own:=[("_law_spot",3)]) (by decide +kernel);refine pg_name (i:=3) nd rfl (by first | exact .inl rfl | exact .inr rfl);refine Qt (Q8 hr.units) ?_ ?_;refine Qo Mo ?_ ?_;refine Dy Mv T.Ei Sn ?_;refine Qc ?_ ?_;refine Qa (i:=3);refine Qh;refine Qr ?_ ?_;refine Qa (i:=0);refine Qe;refine Qr ?_ ?_;refine Qa (i:=0);refine Qe;refine Qo Vg ?_ ?_;refine Qo Zl ?_ ?_;refine Qa (i:=3);refine Qr ?_ ?_;refine Qa (i:=0);refine Qe;refine Qr ?_ ?_;refine Qa (i:=0);refine Qe;refine Qb ?_ ?_;refine Qv ?_;refine Z7 ?_;refine Qc ?_ ?_;refine Qo Vg ?_ ?_;refine Qo Zl ?_ ?_;refine Qo Q2 ?_ ?_;refine Qo Zl ?_ ?_;refine Qa (i:=1);refine Qr ?_ ?_;refine Qa (i:=0);refine Qe;refine Qr ?_ ?_;refine Qa (i:=0);refine Qe;refine Qe;refine Qr ?_ ?_;refine Qa (i:=0);refine Qe;refine Qc ?_ ?_;refine Qa (i:=4);refine Qh;refine Qd;refine Qd;refine Qb ?_ ?_;refine Q5 (i:=5) nd ?_;refine Qe;refine Qb ?_ ?_;refine Q5 (i:=6) nd ?_;refine Qa (i:=1);refine Qb ?_ ?_;refine Zk ?_ ?_ ?_;refine Qt (Q8 hr.units) ?_ ?_;refine Qr ?_ ?_;refine Qa (i:=0);refine Qe;refine Zj;refine Qb ?_ ?_;refine Q5 (i:=6) nd ?_;refine V4 (Nl rfl) T.qbi Ia ?_;refine Qc ?_ ?_;refine Qr ?_ ?_;refine Qa (i:=0);refine Qe;refine Qc ?_ ?_;refine Qa (i:=1);refine Qh;refine Qd;refine Qd;refine Qb ?_ ?_;refine Zk ?_ ?_ ?_;refine Qt (Q8 hr.units) ?_ ?_;refine Qr ?_ ?_;refine Qa (i:=0);refine Qe;refine Zj;refine Qb ?_ ?_;refine Q5 (i:=5) nd ?_;refine V4 (Nl rfl) T.qbi Ia ?_;refine Qc ?_ ?_;refine Qr ?_ ?_;refine Qa (i:=0);refine Qe;refine Qc ?_ ?_;refine Qa (i:=1);refine Qh;refine Qd;refine Qd;refine Qb ?_ ?_;refine Zk ?_ ?_ ?_;refine Qt (Q8 hr.units) ?_ ?_;refine Qr ?_ ?_;refine Qa (i:=0);refine Qe;refine Zj;refine Qb ?_ ?_;refine Q5 (i:=5) nd ?_;refine V4 (Sk rfl) T.qdi jb ?_;refine Qc ?_ ?_;refine Qe;refine Qc ?_ ?_;refine Qo Zl ?_ ?_;refine Qa (i:=1);refine Qr ?_ ?_;refine Qa (i:=0);refine Qe;refine Qh;refine Qd;refine Qd;refine Qb ?_ ?_;refine Zk ?_ ?_ ?_;refine Qt (Q8 hr.units) ?_ ?_;refine Qr ?_ ?_;refine Qa (i:=0);refine Qe;refine Zj;refine Qb ?_ ?_;refine Q5 (i:=6) nd ?_;refine V4 (Sk rfl) T.qdi jb ?_;refine Qc ?_ ?_;refine Qe;refine Qc ?_ ?_;refine Qo Zl ?_ ?_;refine Qa (i:=1);refine Qr ?_ ?_;refine Qa (i:=0);refine Qe;refine Qh;refine Qd;refine Qd;refine Qb ?_ ?_;refine Zk ?_ ?_ ?_;refine Qt (Q8 hr.units) ?_ ?_;refine Qr ?_ ?_;refine Qa (i:=0);refine Qe;refine Zj;refine Qb ?_ ?_;refine Q5 (i:=5) nd ?_;refine Qo Vg ?_ ?_;refine Qo Za ?_ ?_;refine Qr ?_ ?_;refine Qa (i:=0);refine Qe;refine Qa (i:=1);refine Qr ?_ ?_;refine Qa (i:=0);refine Qe;refine Qb ?_ ?_;refine Q5 (i:=6) nd ?_;refine Qo Vg ?_ ?_;refine Qo Za ?_ ?_;refine Qo Q2 ?_ ?_;refine Qr ?_ ?_;refine Qa (i:=0);refine Qe;refine Qe;refine Qa (i:=1);refine Qr ?_ ?_;refine Qa (i:=0);refine Qe;refine Qd;refine Qd;refine Qb ?_ ?_;refine Qv ?_;refine Z7 ?_;refine Qc ?_ ?_;refine Qo Zl ?_ ?_;refine Qa (i:=6);refine Qa (i:=5);refine Qc ?_ ?_;refine qa1 ?_;refine Ay rfl nd (own:=[("_law_spot",3)]) ?_ ?_ (fun _ _ _ _ _=>?_) (Vm 3) (by decide) (fun _ _ _ _ _=>?_) (fun _ _ _ _ _=>?_);refine Xg ?_;refine Qa (i:=2);refine blkOk_by (N:=["_law_part","_law_size","_law_spots_here","_law_spot","_law_kept","_law_low","_law_high"]) (sc:=defScope Jw) (own:=[("_law_spot",3)]) (by decide +kernel);refine pg_name (i:=3) nd rfl (by first | exact .inl rfl | exact .inr rfl);refine Av ?_;refine v5 ?_ ?_;refine Qt qe1 ?_ ?_;refine Qa (i:=5);refine Qa (i:=3);refine Au (op:=?_);refine Qt U1 ?_ ?_;refine Qa (i:=3);refine Qa (i:=6);refine Qo Zl ?_ ?_;refine Qa (i:=3);refine Qa (i:=5);refine Qh;refine Qd
theorem Hy:FnScope ["_law_thing"] ["_law_thing"] (defScope Js):=⟨rfl,rfl,rfl,by decide +kernel,rfl,by decide +kernel,by decide +kernel⟩
theorem Cg {P:Program} {w:World} {K:PySem.W.Frag} {mg:Str→Option Value} {base:Heap} (F:FnF K "_law_is_number" Js) (T:Txt P K mg):FnB P w K mg base 1 "_law_is_number" ["_law_thing"] Q4:=by
 have nd:=Hy.nd;refine Zg (P:=P) (w:=w) (K:=K) (mg:=mg) (base:=base) (x:="_law_is_number") (st:=Js) (N:=["_law_thing"]) (ps:=["_law_thing"]) (k:=0) (body:=Vi) F T.Dz Hy (fun _ _ _ _ _ _ us hl=>match us,hl with | [_],_=>rfl) (fun cdv A outer s H E hr=>?_);unfold Vi;refine Qb ?_ ?_;refine Qv ?_;refine qfg ?_ ?_;refine O1 "int" T.Yp T.Ei Sn qgN ?_;refine Qa (i:=0);refine qfe ?_;refine qjS ?_;refine O1 "bool" T.Yp T.qkW qhu qec ?_;refine Qa (i:=0);refine Qd
theorem Mi:FnScope ["_law_cells","_law_found","_law_cell"] ["_law_cells"] (defScope X5):=⟨rfl,rfl,rfl,by decide +kernel,rfl,by decide +kernel,by decide +kernel⟩
theorem B7 {P:Program} {w:World} {K:PySem.W.Frag} {mg:Str→Option Value} {base:Heap} (F:FnF K "_law_members" X5) (T:Txt P K mg):FnB P w K mg base 1 "_law_members" ["_law_cells"] X8:=by
 have nd:=Mi.nd;refine Zg (P:=P) (w:=w) (K:=K) (mg:=mg) (base:=base) (x:="_law_members") (st:=X5) (N:=["_law_cells","_law_found","_law_cell"]) (ps:=["_law_cells"]) (k:=0) (body:=K8) F T.Oh Mi (fun _ _ _ _ _ _ us hl=>match us,hl with | [_],_=>rfl) (fun cdv A outer s H E hr=>?_);unfold K8;refine Qb ?_ ?_;refine K0 (i:=1) nd ?_;refine Wm ?_;refine Qh;refine Qb ?_ ?_;refine J8 (js:=[2]) (passes_of rfl) rfl ?_ ?_ ?_;refine Xg ?_;refine Qa (i:=0);refine Qy (i:=2) nd;refine J7 (js:=[2]) ?_;refine Qb ?_ ?_;refine Jq ?_;refine Vy (i:=1) ?_;refine Qr ?_ ?_;refine Qa (i:=2);refine Qe;refine Qb ?_ ?_;refine Zk ?_ ?_ ?_;refine Qt Uo ?_ ?_;refine Qr ?_ ?_;refine Qa (i:=2);refine Qe;refine Qe;refine Qb ?_ ?_;refine Jq ?_;refine Vy (i:=1) ?_;refine Qo Q2 ?_ ?_;refine Qr ?_ ?_;refine Qa (i:=2);refine Qe;refine Qo Za ?_ ?_;refine Qr ?_ ?_;refine Qa (i:=2);refine Qe;refine Qo Zl ?_ ?_;refine Qr ?_ ?_;refine Qa (i:=2);refine Qe;refine Qe;refine Qd;refine Qd;refine Qd;refine Qb ?_ ?_;refine Qv ?_;refine Qa (i:=1);refine Qd
theorem Mj:FnScope ["_law_entries","_law_spots_here","_law_entry","_law_at"] ["_law_entries"] (defScope J1):=⟨rfl,rfl,rfl,by decide +kernel,rfl,by decide +kernel,by decide +kernel⟩
theorem B9 {P:Program} {w:World} {K:PySem.W.Frag} {mg:Str→Option Value} {base:Heap} (F:FnF K "_law_ascends" J1) (T:Txt P K mg):FnB P w K mg base 1 "_law_ascends" ["_law_entries"] Jm:=by
 have nd:=Mj.nd;refine Zg (P:=P) (w:=w) (K:=K) (mg:=mg) (base:=base) (x:="_law_ascends") (st:=J1) (N:=["_law_entries","_law_spots_here","_law_entry","_law_at"]) (ps:=["_law_entries"]) (k:=0) (body:=K9) F T.Oi Mj (fun _ _ _ _ _ _ us hl=>match us,hl with | [_],_=>rfl) (fun cdv A outer s H E hr=>?_);unfold K9;refine Qb ?_ ?_;refine qcs (i:=1) rfl nd (sw_true rfl rfl rfl (by decide +kernel)) (own:=[("_law_entry",2)]) ?_ ?_ (fun _ _ _ _ _=>?_) (Vm 2) (by decide) (fun _ _ _ _ _=>?_);refine Xg ?_;refine qa1 ?_;refine qjQ qc7 T.qau ja ?_;refine Qc ?_ ?_;refine Qa (i:=0);refine Qh;refine blkOk_by (N:=["_law_entries","_law_spots_here","_law_entry","_law_at"]) (sc:=defScope J1) (own:=[("_law_entry",2)]) (by decide +kernel);refine pg_name (i:=2) nd rfl (by first | exact .inl rfl | exact .inr rfl);refine Qr ?_ ?_;refine Qa (i:=2);refine Qe;refine Qb ?_ ?_;refine J8 (js:=[3]) (passes_of rfl) rfl ?_ ?_ ?_;refine qcw T.Us ?_;refine Qc ?_ ?_;refine Qe;refine Qc ?_ ?_;refine V4 Vc T.Nq Wn ?_;refine Qc ?_ ?_;refine Qa (i:=1);refine Qh;refine Qh;refine Qy (i:=3) nd;refine J7 (js:=[3]) ?_;refine Qb ?_ ?_;refine Zk ?_ ?_ ?_;refine Qt qd ?_ ?_;refine Qr ?_ ?_;refine Qa (i:=1);refine Qo Zl ?_ ?_;refine Qa (i:=3);refine Qe;refine Qr ?_ ?_;refine Qa (i:=1);refine Qa (i:=3);refine Qb ?_ ?_;refine Qv ?_;refine Pz;refine Qd;refine Qd;refine Qd;refine Qb ?_ ?_;refine Qv ?_;refine Pz;refine Qd
theorem Ti:FnScope ["row","strand"] ["row"] (defScope Yi):=⟨rfl,rfl,rfl,by decide +kernel,rfl,by decide +kernel,by decide +kernel⟩
theorem Ae {P:Program} {w:World} {K:PySem.W.Frag} {mg:Str→Option Value} {base:Heap} (F:FnF K "row_turned" Yi) (T:Txt P K mg) (Uu:FnB P w K mg base 1 "strand_turned" ["strand"] Jo):FnB P w K mg base 2 "row_turned" ["row"] Vt:=by
 have nd:=Ti.nd;refine Zg (P:=P) (w:=w) (K:=K) (mg:=mg) (base:=base) (x:="row_turned") (st:=Yi) (N:=["row","strand"]) (ps:=["row"]) (k:=1) (body:=Ha) F T.zj Ti (fun _ _ _ _ _ _ us hl=>match us,hl with | [_],_=>rfl) (fun cdv A outer s H E hr=>?_);unfold Ha;refine Qb ?_ ?_;refine Qv ?_;refine Dy Sj T.G9 Hj ?_;refine Qc ?_ ?_;refine qa1 ?_;refine qei rfl nd (own:=[("strand",1)]) ?_ ?_ (fun _ _ _ _ _=>?_) (Vm 1) (by decide) (fun _ _ _ _ _=>?_);refine Xg ?_;refine qfc ?_ ?_;refine Qa (i:=0);refine Fp ?_;refine Ws Jh ?_;refine Qe;refine blkOk_by (N:=["row","strand"]) (sc:=defScope Yi) (own:=[("strand",1)]) (by decide +kernel);refine pg_name (i:=1) nd rfl (by first | exact .inl rfl | exact .inr rfl);refine Qk (ps:=["strand"]) (R:=Jo) Uu (hr.mono (by decide)) takes0 ?_;refine Qc ?_ ?_;refine Qa (i:=1);refine Qh;refine Qh;refine Qd
theorem Bs:FnScope ["row","k","i","found","ahead","strand","some"] ["row","k","i"] (defScope W5):=⟨rfl,rfl,rfl,by decide +kernel,rfl,by decide +kernel,by decide +kernel⟩
theorem j9 {P:Program} {w:World} {K:PySem.W.Frag} {mg:Str→Option Value} {base:Heap} (F:FnF K "row_each" W5) (T:Txt P K mg) (Ph:FnB P w K mg base 1 "strand_each" ["strand","k","i"] Y0):FnB P w K mg base 2 "row_each" ["row","k","i"] W9:=by
 have nd:=Bs.nd;refine Zg (P:=P) (w:=w) (K:=K) (mg:=mg) (base:=base) (x:="row_each") (st:=W5) (N:=["row","k","i","found","ahead","strand","some"]) (ps:=["row","k","i"]) (k:=1) (body:=Ni) F T.qa5 Bs (fun _ _ _ _ _ _ us hl=>match us,hl with | [_,_,_],_=>rfl) (fun cdv A outer s H E hr=>?_);unfold Ni;refine Qb ?_ ?_;refine K0 (i:=3) nd ?_;refine Wm ?_;refine Qh;refine Qb ?_ ?_;refine Q5 (i:=4) nd ?_;refine Qe;refine Qb ?_ ?_;refine J8 (js:=[5]) (passes_of rfl) rfl ?_ ?_ ?_;refine Xg ?_;refine Qa (i:=0);refine Qy (i:=5) nd;refine J7 (js:=[5,6]) ?_;refine Qb ?_ ?_;refine Q5 (i:=6) nd ?_;refine Qk (ps:=["strand","k","i"]) (R:=Y0) Ph (hr.mono (by decide)) (takes_of rfl rfl rfl rfl) ?_;refine Qc ?_ ?_;refine Qa (i:=5);refine Qc ?_ ?_;refine Qa (i:=1);refine Qc ?_ ?_;refine Qo Mo ?_ ?_;refine Qo Zl ?_ ?_;refine Qa (i:=2);refine Qa (i:=4);refine Qa (i:=1);refine Qh;refine Qb ?_ ?_;refine Zk ?_ ?_ ?_;refine Qt qb1 ?_ ?_;refine Qa (i:=6);refine Fs;refine Qb ?_ ?_;refine Jq ?_;refine Vy (i:=3) ?_;refine Qa (i:=6);refine Qd;refine Qd;refine Qb ?_ ?_;refine v7 (i:=4) nd A0 ?_;refine Qr ?_ ?_;refine Qa (i:=5);refine Qe;refine Qd;refine Qb ?_ ?_;refine Qv ?_;refine Dy Sj T.G9 Hj ?_;refine Qc ?_ ?_;refine Qa (i:=3);refine Qh;refine Qd
theorem Oq:FnScope ["row","begin","end","size","found","ahead","strand","low","high"] ["row","begin","end"] (defScope Xv):=⟨rfl,rfl,rfl,by decide +kernel,rfl,by decide +kernel,by decide +kernel⟩
theorem qaS {P:Program} {w:World} {K:PySem.W.Frag} {mg:Str→Option Value} {base:Heap} (F:qpE K "row_cut" Xv [] [("begin",(.int 0)),("end",.non)]) (T:Txt P K mg) (Uc:FnB P w K mg base 1 "row_size" ["row"] Y1) (M5:FnK P w K mg base 1 "strand_cut" Z0 [] [("begin",(.int 0)),("end",.non)] ["strand","begin","end"] Vs):FnK P w K mg base 2 "row_cut" Xv [] [("begin",(.int 0)),("end",.non)] ["row","begin","end"] Ul:=by
 have nd:=Oq.nd;refine qfo (P:=P) (w:=w) (K:=K) (mg:=mg) (base:=base) (x:="row_cut") (st:=Xv) (dvs:=[]) (kws:=[("begin",(.int 0)),("end",.non)]) (N:=["row","begin","end","size","found","ahead","strand","low","high"]) (ps:=["row","begin","end"]) (k:=1) (body:=Se) F T.qcE Oq (fun cdv A outer s H E hr=>?_);unfold Se;refine Qb ?_ ?_;refine Q5 (i:=3) nd ?_;refine Qk (ps:=["row"]) (R:=Y1) Uc (hr.mono (by decide)) (takes_of rfl rfl rfl rfl) ?_;refine Qc ?_ ?_;refine Qa (i:=0);refine Qh;refine Qb ?_ ?_;refine Zk ?_ ?_ ?_;refine Qt qe2 ?_ ?_;refine Qa (i:=2);refine Fs;refine Qb ?_ ?_;refine Q5 (i:=2) nd ?_;refine Qa (i:=3);refine Qd;refine Qd;refine Qb ?_ ?_;refine Zk ?_ ?_ ?_;refine Av ?_;refine Py ?_ ?_;refine Qt U1 ?_ ?_;refine Qa (i:=1);refine Qe;refine Ur (op:=?_);refine Qt Uo ?_ ?_;refine Qa (i:=1);refine Qa (i:=3);refine Qb ?_ ?_;refine Wq T.Nf.txt rfl hr (takes_of rfl rfl rfl rfl) ?_;refine Qc ?_ ?_;refine Qa (i:=1);refine Qh;refine Qd;refine Qd;refine Qb ?_ ?_;refine Zk ?_ ?_ ?_;refine Av ?_;refine Py ?_ ?_;refine Qt U1 ?_ ?_;refine Qa (i:=2);refine Qa (i:=1);refine Ur (op:=?_);refine Qt Uo ?_ ?_;refine Qa (i:=2);refine Qa (i:=3);refine Qb ?_ ?_;refine Wq T.Nf.txt rfl hr (takes_of rfl rfl rfl rfl) ?_;refine Qc ?_ ?_;refine Qa (i:=2);refine Qh;refine Qd;refine Qd;refine Qb ?_ ?_;refine K0 (i:=4) nd ?_;refine Wm ?_;refine Qh;refine Qb ?_ ?_;refine Q5 (i:=5) nd ?_;refine Qe;refine Qb ?_ ?_;refine J8 (js:=[6]) (passes_of rfl) rfl ?_ ?_ ?_;refine Xg ?_;refine Qa (i:=0);refine Qy (i:=6) nd;refine J7 (js:=[6,7,8]) ?_;refine Qb ?_ ?_;refine Q5 (i:=7) nd ?_;refine V4 (Sk rfl) T.qdi jb ?_;refine Qc ?_ ?_;refine Qo Zl ?_ ?_;refine Qa (i:=1);refine Qa (i:=5);refine Qc ?_ ?_;refine Qe;refine Qh;refine Qb ?_ ?_;refine Q5 (i:=8) nd ?_;refine V4 (Nl rfl) T.qbi Ia ?_;refine Qc ?_ ?_;refine Qo Zl ?_ ?_;refine Qa (i:=2);refine Qa (i:=5);refine Qc ?_ ?_;refine Qr ?_ ?_;refine Qa (i:=6);refine Qe;refine Qh;refine Qb ?_ ?_;refine Zk ?_ ?_ ?_;refine Qt U1 ?_ ?_;refine Qa (i:=7);refine Qa (i:=8);refine Qb ?_ ?_;refine Jq ?_;refine Vy (i:=4) ?_;refine v9 (x:="strand_cut") (st:=Z0) (dvs:=[]) (kwv:=[("begin",(.int 0)),("end",.non)]) (ps:=["strand","begin","end"]) (k:=1) (ds:=[]) (sl:=[.p 0,.k 0,.k 1]) (n:=1) (R:=Vs) ["begin","end"] M5 qtJ rfl (hr.mono (by decide)) (takes_of rfl rfl rfl rfl) ?_ ?_;refine Qc ?_ ?_;refine Qa (i:=6);refine Qh;refine Jj ?_ ?_;refine Qa (i:=7);refine Jj ?_ ?_;refine Qa (i:=8);refine Fq;refine Qd;refine Qd;refine Qb ?_ ?_;refine v7 (i:=5) nd A0 ?_;refine Qr ?_ ?_;refine Qa (i:=6);refine Qe;refine Qd;refine Qb ?_ ?_;refine Qv ?_;refine Dy Sj T.G9 Hj ?_;refine Qc ?_ ?_;refine Qa (i:=4);refine Qh;refine Qd
theorem Ot:FnScope ["row","index","number","strand"] ["row","index"] (defScope Uj):=⟨rfl,rfl,rfl,by decide +kernel,rfl,by decide +kernel,by decide +kernel⟩
theorem qaT {P:Program} {w:World} {K:PySem.W.Frag} {mg:Str→Option Value} {base:Heap} (F:FnF K "holders" Uj) (T:Txt P K mg) (K2:FnB P w K mg base 1 "place_in" ["strand","index"] Jt):FnB P w K mg base 2 "holders" ["row","index"] H7:=by
 have nd:=Ot.nd;refine Zg (P:=P) (w:=w) (K:=K) (mg:=mg) (base:=base) (x:="holders") (st:=Uj) (N:=["row","index","number","strand"]) (ps:=["row","index"]) (k:=1) (body:=Sf) F T.qcF Ot (fun _ _ _ _ _ _ us hl=>match us,hl with | [_,_],_=>rfl) (fun cdv A outer s H E hr=>?_);unfold Sf;refine Qb ?_ ?_;refine Fo ?_;refine Ay rfl nd (own:=[("number",2),("strand",3)]) ?_ ?_ (fun _ _ _ _ _=>?_) (qfk (xx (Vm 2) (xx (Vm 3) qfj))) (by decide) (fun _ _ _ _ _=>?_) (fun _ _ _ _ _=>?_);refine qjO T.Lb ?_;refine Qa (i:=0);refine blkOk_by (N:=["row","index","number","strand"]) (sc:=defScope Uj) (own:=[("number",2),("strand",3)]) (by decide +kernel);refine pg_tup rfl (pgs_cons (pg_name (i:=2) nd rfl (by first | exact .inl rfl | exact .inr rfl)) (pgs_cons (pg_name (i:=3) nd rfl (by first | exact .inl rfl | exact .inr rfl)) pgs_nil));refine Qt qb1 ?_ ?_;refine Qk (ps:=["strand","index"]) (R:=Jt) K2 (hr.mono (by decide)) takes0 ?_;refine Qc ?_ ?_;refine Qa (i:=3);refine Qc ?_ ?_;refine Qa (i:=1);refine Qh;refine Fs;refine Qa (i:=2);refine Qd
theorem C3:FnScope ["_law_stream_here","_law_groups","_law_number","_law_turn"] ["_law_stream_here","_law_groups"] (defScope Kt):=⟨rfl,rfl,rfl,by decide +kernel,rfl,by decide +kernel,by decide +kernel⟩
theorem qh {P:Program} {w:World} {K:PySem.W.Frag} {mg:Str→Option Value} {base:Heap} (F:FnF K "_law_long" Kt) (T:Txt P K mg) (Zd:FnB P w K mg base 1 "_law_draw" ["_law_stream_here","_law_many"] Qz):FnB P w K mg base 2 "_law_long" ["_law_stream_here","_law_groups"] Ky:=by
 have nd:=C3.nd;refine Zg (P:=P) (w:=w) (K:=K) (mg:=mg) (base:=base) (x:="_law_long") (st:=Kt) (N:=["_law_stream_here","_law_groups","_law_number","_law_turn"]) (ps:=["_law_stream_here","_law_groups"]) (k:=1) (body:=G6) F T.x4 C3 (fun _ _ _ _ _ _ us hl=>match us,hl with | [_,_],_=>rfl) (fun cdv A outer s H E hr=>?_);unfold G6;refine Qb ?_ ?_;refine Q5 (i:=2) nd ?_;refine Qe;refine Qb ?_ ?_;refine J8 (js:=[3]) (passes_of rfl) rfl ?_ ?_ ?_;refine Mp T.Us ?_;refine Qc ?_ ?_;refine Qk (ps:=["_law_stream_here","_law_many"]) (R:=Qz) Zd (hr.mono (by decide)) (takes_of rfl rfl rfl rfl) ?_;refine Qc ?_ ?_;refine Qa (i:=0);refine Qc ?_ ?_;refine Qo Q2 ?_ ?_;refine Qa (i:=1);refine Qe;refine Qh;refine Qh;refine Qy (i:=3) nd;refine J7 (js:=[3]) ?_;refine Qb ?_ ?_;refine Q5 (i:=2) nd ?_;refine Qo Q2 ?_ ?_;refine Qo Za ?_ ?_;refine Qa (i:=2);refine Qe;refine Qk (ps:=["_law_stream_here","_law_many"]) (R:=Qz) Zd (hr.mono (by decide)) (takes_of rfl rfl rfl rfl) ?_;refine Qc ?_ ?_;refine Qa (i:=0);refine Qc ?_ ?_;refine Qe;refine Qh;refine Qd;refine Qb ?_ ?_;refine Qv ?_;refine Qa (i:=2);refine Qd
theorem Ny:FnScope ["_law_stream_here","_law_most","_law_ways","_law_shape","_law_many"] ["_law_stream_here","_law_most","_law_ways"] (defScope Yw):=⟨rfl,rfl,rfl,by decide +kernel,rfl,by decide +kernel,by decide +kernel⟩
theorem Lz {P:Program} {w:World} {K:PySem.W.Frag} {mg:Str→Option Value} {base:Heap} (F:FnF K "_law_simple" Yw) (T:Txt P K mg) (Zd:FnB P w K mg base 1 "_law_draw" ["_law_stream_here","_law_many"] Qz):FnB P w K mg base 2 "_law_simple" ["_law_stream_here","_law_most","_law_ways"] Y5:=by
 have nd:=Ny.nd;refine Zg (P:=P) (w:=w) (K:=K) (mg:=mg) (base:=base) (x:="_law_simple") (st:=Yw) (N:=["_law_stream_here","_law_most","_law_ways","_law_shape","_law_many"]) (ps:=["_law_stream_here","_law_most","_law_ways"]) (k:=1) (body:=Wy) F T.A5 Ny (fun _ _ _ _ _ _ us hl=>match us,hl with | [_,_,_],_=>rfl) (fun cdv A outer s H E hr=>?_);unfold Wy;refine Qb ?_ ?_;refine Q5 (i:=3) nd ?_;refine Qk (ps:=["_law_stream_here","_law_many"]) (R:=Qz) Zd (hr.mono (by decide)) (takes_of rfl rfl rfl rfl) ?_;refine Qc ?_ ?_;refine Qa (i:=0);refine Qc ?_ ?_;refine Qe;refine Qh;refine Qb ?_ ?_;refine Zk ?_ ?_ ?_;refine Qt (Q8 hr.units) ?_ ?_;refine Qa (i:=3);refine Qe;refine Qb ?_ ?_;refine Qv ?_;refine Z7 ?_;refine Qc ?_ ?_;refine Zj;refine Qh;refine Qd;refine Qd;refine Qb ?_ ?_;refine Zk ?_ ?_ ?_;refine Qt (Q8 hr.units) ?_ ?_;refine Qa (i:=3);refine Qe;refine Qb ?_ ?_;refine Qv ?_;refine Z7 ?_;refine Qc ?_ ?_;refine Zj;refine Qh;refine Qd;refine Qd;refine Qb ?_ ?_;refine Zk ?_ ?_ ?_;refine Qt U1 ?_ ?_;refine Qa (i:=3);refine Qe;refine Qb ?_ ?_;refine Qv ?_;refine Z7 ?_;refine Qc ?_ ?_;refine Qr ?_ ?_;refine qa1 ?_;refine Wm ?_;refine Qc ?_ ?_;refine Zj;refine Qc ?_ ?_;refine Zj;refine Qc ?_ ?_;refine Zj;refine Qc ?_ ?_;refine Zj;refine Qh;refine Qo Zl ?_ ?_;refine Qa (i:=3);refine Qe;refine Qc ?_ ?_;refine Qk (ps:=["_law_stream_here","_law_many"]) (R:=Qz) Zd (hr.mono (by decide)) (takes_of rfl rfl rfl rfl) ?_;refine Qc ?_ ?_;refine Qa (i:=0);refine Qc ?_ ?_;refine Qo Q2 ?_ ?_;refine Qa (i:=1);refine Qe;refine Qh;refine Qh;refine Qd;refine Qd;refine Qb ?_ ?_;refine Q5 (i:=4) nd ?_;refine Qo Q2 ?_ ?_;refine Qe;refine Qk (ps:=["_law_stream_here","_law_many"]) (R:=Qz) Zd (hr.mono (by decide)) (takes_of rfl rfl rfl rfl) ?_;refine Qc ?_ ?_;refine Qa (i:=0);refine Qc ?_ ?_;refine Qa (i:=2);refine Qh;refine Qb ?_ ?_;refine Qv ?_;refine Z7 ?_;refine Qc ?_ ?_;refine Qr ?_ ?_;refine qa1 ?_;refine Wm ?_;refine Qc ?_ ?_;refine Zj;refine Qc ?_ ?_;refine Zj;refine Qh;refine Qo Mo ?_ ?_;refine Dy Mv T.Ei Sn ?_;refine Qc ?_ ?_;refine Qa (i:=3);refine Qh;refine Qe;refine Qc ?_ ?_;refine Qa (i:=4);refine Qc ?_ ?_;refine Qk (ps:=["_law_stream_here","_law_many"]) (R:=Qz) Zd (hr.mono (by decide)) (takes_of rfl rfl rfl rfl) ?_;refine Qc ?_ ?_;refine Qa (i:=0);refine Qc ?_ ?_;refine Qa (i:=4);refine Qh;refine Qh;refine Qd
theorem N6:FnScope ["_law_part","_law_told","_law_d","_law_m","_law_w","_law_h","_law_u","_law_wide"] ["_law_part","_law_told"] (defScope Yz):=⟨rfl,rfl,rfl,by decide +kernel,rfl,by decide +kernel,by decide +kernel⟩
theorem L6 {P:Program} {w:World} {K:PySem.W.Frag} {mg:Str→Option Value} {base:Heap} (F:FnF K "_law_behind" Yz) (T:Txt P K mg) (Zz:FnB P w K mg base 1 "_law_multiple" ["_law_one","_law_other"] Q6):FnB P w K mg base 2 "_law_behind" ["_law_part","_law_told"] Y6:=by
 have nd:=N6.nd;refine Zg (P:=P) (w:=w) (K:=K) (mg:=mg) (base:=base) (x:="_law_behind") (st:=Yz) (N:=["_law_part","_law_told","_law_d","_law_m","_law_w","_law_h","_law_u","_law_wide"]) (ps:=["_law_part","_law_told"]) (k:=1) (body:=W2) F T.A9 N6 (fun _ _ _ _ _ _ us hl=>match us,hl with | [_,_],_=>rfl) (fun cdv A outer s H E hr=>?_);unfold W2;refine Qb ?_ ?_;refine C7 (js:=([2]++([3]++([4]++([5]++([6]++[])))))) ?_ ?_;refine Qa (i:=1);refine T4 rfl ?_;refine Zn ?_ ?_;refine Qy (i:=2) nd;refine Zn ?_ ?_;refine Qy (i:=3) nd;refine Zn ?_ ?_;refine Qy (i:=4) nd;refine Zn ?_ ?_;refine Qy (i:=5) nd;refine Zn ?_ ?_;refine Qy (i:=6) nd;refine Gw;refine Qb ?_ ?_;refine xu (js:=[7]) ?_;refine Zk ?_ ?_ ?_;refine Qt (Q8 hr.units) ?_ ?_;refine Qr ?_ ?_;refine Qa (i:=0);refine Qe;refine Zj;refine Qb ?_ ?_;refine Q5 (i:=7) nd ?_;refine Qo Vg ?_ ?_;refine Qo Zl ?_ ?_;refine Qo Q2 ?_ ?_;refine Qa (i:=4);refine Qo Za ?_ ?_;refine Qe;refine Qr ?_ ?_;refine Qa (i:=0);refine Qe;refine Qe;refine Qr ?_ ?_;refine Qa (i:=0);refine Qe;refine Qb ?_ ?_;refine Qv ?_;refine Z7 ?_;refine Qc ?_ ?_;refine Qo Za ?_ ?_;refine Qa (i:=2);refine Qr ?_ ?_;refine Qa (i:=0);refine Qe;refine Qc ?_ ?_;refine Qk (ps:=["_law_one","_law_other"]) (R:=Q6) Zz (hr.mono (by decide)) (takes_of rfl rfl rfl rfl) ?_;refine Qc ?_ ?_;refine Qa (i:=3);refine Qc ?_ ?_;refine Qo Za ?_ ?_;refine Qa (i:=2);refine Qr ?_ ?_;refine Qa (i:=0);refine Qe;refine Qh;refine Qc ?_ ?_;refine Qa (i:=7);refine Qc ?_ ?_;refine Qo Za ?_ ?_;refine Qa (i:=5);refine Qr ?_ ?_;refine Qa (i:=0);refine Qe;refine Qc ?_ ?_;refine Qo Q2 ?_ ?_;refine Qa (i:=6);refine Qo Za ?_ ?_;refine Qo Za ?_ ?_;refine Qe;refine Qa (i:=5);refine Qo Zl ?_ ?_;refine Qr ?_ ?_;refine Qa (i:=0);refine Qe;refine Qe;refine Qh;refine Qd;refine Qd;refine Qb ?_ ?_;refine Zk ?_ ?_ ?_;refine Qt (Q8 hr.units) ?_ ?_;refine Qr ?_ ?_;refine Qa (i:=0);refine Qe;refine Zj;refine Qb ?_ ?_;refine Qv ?_;refine Z7 ?_;refine Qc ?_ ?_;refine Qo Za ?_ ?_;refine Qa (i:=2);refine Qr ?_ ?_;refine Qa (i:=0);refine Qe;refine Qc ?_ ?_;refine Qk (ps:=["_law_one","_law_other"]) (R:=Q6) Zz (hr.mono (by decide)) (takes_of rfl rfl rfl rfl) ?_;refine Qc ?_ ?_;refine Qa (i:=3);refine Qc ?_ ?_;refine Qo Za ?_ ?_;refine Qa (i:=2);refine Qr ?_ ?_;refine Qa (i:=0);refine Qe;refine Qh;refine Qc ?_ ?_;refine Qo Q2 ?_ ?_;refine Qa (i:=4);refine Qe;refine Qc ?_ ?_;refine Qa (i:=5);refine Qc ?_ ?_;refine Qo Q2 ?_ ?_;refine Qa (i:=6);refine Qo Za ?_ ?_;refine Qo Za ?_ ?_;refine Qe;refine Qa (i:=5);refine Qo Q2 ?_ ?_;refine Qa (i:=4);refine Qe;refine Qh;refine Qd;refine Qd;refine Qb ?_ ?_;refine Zk ?_ ?_ ?_;refine Av ?_;refine Py ?_ ?_;refine Qt (Q8 hr.units) ?_ ?_;refine Qr ?_ ?_;refine Qa (i:=0);refine Qe;refine Zj;refine Ur (op:=?_);refine Qt (Q8 hr.units) ?_ ?_;refine Qr ?_ ?_;refine Qa (i:=0);refine Qe;refine Zj;refine Qb ?_ ?_;refine Qv ?_;refine Qa (i:=1);refine Qd;refine Qd;refine Qb ?_ ?_;refine Qv ?_;refine Z7 ?_;refine Qc ?_ ?_;refine Qa (i:=2);refine Qc ?_ ?_;refine Qa (i:=3);refine Qc ?_ ?_;refine Qo Q2 ?_ ?_;refine Qa (i:=4);refine Qr ?_ ?_;refine Qa (i:=0);refine Qe;refine Qc ?_ ?_;refine Qa (i:=5);refine Qc ?_ ?_;refine Qo Q2 ?_ ?_;refine Qa (i:=6);refine Qo Za ?_ ?_;refine Qo Za ?_ ?_;refine Qe;refine Qa (i:=5);refine Qo Q2 ?_ ?_;refine Qo Q2 ?_ ?_;refine Qa (i:=4);refine Qr ?_ ?_;refine Qa (i:=0);refine Qe;refine Qe;refine Qh;refine Qd
theorem Tp:FnScope ["_law_code_here","_law_size","_law_index","_law_told","_law_token","_law_right","_law_left","_law_spot"] ["_law_code_here","_law_size","_law_index"] (defScope Yk):=⟨rfl,rfl,rfl,by decide +kernel,rfl,by decide +kernel,by decide +kernel⟩
theorem Ai {P:Program} {w:World} {K:PySem.W.Frag} {mg:Str→Option Value} {base:Heap} (F:FnF K "_law_spots" Yk) (T:Txt P K mg) (M9:FnB P w K mg base 1 "_law_moved" ["_law_part","_law_size","_law_spots_here"] Vx):FnB P w K mg base 2 "_law_spots" ["_law_code_here","_law_size","_law_index"] Vu:=by
 have nd:=Tp.nd;refine Zg (P:=P) (w:=w) (K:=K) (mg:=mg) (base:=base) (x:="_law_spots") (st:=Yk) (N:=["_law_code_here","_law_size","_law_index","_law_told","_law_token","_law_right","_law_left","_law_spot"]) (ps:=["_law_code_here","_law_size","_law_index"]) (k:=1) (body:=Hf) F T.zo Tp (fun _ _ _ _ _ _ us hl=>match us,hl with | [_,_,_],_=>rfl) (fun cdv A outer s H E hr=>?_);unfold Hf;refine Qb ?_ ?_;refine K0 (i:=3) nd ?_;refine Wm ?_;refine Qc ?_ ?_;refine Z7 ?_;refine Qc ?_ ?_;refine Qa (i:=1);refine Qc ?_ ?_;refine qa1 ?_;refine Wm ?_;refine Qc ?_ ?_;refine Qa (i:=2);refine Qh;refine Qh;refine Qh;refine Qb ?_ ?_;refine J8 (js:=[4]) (passes_of rfl) rfl ?_ ?_ ?_;refine Xg ?_;refine Qa (i:=0);refine Qy (i:=4) nd;refine J7 (js:=[4]) ?_;refine Qb ?_ ?_;refine Zk ?_ ?_ ?_;refine Qt (Q8 hr.units) ?_ ?_;refine Qr ?_ ?_;refine Qa (i:=4);refine Qe;refine Zj;refine Qb ?_ ?_;refine Jq ?_;refine Vy (i:=3) ?_;refine Qr ?_ ?_;refine Qa (i:=3);refine Ws Jh ?_;refine Qe;refine Qd;refine Qb ?_ ?_;refine Zk ?_ ?_ ?_;refine Qt (Q8 hr.units) ?_ ?_;refine Qr ?_ ?_;refine Qa (i:=4);refine Qe;refine Zj;refine Qb ?_ ?_;refine Jq ?_;refine Vy (i:=3) ?_;refine Qr ?_ ?_;refine Qa (i:=3);refine Ws Jh ?_;refine Qe;refine Qd;refine Qb ?_ ?_;refine xu (js:=[5,6]) ?_;refine Zk ?_ ?_ ?_;refine Qt (Q8 hr.units) ?_ ?_;refine Qr ?_ ?_;refine Qa (i:=4);refine Qe;refine Zj;refine Qb ?_ ?_;refine Q5 (i:=5) nd ?_;refine O0 (i:=3);refine Qb ?_ ?_;refine Q5 (i:=6) nd ?_;refine O0 (i:=3);refine Qb ?_ ?_;refine Fn (i:=3) ?_ ?_;refine Z7 ?_;refine Qc ?_ ?_;refine Qo Q2 ?_ ?_;refine Qr ?_ ?_;refine Qa (i:=6);refine Qe;refine Qr ?_ ?_;refine Qa (i:=5);refine Qe;refine Qc ?_ ?_;refine Qo Q2 ?_ ?_;refine Qr ?_ ?_;refine Qa (i:=6);refine Qe;refine qa1 ?_;refine qei rfl nd (own:=[("_law_spot",7)]) ?_ ?_ (fun _ _ _ _ _=>?_) (Vm 7) (by decide) (fun _ _ _ _ _=>?_);refine Xg ?_;refine Qr ?_ ?_;refine Qa (i:=5);refine Qe;refine blkOk_by (N:=["_law_code_here","_law_size","_law_index","_law_told","_law_token","_law_right","_law_left","_law_spot"]) (sc:=defScope Yk) (own:=[("_law_spot",7)]) (by decide +kernel);refine pg_name (i:=7) nd rfl (by first | exact .inl rfl | exact .inr rfl);refine Qo Q2 ?_ ?_;refine Qr ?_ ?_;refine Qa (i:=6);refine Qe;refine Qa (i:=7);refine Qh;refine Ws Jh ?_;refine Qe;refine Qd;refine Qb ?_ ?_;refine Fn (i:=3) ?_ ?_;refine Qk (ps:=["_law_part","_law_size","_law_spots_here"]) (R:=Vx) M9 (hr.mono (by decide)) (takes_of rfl rfl rfl rfl) ?_;refine Qc ?_ ?_;refine Qa (i:=4);refine Qc ?_ ?_;refine Qr ?_ ?_;refine Qr ?_ ?_;refine Qa (i:=3);refine Ws Jh ?_;refine Qe;refine Qe;refine Qc ?_ ?_;refine Qr ?_ ?_;refine Qr ?_ ?_;refine Qa (i:=3);refine Ws Jh ?_;refine Qe;refine Qe;refine Qh;refine Ws Jh ?_;refine Qe;refine Qd;refine Qd;refine Qd;refine Qd;refine Qb ?_ ?_;refine Qv ?_;refine Qr ?_ ?_;refine Qa (i:=3);refine Qe;refine Qd
theorem N5:FnScope ["_law_row","_law_strand","_law_number"] ["_law_row"] (defScope Yy):=⟨rfl,rfl,rfl,by decide +kernel,rfl,by decide +kernel,by decide +kernel⟩
theorem L5 {P:Program} {w:World} {K:PySem.W.Frag} {mg:Str→Option Value} {base:Heap} (F:FnF K "_law_is_row" Yy) (T:Txt P K mg) (Zh:FnB P w K mg base 1 "_law_is_number" ["_law_thing"] Q4):FnB P w K mg base 2 "_law_is_row" ["_law_row"] Z8:=by
 have nd:=N5.nd;refine Zg (P:=P) (w:=w) (K:=K) (mg:=mg) (base:=base) (x:="_law_is_row") (st:=Yy) (N:=["_law_row","_law_strand","_law_number"]) (ps:=["_law_row"]) (k:=1) (body:=W0) F T.A8 N5 (fun _ _ _ _ _ _ us hl=>match us,hl with | [_],_=>rfl) (fun cdv A outer s H E hr=>?_);unfold W0;refine Qb ?_ ?_;refine Zk ?_ ?_ ?_;refine U5 ?_;refine U4 ?_;refine O1 "tuple" T.Yp T.G9 Hj kit_tuple ?_;refine Qa (i:=0);refine Qb ?_ ?_;refine Qv ?_;refine Pz;refine Qd;refine Qd;refine Qb ?_ ?_;refine J8 (js:=[1]) (passes_of rfl) rfl ?_ ?_ ?_;refine Xg ?_;refine Qa (i:=0);refine Qy (i:=1) nd;refine J7 (js:=[1]) ?_;refine Qb ?_ ?_;refine Zk ?_ ?_ ?_;refine Av ?_;refine Py ?_ ?_;refine U5 ?_;refine U4 ?_;refine O1 "tuple" T.Yp T.G9 Hj kit_tuple ?_;refine Qa (i:=1);refine Ur (op:=?_);refine Qt (j6 hr.units) ?_ ?_;refine V4 Vc T.Nq Wn ?_;refine Qc ?_ ?_;refine Qa (i:=1);refine Qh;refine Qe;refine Qb ?_ ?_;refine Qv ?_;refine Pz;refine Qd;refine Qd;refine Qb ?_ ?_;refine J8 (js:=[2]) (passes_of rfl) rfl ?_ ?_ ?_;refine Xg ?_;refine Qa (i:=1);refine Qy (i:=2) nd;refine J7 (js:=[2]) ?_;refine Qb ?_ ?_;refine Zk ?_ ?_ ?_;refine U5 ?_;refine U4 ?_;refine Qk (ps:=["_law_thing"]) (R:=Q4) Zh (hr.mono (by decide)) (takes_of rfl rfl rfl rfl) ?_;refine Qc ?_ ?_;refine Qa (i:=2);refine Qh;refine Qb ?_ ?_;refine Qv ?_;refine Pz;refine Qd;refine Qd;refine Qd;refine Qb ?_ ?_;refine Zk ?_ ?_ ?_;refine Av ?_;refine Py ?_ ?_;refine Qt (Q8 hr.units) ?_ ?_;refine Qr ?_ ?_;refine Qa (i:=1);refine Qe;refine Qe;refine Ur (op:=?_);refine Qt U1 ?_ ?_;refine Qr ?_ ?_;refine Qa (i:=1);refine Qe;refine Qe;refine Qb ?_ ?_;refine Qv ?_;refine Pz;refine Qd;refine Qd;refine Qd;refine Qb ?_ ?_;refine Qv ?_;refine Pz;refine Qd
theorem Uh:FnScope ["_law_held","_law_many","_law_number"] ["_law_held","_law_many"] (defScope Jd):=⟨rfl,rfl,rfl,by decide +kernel,rfl,by decide +kernel,by decide +kernel⟩
theorem Rm {P:Program} {w:World} {K:PySem.W.Frag} {mg:Str→Option Value} {base:Heap} (F:FnF K "_law_are_holders" Jd) (T:Txt P K mg) (Zh:FnB P w K mg base 1 "_law_is_number" ["_law_thing"] Q4):FnB P w K mg base 2 "_law_are_holders" ["_law_held","_law_many"] Je:=by
 have nd:=Uh.nd;refine Zg (P:=P) (w:=w) (K:=K) (mg:=mg) (base:=base) (x:="_law_are_holders") (st:=Jd) (N:=["_law_held","_law_many","_law_number"]) (ps:=["_law_held","_law_many"]) (k:=1) (body:=Yf) F T.T8 Uh (fun _ _ _ _ _ _ us hl=>match us,hl with | [_,_],_=>rfl) (fun cdv A outer s H E hr=>?_);unfold Yf;refine Qb ?_ ?_;refine Zk ?_ ?_ ?_;refine U5 ?_;refine U4 ?_;refine O1 "list" T.Yp T.qav yh vr ?_;refine Qa (i:=0);refine Qb ?_ ?_;refine Qv ?_;refine Pz;refine Qd;refine Qd;refine Qb ?_ ?_;refine J8 (js:=[2]) (passes_of rfl) rfl ?_ ?_ ?_;refine Xg ?_;refine Qa (i:=0);refine Qy (i:=2) nd;refine J7 (js:=[2]) ?_;refine Qb ?_ ?_;refine Zk ?_ ?_ ?_;refine Av ?_;refine Py ?_ ?_;refine U5 ?_;refine U4 ?_;refine Qk (ps:=["_law_thing"]) (R:=Q4) Zh (hr.mono (by decide)) (takes_of rfl rfl rfl rfl) ?_;refine Qc ?_ ?_;refine Qa (i:=2);refine Qh;refine Py ?_ ?_;refine Qt U1 ?_ ?_;refine Qa (i:=2);refine Qe;refine Ur (op:=?_);refine Qt qd ?_ ?_;refine Qa (i:=2);refine Qa (i:=1);refine Qb ?_ ?_;refine Qv ?_;refine Pz;refine Qd;refine Qd;refine Qd;refine Qb ?_ ?_;refine Qv ?_;refine Pz;refine Qd
theorem Hz:FnScope ["self","other"] ["self","other"] (defScope Z3):=⟨rfl,rfl,rfl,by decide +kernel,rfl,by decide +kernel,by decide +kernel⟩
theorem Ci {P:Program} {w:World} {K:PySem.W.Frag} {mg:Str→Option Value} {base:Heap} (F:∃fd,FunD K "__or__" "Numbers.__or__" (defArgs Z3) (defBody Z3) (defScope Z3) [] [] (maA K "Numbers" "__or__") fd) (T:Txt P K mg) (Qj:MkKB P w K mg base 1 "Numbers" 6 0 ["divisor","modulus","spread","stride","reach"] [] [.k 0,.k 1,.k 2,.k 3,.k 4] Qm):FnM P w K mg base 3 "Numbers" "__or__" 2 Vf:=by
 have nd:=Hz.nd;refine qcL (P:=P) (w:=w) (K:=K) (mg:=mg) (base:=base) (C:="Numbers") (m:="__or__") (x:="__or__") (qual:="Numbers.__or__") (st:=Z3) (N:=["self","other"]) (ps:=["self","other"]) (k:=2) (body:=Vj) F Hz (fun _ _ _ _ _ _ us hl=>match us,hl with | [_,_],_=>rfl) (fun cdv A outer s H E hr=>?_);unfold Vj;refine Qb ?_ ?_;refine Zk ?_ ?_ ?_;refine U5 ?_;refine U4 ?_;refine qjT T.qa2 T.Yp T.F6 ?_;refine Qa (i:=1);refine Qb ?_ ?_;refine qjI;refine Qd;refine Qd;refine Qb ?_ ?_;refine Qv ?_;refine Ft (n:=6) (ks:=["divisor","modulus","spread","stride","reach"]) (ms:=[]) (sl:=[.k 0,.k 1,.k 2,.k 3,.k 4]) (k:=1) (R:=Qm) Qj (hr.mono (by decide)) (takes_of rfl rfl rfl rfl) ?_;refine Jj ?_ ?_;refine qy T.qcA ?_;refine Qc ?_ ?_;refine Jg T.We ?_;refine Qa (i:=0);refine Qc ?_ ?_;refine Jg T.We ?_;refine Qa (i:=1);refine Qh;refine Jj ?_ ?_;refine qy T.qcA ?_;refine Qc ?_ ?_;refine Jg T.Gf ?_;refine Qa (i:=0);refine Qc ?_ ?_;refine Jg T.Gf ?_;refine Qa (i:=1);refine Qh;refine Jj ?_ ?_;refine Qo Q2 ?_ ?_;refine Jg T.Nd ?_;refine Qa (i:=0);refine Jg T.Nd ?_;refine Qa (i:=1);refine Jj ?_ ?_;refine qy T.qcA ?_;refine Qc ?_ ?_;refine Jg T.K4 ?_;refine Qa (i:=0);refine Qc ?_ ?_;refine Jg T.K4 ?_;refine Qa (i:=1);refine Qh;refine Jj ?_ ?_;refine Qo Q2 ?_ ?_;refine Jg T.Cq ?_;refine Qa (i:=0);refine Jg T.Cq ?_;refine Qa (i:=1);refine Fq;refine Qd
theorem Tn:FnScope ["count","old","spread"] ["count","old"] (defScope Vp):=⟨rfl,rfl,rfl,by decide +kernel,rfl,by decide +kernel,by decide +kernel⟩
theorem Ah {P:Program} {w:World} {K:PySem.W.Frag} {mg:Str→Option Value} {base:Heap} (F:FnF K "behind_cut" Vp) (T:Txt P K mg) (Qj:MkKB P w K mg base 1 "Numbers" 6 0 ["divisor","modulus","spread","stride","reach"] [] [.k 0,.k 1,.k 2,.k 3,.k 4] Qm):FnB P w K mg base 3 "behind_cut" ["count","old"] Ym:=by
 have nd:=Tn.nd;refine Zg (P:=P) (w:=w) (K:=K) (mg:=mg) (base:=base) (x:="behind_cut") (st:=Vp) (N:=["count","old","spread"]) (ps:=["count","old"]) (k:=2) (body:=Hc) F T.zl Tn (fun _ _ _ _ _ _ us hl=>match us,hl with | [_,_],_=>rfl) (fun cdv A outer s H E hr=>?_);unfold Hc;refine Qb ?_ ?_;refine Q5 (i:=2) nd ?_;refine Qo Q2 ?_ ?_;refine Jg T.Nd ?_;refine Qa (i:=1);refine Qa (i:=0);refine Qb ?_ ?_;refine Qv ?_;refine Ft (n:=6) (ks:=["divisor","modulus","spread","stride","reach"]) (ms:=[]) (sl:=[.k 0,.k 1,.k 2,.k 3,.k 4]) (k:=1) (R:=Qm) Qj (hr.mono (by decide)) (takes_of rfl rfl rfl rfl) ?_;refine Jj ?_ ?_;refine Jg T.We ?_;refine Qa (i:=1);refine Jj ?_ ?_;refine Jg T.Gf ?_;refine Qa (i:=1);refine Jj ?_ ?_;refine Qa (i:=2);refine Jj ?_ ?_;refine Jg T.K4 ?_;refine Qa (i:=1);refine Jj ?_ ?_;refine Qo Q2 ?_ ?_;refine Jg T.Cq ?_;refine Qa (i:=1);refine Qo Za ?_ ?_;refine Qo Za ?_ ?_;refine Qe;refine Jg T.K4 ?_;refine Qa (i:=1);refine Qo Q2 ?_ ?_;refine Qa (i:=2);refine Qe;refine Fq;refine Qd
theorem Nw:FnScope ["k","old"] ["k","old"] (defScope Yu):=⟨rfl,rfl,rfl,by decide +kernel,rfl,by decide +kernel,by decide +kernel⟩
theorem Lx {P:Program} {w:World} {K:PySem.W.Frag} {mg:Str→Option Value} {base:Heap} (F:FnF K "behind_each" Yu) (T:Txt P K mg) (Qj:MkKB P w K mg base 1 "Numbers" 6 0 ["divisor","modulus","spread","stride","reach"] [] [.k 0,.k 1,.k 2,.k 3,.k 4] Qm):FnB P w K mg base 3 "behind_each" ["k","old"] Y3:=by
 have nd:=Nw.nd;refine Zg (P:=P) (w:=w) (K:=K) (mg:=mg) (base:=base) (x:="behind_each") (st:=Yu) (N:=["k","old"]) (ps:=["k","old"]) (k:=2) (body:=Ww) F T.A3 Nw (fun _ _ _ _ _ _ us hl=>match us,hl with | [_,_],_=>rfl) (fun cdv A outer s H E hr=>?_);unfold Ww;refine Qb ?_ ?_;refine Qv ?_;refine Ft (n:=6) (ks:=["divisor","modulus","spread","stride","reach"]) (ms:=[]) (sl:=[.k 0,.k 1,.k 2,.k 3,.k 4]) (k:=1) (R:=Qm) Qj (hr.mono (by decide)) (takes_of rfl rfl rfl rfl) ?_;refine Jj ?_ ?_;refine Qo Za ?_ ?_;refine Jg T.We ?_;refine Qa (i:=1);refine Qa (i:=0);refine Jj ?_ ?_;refine qy T.qcA ?_;refine Qc ?_ ?_;refine Jg T.Gf ?_;refine Qa (i:=1);refine Qc ?_ ?_;refine Qo Za ?_ ?_;refine Jg T.We ?_;refine Qa (i:=1);refine Qa (i:=0);refine Qh;refine Jj ?_ ?_;refine Qo Vg ?_ ?_;refine Qo Zl ?_ ?_;refine Qo Q2 ?_ ?_;refine Jg T.Nd ?_;refine Qa (i:=1);refine Qo Za ?_ ?_;refine Qe;refine Qa (i:=0);refine Qe;refine Qa (i:=0);refine Jj ?_ ?_;refine Qo Za ?_ ?_;refine Jg T.K4 ?_;refine Qa (i:=1);refine Qa (i:=0);refine Jj ?_ ?_;refine Qo Q2 ?_ ?_;refine Jg T.Cq ?_;refine Qa (i:=1);refine Qo Za ?_ ?_;refine Qo Za ?_ ?_;refine Qe;refine Jg T.K4 ?_;refine Qa (i:=1);refine Qo Zl ?_ ?_;refine Qa (i:=0);refine Qe;refine Fq;refine Qd
theorem Mf:FnScope ["k","old","spread"] ["k","old"] (defScope X0):=⟨rfl,rfl,rfl,by decide +kernel,rfl,by decide +kernel,by decide +kernel⟩
theorem B4 {P:Program} {w:World} {K:PySem.W.Frag} {mg:Str→Option Value} {base:Heap} (F:FnF K "behind_block" X0) (T:Txt P K mg) (Qj:MkKB P w K mg base 1 "Numbers" 6 0 ["divisor","modulus","spread","stride","reach"] [] [.k 0,.k 1,.k 2,.k 3,.k 4] Qm):FnB P w K mg base 3 "behind_block" ["k","old"] X6:=by
 have nd:=Mf.nd;refine Zg (P:=P) (w:=w) (K:=K) (mg:=mg) (base:=base) (x:="behind_block") (st:=X0) (N:=["k","old","spread"]) (ps:=["k","old"]) (k:=2) (body:=K5) F T.Od Mf (fun _ _ _ _ _ _ us hl=>match us,hl with | [_,_],_=>rfl) (fun cdv A outer s H E hr=>?_);unfold K5;refine Qb ?_ ?_;refine Q5 (i:=2) nd ?_;refine Qo Q2 ?_ ?_;refine Jg T.Nd ?_;refine Qa (i:=1);refine Qe;refine Qb ?_ ?_;refine Qv ?_;refine Ft (n:=6) (ks:=["divisor","modulus","spread","stride","reach"]) (ms:=[]) (sl:=[.k 0,.k 1,.k 2,.k 3,.k 4]) (k:=1) (R:=Qm) Qj (hr.mono (by decide)) (takes_of rfl rfl rfl rfl) ?_;refine Jj ?_ ?_;refine Qo Za ?_ ?_;refine Jg T.We ?_;refine Qa (i:=1);refine Qa (i:=0);refine Jj ?_ ?_;refine qy T.qcA ?_;refine Qc ?_ ?_;refine Jg T.Gf ?_;refine Qa (i:=1);refine Qc ?_ ?_;refine Qo Za ?_ ?_;refine Jg T.We ?_;refine Qa (i:=1);refine Qa (i:=0);refine Qh;refine Jj ?_ ?_;refine Qa (i:=2);refine Jj ?_ ?_;refine Jg T.K4 ?_;refine Qa (i:=1);refine Jj ?_ ?_;refine Qo Q2 ?_ ?_;refine Jg T.Cq ?_;refine Qa (i:=1);refine Qo Za ?_ ?_;refine Qo Za ?_ ?_;refine Qe;refine Jg T.K4 ?_;refine Qa (i:=1);refine Qo Q2 ?_ ?_;refine Qa (i:=2);refine Qe;refine Fq;refine Qd
theorem C5:FnScope ["_law_stream_here","_law_tokens","_law_boths","_law_most","_law_ways","_law_code_here","_law_arms","_law_turn","_law_pick"] ["_law_stream_here","_law_tokens","_law_boths","_law_most","_law_ways"] (defScope Kv):=⟨rfl,rfl,rfl,by decide +kernel,rfl,by decide +kernel,by decide +kernel⟩
theorem qj {P:Program} {w:World} {K:PySem.W.Frag} {mg:Str→Option Value} {base:Heap} (F:FnF K "_law_code" Kv) (T:Txt P K mg) (Zd:FnB P w K mg base 1 "_law_draw" ["_law_stream_here","_law_many"] Qz) (W3:FnB P w K mg base 1 "_law_onward" ["_law_code_here","_law_arms"] Ji) (Pl:FnB P w K mg base 2 "_law_simple" ["_law_stream_here","_law_most","_law_ways"] Y5):FnB P w K mg base 3 "_law_code" ["_law_stream_here","_law_tokens","_law_boths","_law_most","_law_ways"] Kz:=by
 have nd:=C5.nd;refine Zg (P:=P) (w:=w) (K:=K) (mg:=mg) (base:=base) (x:="_law_code") (st:=Kv) (N:=["_law_stream_here","_law_tokens","_law_boths","_law_most","_law_ways","_law_code_here","_law_arms","_law_turn","_law_pick"]) (ps:=["_law_stream_here","_law_tokens","_law_boths","_law_most","_law_ways"]) (k:=2) (body:=G8) F T.x7 C5 (fun _ _ _ _ _ _ us hl=>match us,hl with | [_,_,_,_,_],_=>rfl) (fun cdv A outer s H E hr=>?_);unfold G8;refine Qb ?_ ?_;refine K0 (i:=5) nd ?_;refine Wm ?_;refine Qh;refine Qb ?_ ?_;refine K0 (i:=6) nd ?_;refine Wm ?_;refine Qh;refine Qb ?_ ?_;refine J8 (js:=[7]) (passes_of rfl) rfl ?_ ?_ ?_;refine Mp T.Us ?_;refine Qc ?_ ?_;refine Qa (i:=1);refine Qh;refine Qy (i:=7) nd;refine J7 (js:=[7,8]) ?_;refine Qb ?_ ?_;refine Q5 (i:=8) nd ?_;refine Qk (ps:=["_law_stream_here","_law_many"]) (R:=Qz) Zd (hr.mono (by decide)) (takes_of rfl rfl rfl rfl) ?_;refine Qc ?_ ?_;refine Qa (i:=0);refine Qc ?_ ?_;refine Qe;refine Qh;refine Qb ?_ ?_;refine Zk ?_ ?_ ?_;refine Av ?_;refine v5 ?_ ?_;refine Qt (Q8 hr.units) ?_ ?_;refine Qa (i:=8);refine Qe;refine Au (op:=?_);refine Qt Uo ?_ ?_;refine Qa (i:=2);refine Qe;refine Qb ?_ ?_;refine Jq ?_;refine Vy (i:=5) ?_;refine Z7 ?_;refine Qc ?_ ?_;refine Zj;refine Qh;refine Qb ?_ ?_;refine Jq ?_;refine Vy (i:=6) ?_;refine Qe;refine Qb ?_ ?_;refine Q5 (i:=2) nd ?_;refine Qo Zl ?_ ?_;refine Qa (i:=2);refine Qe;refine Qd;refine Qb ?_ ?_;refine Zk ?_ ?_ ?_;refine Av ?_;refine v5 ?_ ?_;refine Qt (Q8 hr.units) ?_ ?_;refine Qa (i:=8);refine Qe;refine Au (op:=?_);refine Qt Uo ?_ ?_;refine V4 Vc T.Nq Wn ?_;refine Qc ?_ ?_;refine Qa (i:=6);refine Qh;refine Qe;refine Qb ?_ ?_;refine Jq ?_;refine Qk (ps:=["_law_code_here","_law_arms"]) (R:=Ji) W3 (hr.mono (by decide)) (takes_of rfl rfl rfl rfl) ?_;refine Qc ?_ ?_;refine Qa (i:=5);refine Qc ?_ ?_;refine Qa (i:=6);refine Qh;refine Qd;refine Qb ?_ ?_;refine Jq ?_;refine Vy (i:=5) ?_;refine Qk (ps:=["_law_stream_here","_law_most","_law_ways"]) (R:=Y5) Pl (hr.mono (by decide)) (takes_of rfl rfl rfl rfl) ?_;refine Qc ?_ ?_;refine Qa (i:=0);refine Qc ?_ ?_;refine Qa (i:=3);refine Qc ?_ ?_;refine Qa (i:=4);refine Qh;refine Qd;refine Qd;refine Qd;refine Qb ?_ ?_;refine J8 (js:=[7]) (passes_of rfl) rfl ?_ ?_ ?_;refine Mp T.Us ?_;refine Qc ?_ ?_;refine Qo Za ?_ ?_;refine Qe;refine V4 Vc T.Nq Wn ?_;refine Qc ?_ ?_;refine Qa (i:=6);refine Qh;refine Qh;refine Qy (i:=7) nd;refine J7 (js:=[7]) ?_;refine Qb ?_ ?_;refine Zk ?_ ?_ ?_;refine Qt Uo ?_ ?_;refine V4 Vc T.Nq Wn ?_;refine Qc ?_ ?_;refine Qa (i:=6);refine Qh;refine Qe;refine Qb ?_ ?_;refine Jq ?_;refine Qk (ps:=["_law_code_here","_law_arms"]) (R:=Ji) W3 (hr.mono (by decide)) (takes_of rfl rfl rfl rfl) ?_;refine Qc ?_ ?_;refine Qa (i:=5);refine Qc ?_ ?_;refine Qa (i:=6);refine Qh;refine Qd;refine Qd;refine Qd;refine Qb ?_ ?_;refine Qv ?_;refine Qa (i:=5);refine Qd
theorem Mh:FnScope ["_law_code_here","_law_told","_law_token","_law_one","_law_two"] ["_law_code_here"] (defScope X4):=⟨rfl,rfl,rfl,by decide +kernel,rfl,by decide +kernel,by decide +kernel⟩
theorem B6 {P:Program} {w:World} {K:PySem.W.Frag} {mg:Str→Option Value} {base:Heap} (F:FnF K "_law_numbers" X4) (T:Txt P K mg) (Pm:FnB P w K mg base 2 "_law_behind" ["_law_part","_law_told"] Y6) (Zz:FnB P w K mg base 1 "_law_multiple" ["_law_one","_law_other"] Q6):FnB P w K mg base 3 "_law_numbers" ["_law_code_here"] X7:=by
 have nd:=Mh.nd;refine Zg (P:=P) (w:=w) (K:=K) (mg:=mg) (base:=base) (x:="_law_numbers") (st:=X4) (N:=["_law_code_here","_law_told","_law_token","_law_one","_law_two"]) (ps:=["_law_code_here"]) (k:=2) (body:=K7) F T.Og Mh (fun _ _ _ _ _ _ us hl=>match us,hl with | [_],_=>rfl) (fun cdv A outer s H E hr=>?_);unfold K7;refine Qb ?_ ?_;refine K0 (i:=1) nd ?_;refine Wm ?_;refine Qc ?_ ?_;refine Z7 ?_;refine Qc ?_ ?_;refine Qe;refine Qc ?_ ?_;refine Qe;refine Qc ?_ ?_;refine Qe;refine Qc ?_ ?_;refine Qe;refine Qc ?_ ?_;refine Qe;refine Qh;refine Qh;refine Qb ?_ ?_;refine J8 (js:=[2]) (passes_of rfl) rfl ?_ ?_ ?_;refine Xg ?_;refine Qa (i:=0);refine Qy (i:=2) nd;refine J7 (js:=[2]) ?_;refine Qb ?_ ?_;refine Zk ?_ ?_ ?_;refine Qt (Q8 hr.units) ?_ ?_;refine Qr ?_ ?_;refine Qa (i:=2);refine Qe;refine Zj;refine Qb ?_ ?_;refine Jq ?_;refine Vy (i:=1) ?_;refine Qr ?_ ?_;refine Qa (i:=1);refine Ws Jh ?_;refine Qe;refine Qd;refine Qb ?_ ?_;refine Zk ?_ ?_ ?_;refine Qt (Q8 hr.units) ?_ ?_;refine Qr ?_ ?_;refine Qa (i:=2);refine Qe;refine Zj;refine Qb ?_ ?_;refine Jq ?_;refine Vy (i:=1) ?_;refine Qr ?_ ?_;refine Qa (i:=1);refine Ws Jh ?_;refine Qe;refine Qd;refine Qb ?_ ?_;refine xu (js:=[3,4]) ?_;refine Zk ?_ ?_ ?_;refine Qt (Q8 hr.units) ?_ ?_;refine Qr ?_ ?_;refine Qa (i:=2);refine Qe;refine Zj;refine Qb ?_ ?_;refine Q5 (i:=3) nd ?_;refine O0 (i:=1);refine Qb ?_ ?_;refine Q5 (i:=4) nd ?_;refine O0 (i:=1);refine Qb ?_ ?_;refine Fn (i:=1) ?_ ?_;refine Z7 ?_;refine Qc ?_ ?_;refine Qk (ps:=["_law_one","_law_other"]) (R:=Q6) Zz (hr.mono (by decide)) (takes_of rfl rfl rfl rfl) ?_;refine Qc ?_ ?_;refine Qr ?_ ?_;refine Qa (i:=3);refine Qe;refine Qc ?_ ?_;refine Qr ?_ ?_;refine Qa (i:=4);refine Qe;refine Qh;refine Qc ?_ ?_;refine Qk (ps:=["_law_one","_law_other"]) (R:=Q6) Zz (hr.mono (by decide)) (takes_of rfl rfl rfl rfl) ?_;refine Qc ?_ ?_;refine Qr ?_ ?_;refine Qa (i:=3);refine Qe;refine Qc ?_ ?_;refine Qr ?_ ?_;refine Qa (i:=4);refine Qe;refine Qh;refine Qc ?_ ?_;refine Qo Q2 ?_ ?_;refine Qr ?_ ?_;refine Qa (i:=3);refine Qe;refine Qr ?_ ?_;refine Qa (i:=4);refine Qe;refine Qc ?_ ?_;refine Qk (ps:=["_law_one","_law_other"]) (R:=Q6) Zz (hr.mono (by decide)) (takes_of rfl rfl rfl rfl) ?_;refine Qc ?_ ?_;refine Qr ?_ ?_;refine Qa (i:=3);refine Qe;refine Qc ?_ ?_;refine Qr ?_ ?_;refine Qa (i:=4);refine Qe;refine Qh;refine Qc ?_ ?_;refine Qo Q2 ?_ ?_;refine Qr ?_ ?_;refine Qa (i:=3);refine Qe;refine Qr ?_ ?_;refine Qa (i:=4);refine Qe;refine Qh;refine Ws Jh ?_;refine Qe;refine Qd;refine Qb ?_ ?_;refine Fn (i:=1) ?_ ?_;refine Qk (ps:=["_law_part","_law_told"]) (R:=Y6) Pm (hr.mono (by decide)) (takes_of rfl rfl rfl rfl) ?_;refine Qc ?_ ?_;refine Qa (i:=2);refine Qc ?_ ?_;refine Qr ?_ ?_;refine Qa (i:=1);refine Ws Jh ?_;refine Qe;refine Qh;refine Ws Jh ?_;refine Qe;refine Qd;refine Qd;refine Qd;refine Qd;refine Qb ?_ ?_;refine Qv ?_;refine Qr ?_ ?_;refine Qa (i:=1);refine Qe;refine Qd
theorem Mg:FnScope ["_law_code_here","_law_size","_law_row","_law_indexes","_law_firsts","_law_lasts","_law_index","_law_held","_law_spots_here","_law_first","_law_last"] ["_law_code_here","_law_size","_law_row","_law_indexes"] (defScope X2):=⟨rfl,rfl,rfl,by decide +kernel,rfl,by decide +kernel,by decide +kernel⟩
theorem B5 {P:Program} {w:World} {K:PySem.W.Frag} {mg:Str→Option Value} {base:Heap} (F:FnF K "_law_ordered" X2) (T:Txt P K mg) (Lm:FnB P w K mg base 2 "holders" ["row","index"] H7) (Wa:FnB P w K mg base 1 "_law_ascends" ["_law_entries"] Jm) (M8:FnB P w K mg base 2 "_law_spots" ["_law_code_here","_law_size","_law_index"] Vu) (K2:FnB P w K mg base 1 "place_in" ["strand","index"] Jt) (Ki:FnB P w K mg base 2 "_law_are_holders" ["_law_held","_law_many"] Je) (Zh:FnB P w K mg base 1 "_law_is_number" ["_law_thing"] Q4):FnB P w K mg base 3 "_law_ordered" ["_law_code_here","_law_size","_law_row","_law_indexes"] Jl:=by
 have nd:=Mg.nd;refine Zg (P:=P) (w:=w) (K:=K) (mg:=mg) (base:=base) (x:="_law_ordered") (st:=X2) (N:=["_law_code_here","_law_size","_law_row","_law_indexes","_law_firsts","_law_lasts","_law_index","_law_held","_law_spots_here","_law_first","_law_last"]) (ps:=["_law_code_here","_law_size","_law_row","_law_indexes"]) (k:=2) (body:=K6) F T.Oe Mg (fun _ _ _ _ _ _ us hl=>match us,hl with | [_,_,_,_],_=>rfl) (fun cdv A outer s H E hr=>?_);unfold K6;refine Qb ?_ ?_;refine K0 (i:=4) nd ?_;refine Wm ?_;refine Qh;refine Qb ?_ ?_;refine K0 (i:=5) nd ?_;refine Wm ?_;refine Qh;refine Qb ?_ ?_;refine J8 (js:=[6]) (passes_of rfl) rfl ?_ ?_ ?_;refine Xg ?_;refine Qa (i:=3);refine Qy (i:=6) nd;refine J7 (js:=[6,7,8]) ?_;refine Qb ?_ ?_;refine Q5 (i:=7) nd ?_;refine Qk (ps:=["row","index"]) (R:=H7) Lm (hr.mono (by decide)) (takes_of rfl rfl rfl rfl) ?_;refine Qc ?_ ?_;refine Qa (i:=2);refine Qc ?_ ?_;refine Qa (i:=6);refine Qh;refine Qb ?_ ?_;refine Q5 (i:=8) nd ?_;refine Qr ?_ ?_;refine Qk (ps:=["_law_code_here","_law_size","_law_index"]) (R:=Vu) M8 (hr.mono (by decide)) (takes_of rfl rfl rfl rfl) ?_;refine Qc ?_ ?_;refine Qa (i:=0);refine Qc ?_ ?_;refine Qa (i:=1);refine Qc ?_ ?_;refine Qa (i:=6);refine Qh;refine Qe;refine Qb ?_ ?_;refine Zk ?_ ?_ ?_;refine Av ?_;refine Py ?_ ?_;refine U5 ?_;refine U4 ?_;refine Qk (ps:=["_law_held","_law_many"]) (R:=Je) Ki (hr.mono (by decide)) (takes_of rfl rfl rfl rfl) ?_;refine Qc ?_ ?_;refine Qa (i:=7);refine Qc ?_ ?_;refine V4 Vc T.Nq Wn ?_;refine Qc ?_ ?_;refine Qa (i:=2);refine Qh;refine Qh;refine Ur (op:=?_);refine Qt (j6 hr.units) ?_ ?_;refine qff Uo ?_ ?_;refine V4 Vc T.Nq Wn ?_;refine Qc ?_ ?_;refine Qa (i:=7);refine Qh;refine Qe;refine qff Uo ?_ ?_;refine V4 Vc T.Nq Wn ?_;refine Qc ?_ ?_;refine Qa (i:=8);refine Qh;refine Qe;refine Qb ?_ ?_;refine Qv ?_;refine Pz;refine Qd;refine Qd;refine Qb ?_ ?_;refine xu (js:=[9,10]) ?_;refine Zk ?_ ?_ ?_;refine Qt Uo ?_ ?_;refine V4 Vc T.Nq Wn ?_;refine Qc ?_ ?_;refine Qa (i:=7);refine Qh;refine Qe;refine Qb ?_ ?_;refine Q5 (i:=9) nd ?_;refine Qk (ps:=["strand","index"]) (R:=Jt) K2 (hr.mono (by decide)) (takes_of rfl rfl rfl rfl) ?_;refine Qc ?_ ?_;refine Qr ?_ ?_;refine Qa (i:=2);refine Qr ?_ ?_;refine Qa (i:=7);refine Qe;refine Qc ?_ ?_;refine Qa (i:=6);refine Qh;refine Qb ?_ ?_;refine Q5 (i:=10) nd ?_;refine Qk (ps:=["strand","index"]) (R:=Jt) K2 (hr.mono (by decide)) (takes_of rfl rfl rfl rfl) ?_;refine Qc ?_ ?_;refine Qr ?_ ?_;refine Qa (i:=2);refine Qr ?_ ?_;refine Qa (i:=7);refine Ws Jh ?_;refine Qe;refine Qc ?_ ?_;refine Qa (i:=6);refine Qh;refine Qb ?_ ?_;refine Zk ?_ ?_ ?_;refine Av ?_;refine Py ?_ ?_;refine U5 ?_;refine U4 ?_;refine Qk (ps:=["_law_thing"]) (R:=Q4) Zh (hr.mono (by decide)) (takes_of rfl rfl rfl rfl) ?_;refine Qc ?_ ?_;refine Qa (i:=9);refine Qh;refine Ur (op:=?_);refine U5 ?_;refine U4 ?_;refine Qk (ps:=["_law_thing"]) (R:=Q4) Zh (hr.mono (by decide)) (takes_of rfl rfl rfl rfl) ?_;refine Qc ?_ ?_;refine Qa (i:=10);refine Qh;refine Qb ?_ ?_;refine Qv ?_;refine Pz;refine Qd;refine Qd;refine Qb ?_ ?_;refine Jq ?_;refine Vy (i:=4) ?_;refine Z7 ?_;refine Qc ?_ ?_;refine Qr ?_ ?_;refine Qa (i:=7);refine Qe;refine Qc ?_ ?_;refine Qa (i:=9);refine Qc ?_ ?_;refine Qr ?_ ?_;refine Qa (i:=8);refine Qe;refine Qh;refine Qb ?_ ?_;refine Jq ?_;refine Vy (i:=5) ?_;refine Z7 ?_;refine Qc ?_ ?_;refine Qr ?_ ?_;refine Qa (i:=7);refine Ws Jh ?_;refine Qe;refine Qc ?_ ?_;refine Qa (i:=10);refine Qc ?_ ?_;refine Qr ?_ ?_;refine Qa (i:=8);refine Ws Jh ?_;refine Qe;refine Qh;refine Qd;refine Qd;refine Qd;refine Qb ?_ ?_;refine Qv ?_;refine qfg ?_ ?_;refine Qk (ps:=["_law_entries"]) (R:=Jm) Wa (hr.mono (by decide)) (takes_of rfl rfl rfl rfl) ?_;refine Qc ?_ ?_;refine Qa (i:=4);refine Qh;refine qfe ?_;refine Qk (ps:=["_law_entries"]) (R:=Jm) Wa (hr.mono (by decide)) (takes_of rfl rfl rfl rfl) ?_;refine Qc ?_ ?_;refine Qa (i:=5);refine Qh;refine Qd
theorem N0:FnScope ["_law_code_here","_law_limit","_law_cut","_law_head","_law_opened","_law_token"] ["_law_code_here","_law_limit"] (defScope Jv):=⟨rfl,rfl,rfl,by decide +kernel,rfl,by decide +kernel,by decide +kernel⟩
theorem L4 {P:Program} {w:World} {K:PySem.W.Frag} {mg:Str→Option Value} {base:Heap} (F:FnF K "_law_narrow" Jv) (T:Txt P K mg) (Hw:FnB P w K mg base 3 "_law_numbers" ["_law_code_here"] X7):FnB P w K mg base 4 "_law_narrow" ["_law_code_here","_law_limit"] Xs:=by
 have nd:=N0.nd;refine Zg (P:=P) (w:=w) (K:=K) (mg:=mg) (base:=base) (x:="_law_narrow") (st:=Jv) (N:=["_law_code_here","_law_limit","_law_cut","_law_head","_law_opened","_law_token"]) (ps:=["_law_code_here","_law_limit"]) (k:=3) (body:=Wz) F T.A7 N0 (fun _ _ _ _ _ _ us hl=>match us,hl with | [_,_],_=>rfl) (fun cdv A outer s H E hr=>?_);unfold Wz;refine Qb ?_ ?_;refine J8 (js:=[2]) (passes_of rfl) rfl ?_ ?_ ?_;refine Mp T.Us ?_;refine Qc ?_ ?_;refine V4 Vc T.Nq Wn ?_;refine Qc ?_ ?_;refine Qa (i:=0);refine Qh;refine Qh;refine Qy (i:=2) nd;refine J7 (js:=[2,3,4]) ?_;refine Qb ?_ ?_;refine Q5 (i:=3) nd ?_;refine qjR ?_ ?_ ?_;refine Qa (i:=0);refine Ax;refine Fp ?_;refine Qo Zl ?_ ?_;refine V4 Vc T.Nq Wn ?_;refine Qc ?_ ?_;refine Qa (i:=0);refine Qh;refine Qa (i:=2);refine Qb ?_ ?_;refine Q5 (i:=4) nd ?_;refine V4 Vc T.Nq Wn ?_;refine Qc ?_ ?_;refine qa1 ?_;refine Ay rfl nd (own:=[("_law_token",5)]) ?_ ?_ (fun _ _ _ _ _=>?_) (Vm 5) (by decide) (fun _ _ _ _ _=>?_) (fun _ _ _ _ _=>?_);refine Xg ?_;refine Qa (i:=3);refine blkOk_by (N:=["_law_code_here","_law_limit","_law_cut","_law_head","_law_opened","_law_token"]) (sc:=defScope Jv) (own:=[("_law_token",5)]) (by decide +kernel);refine pg_name (i:=5) nd rfl (by first | exact .inl rfl | exact .inr rfl);refine Qt (Q8 hr.units) ?_ ?_;refine Qr ?_ ?_;refine Qa (i:=5);refine Qe;refine Zj;refine Qa (i:=5);refine Qh;refine Qb ?_ ?_;refine Zk ?_ ?_ ?_;refine Qt (Q8 hr.units) ?_ ?_;refine Qa (i:=4);refine V4 Vc T.Nq Wn ?_;refine Qc ?_ ?_;refine qa1 ?_;refine Ay rfl nd (own:=[("_law_token",5)]) ?_ ?_ (fun _ _ _ _ _=>?_) (Vm 5) (by decide) (fun _ _ _ _ _=>?_) (fun _ _ _ _ _=>?_);refine Xg ?_;refine Qa (i:=3);refine blkOk_by (N:=["_law_code_here","_law_limit","_law_cut","_law_head","_law_opened","_law_token"]) (sc:=defScope Jv) (own:=[("_law_token",5)]) (by decide +kernel);refine pg_name (i:=5) nd rfl (by first | exact .inl rfl | exact .inr rfl);refine Qt (Q8 hr.units) ?_ ?_;refine Qr ?_ ?_;refine Qa (i:=5);refine Qe;refine Zj;refine Qa (i:=5);refine Qh;refine Qb ?_ ?_;refine Zk ?_ ?_ ?_;refine Qt qe1 ?_ ?_;refine Qr ?_ ?_;refine Qk (ps:=["_law_code_here"]) (R:=X7) Hw (hr.mono (by decide)) (takes_of rfl rfl rfl rfl) ?_;refine Qc ?_ ?_;refine Qa (i:=3);refine Qh;refine Qe;refine Qa (i:=1);refine Qb ?_ ?_;refine Qv ?_;refine Qa (i:=3);refine Qd;refine Qd;refine Qd;refine Qd;refine Qd;refine Qb ?_ ?_;refine Fo ?_;refine Wm ?_;refine Qc ?_ ?_;refine Z7 ?_;refine Qc ?_ ?_;refine Zj;refine Qh;refine Qh;refine Qd
theorem Hr:FnScope ["parts","total","part"] ["parts"] (defScope Xq):=⟨rfl,rfl,rfl,by decide +kernel,rfl,by decide +kernel,by decide +kernel⟩
theorem Lv {P:Program} {w:World} {K:PySem.W.Frag} {mg:Str→Option Value} {base:Heap} (F:FnF K "count_parts" Xq) (T:Txt P K mg) {Ja:List L→FRes} {n:Nat} (Va:FnB P w K mg base (0+n+1) "count_parts" ["parts"] Ja):FnB P w K mg base (0+n+1+1) "count_parts" ["parts"] (Q7 3 (Y8 Ja)):=by
 have nd:=Hr.nd;refine Zg (P:=P) (w:=w) (K:=K) (mg:=mg) (base:=base) (x:="count_parts") (st:=Xq) (N:=["parts","total","part"]) (ps:=["parts"]) (k:=0+n+1) (body:=Y8 Ja) F T.T6 Hr (fun _ _ _ _ _ _ us hl=>match us,hl with | [_],_=>rfl) (fun cdv A outer s H E hr=>?_);unfold Y8;refine Qb ?_ ?_;refine Q5 (i:=1) nd ?_;refine Qe;refine Qb ?_ ?_;refine J8 (js:=[2]) (passes_of rfl) rfl ?_ ?_ ?_;refine Xg ?_;refine Qa (i:=0);refine Qy (i:=2) nd;refine J7 (js:=[2]) ?_;refine Qb ?_ ?_;refine v7 (i:=1) nd A0 ?_;refine Qe;refine Qb ?_ ?_;refine Zk ?_ ?_ ?_;refine Qt (Q8 hr.units) ?_ ?_;refine Qr ?_ ?_;refine Qa (i:=2);refine Qe;refine Zj;refine Qb ?_ ?_;refine v7 (i:=1) nd A0 ?_;refine Qo Q2 ?_ ?_;refine Qk (ps:=["parts"]) (R:=Ja) Va (hr.mono (by omega)) (takes_of rfl rfl rfl rfl) ?_;refine Qc ?_ ?_;refine Qr ?_ ?_;refine Qa (i:=2);refine Qe;refine Qh;refine Qk (ps:=["parts"]) (R:=Ja) Va (hr.mono (by omega)) (takes_of rfl rfl rfl rfl) ?_;refine Qc ?_ ?_;refine Qr ?_ ?_;refine Qa (i:=2);refine Qe;refine Qh;refine Qd;refine Qd;refine Qd;refine Qb ?_ ?_;refine Qv ?_;refine Qa (i:=1);refine Qd
theorem Rk:FnScope ["parts","deepest","part"] ["parts"] (defScope Ks):=⟨rfl,rfl,rfl,by decide +kernel,rfl,by decide +kernel,by decide +kernel⟩
theorem xg {P:Program} {w:World} {K:PySem.W.Frag} {mg:Str→Option Value} {base:Heap} (F:FnF K "depth_of" Ks) (T:Txt P K mg) {X9:List L→FRes} {n:Nat} (Ud:FnB P w K mg base (0+n+1) "depth_of" ["parts"] X9):FnB P w K mg base (0+n+1+1) "depth_of" ["parts"] (Q7 3 (Ub X9)):=by
 have nd:=Rk.nd;refine Zg (P:=P) (w:=w) (K:=K) (mg:=mg) (base:=base) (x:="depth_of") (st:=Ks) (N:=["parts","deepest","part"]) (ps:=["parts"]) (k:=0+n+1) (body:=Ub X9) F T.O5 Rk (fun _ _ _ _ _ _ us hl=>match us,hl with | [_],_=>rfl) (fun cdv A outer s H E hr=>?_);unfold Ub;refine Qb ?_ ?_;refine Q5 (i:=1) nd ?_;refine Qe;refine Qb ?_ ?_;refine J8 (js:=[2]) (passes_of rfl) rfl ?_ ?_ ?_;refine Xg ?_;refine Qa (i:=0);refine Qy (i:=2) nd;refine J7 (js:=[2]) ?_;refine Qb ?_ ?_;refine Zk ?_ ?_ ?_;refine Qt (Q8 hr.units) ?_ ?_;refine Qr ?_ ?_;refine Qa (i:=2);refine Qe;refine Zj;refine Qb ?_ ?_;refine Q5 (i:=1) nd ?_;refine V4 (Sk rfl) T.qdi jb ?_;refine Qc ?_ ?_;refine Qa (i:=1);refine Qc ?_ ?_;refine Qo Q2 ?_ ?_;refine Qe;refine V4 (Sk rfl) T.qdi jb ?_;refine Qc ?_ ?_;refine Qk (ps:=["parts"]) (R:=X9) Ud (hr.mono (by omega)) (takes_of rfl rfl rfl rfl) ?_;refine Qc ?_ ?_;refine Qr ?_ ?_;refine Qa (i:=2);refine Qe;refine Qh;refine Qc ?_ ?_;refine Qk (ps:=["parts"]) (R:=X9) Ud (hr.mono (by omega)) (takes_of rfl rfl rfl rfl) ?_;refine Qc ?_ ?_;refine Qr ?_ ?_;refine Qa (i:=2);refine Qe;refine Qh;refine Qh;refine Qh;refine Qd;refine Qd;refine Qd;refine Qb ?_ ?_;refine Qv ?_;refine Qa (i:=1);refine Qd
theorem Wi:FnScope ["parts","leaves","part"] ["parts","leaves"] (defScope Jn):=⟨rfl,rfl,rfl,by decide +kernel,rfl,by decide +kernel,by decide +kernel⟩
theorem Dt {P:Program} {w:World} {K:PySem.W.Frag} {mg:Str→Option Value} {base:Heap} (F:FnF K "leaves_behind" Jn) (T:Txt P K mg) {Zo:List L→FRes} {n:Nat} (Xj:FnB P w K mg base (0+n+1) "leaves_behind" ["parts","leaves"] Zo):FnB P w K mg base (0+n+1+1) "leaves_behind" ["parts","leaves"] (Q7 3 (Xh Zo)):=by
 have nd:=Wi.nd;refine Zg (P:=P) (w:=w) (K:=K) (mg:=mg) (base:=base) (x:="leaves_behind") (st:=Jn) (N:=["parts","leaves","part"]) (ps:=["parts","leaves"]) (k:=0+n+1) (body:=Xh Zo) F T.Mr Wi (fun _ _ _ _ _ _ us hl=>match us,hl with | [_,_],_=>rfl) (fun cdv A outer s H E hr=>?_);unfold Xh;refine Qb ?_ ?_;refine J8 (js:=[2]) (passes_of rfl) rfl ?_ ?_ ?_;refine Xg ?_;refine Qa (i:=0);refine Qy (i:=2) nd;refine J7 (js:=[2]) ?_;refine Qb ?_ ?_;refine Zk ?_ ?_ ?_;refine Qt (Q8 hr.units) ?_ ?_;refine Qr ?_ ?_;refine Qa (i:=2);refine Qe;refine Zj;refine Qb ?_ ?_;refine Q5 (i:=1) nd ?_;refine Qo Q2 ?_ ?_;refine Qk (ps:=["parts","leaves"]) (R:=Zo) Xj (hr.mono (by omega)) (takes_of rfl rfl rfl rfl) ?_;refine Qc ?_ ?_;refine Qr ?_ ?_;refine Qa (i:=2);refine Qe;refine Qc ?_ ?_;refine Qa (i:=1);refine Qh;refine Qk (ps:=["parts","leaves"]) (R:=Zo) Xj (hr.mono (by omega)) (takes_of rfl rfl rfl rfl) ?_;refine Qc ?_ ?_;refine Qr ?_ ?_;refine Qa (i:=2);refine Qe;refine Qc ?_ ?_;refine Qa (i:=1);refine Qh;refine Qd;refine Qd;refine Qd;refine Qb ?_ ?_;refine Qv ?_;refine Qa (i:=1);refine Qd
theorem Pp:FnScope ["self","parts","leaves"] ["self","parts"] (defScope Jb):=⟨rfl,rfl,rfl,by decide +kernel,rfl,by decide +kernel,by decide +kernel⟩
theorem Dw {P:Program} {w:World} {K:PySem.W.Frag} {mg:Str→Option Value} {base:Heap} (F:∃fd,FunD K "__init__" "Feed.__init__" (defArgs Jb) (defBody Jb) (defScope Jb) [] [] (maA K "Feed" "__init__") fd) (T:Txt P K mg) (Xj:FnB P w K mg base 41 "leaves_behind" ["parts","leaves"] Yl) (Ud:FnB P w K mg base 41 "depth_of" ["parts"] H9) (Va:FnB P w K mg base 41 "count_parts" ["parts"] V7):FnM P w K mg base 42 "Feed" "__init__" 2 Jp:=by
 have nd:=Pp.nd;refine qcL (P:=P) (w:=w) (K:=K) (mg:=mg) (base:=base) (C:="Feed") (m:="__init__") (x:="__init__") (qual:="Feed.__init__") (st:=Jb) (N:=["self","parts","leaves"]) (ps:=["self","parts"]) (k:=41) (body:=Kb) F Pp (fun _ _ _ _ _ _ us hl=>match us,hl with | [_,_],_=>rfl) (fun cdv A outer s H E hr=>?_);unfold Kb;refine Qb ?_ ?_;refine Zk ?_ ?_ ?_;refine Qt Uo ?_ ?_;refine Qk (ps:=["parts"]) (R:=H9) Ud (hr.mono (by decide)) (takes_of rfl rfl rfl rfl) ?_;refine Qc ?_ ?_;refine Qa (i:=1);refine Qh;refine qgT T.Cc T.qat;refine Qb ?_ ?_;refine Wq T.Cs.txt rfl hr (takes_of rfl rfl rfl rfl) ?_;refine Qc ?_ ?_;refine Zj;refine Qh;refine Qd;refine Qd;refine Qb ?_ ?_;refine Zk ?_ ?_ ?_;refine Qt Uo ?_ ?_;refine Qk (ps:=["parts"]) (R:=V7) Va (hr.mono (by decide)) (takes_of rfl rfl rfl rfl) ?_;refine Qc ?_ ?_;refine Qa (i:=1);refine Qh;refine qgT T.Cb T.qat;refine Qb ?_ ?_;refine Wq T.Cs.txt rfl hr (takes_of rfl rfl rfl rfl) ?_;refine Qc ?_ ?_;refine Zj;refine Qh;refine Qd;refine Qd;refine Qb ?_ ?_;refine Q5 (i:=2) nd ?_;refine Qk (ps:=["parts","leaves"]) (R:=Yl) Xj (hr.mono (by decide)) (takes_of rfl rfl rfl rfl) ?_;refine Qc ?_ ?_;refine Qa (i:=1);refine Qc ?_ ?_;refine Qe;refine Qh;refine Qb ?_ ?_;refine Zk ?_ ?_ ?_;refine Qt Uo ?_ ?_;refine Qa (i:=2);refine qgT T.Tb T.qat;refine Qb ?_ ?_;refine Wq T.Cs.txt rfl hr (takes_of rfl rfl rfl rfl) ?_;refine Qc ?_ ?_;refine Zj;refine Qh;refine Qd;refine Qd;refine Qb ?_ ?_;refine Ru (i:=0) T.Eb ?_;refine Qa (i:=1);refine Qb ?_ ?_;refine Ru (i:=0) T.qcP ?_;refine Qa (i:=2);refine Qd
theorem Rj:FnScope ["part","row","begin","end"] ["part","row"] (defScope Kr):=⟨rfl,rfl,rfl,by decide +kernel,rfl,by decide +kernel,by decide +kernel⟩
theorem xc {P:Program} {w:World} {K:PySem.W.Frag} {mg:Str→Option Value} {base:Heap} (F:FnF K "part_row" Kr) (T:Txt P K mg) {Ju Zm:List L→FRes} {n:Nat} (M6:FnB P w K mg base 2 "row_turned" ["row"] Vt) (Cy:FnB P w K mg base 2 "row_each" ["row","k","i"] W9) (M4:FnB P w K mg base 1 "stretch_of" ["part","size"] Vr) (Ll:FnK P w K mg base 2 "row_cut" Xv [] [("begin",(.int 0)),("end",.non)] ["row","begin","end"] Ul) (V3:FnB P w K mg base (2+n+1) "row_behind" ["parts","row"] Zm) (Uc:FnB P w K mg base 1 "row_size" ["row"] Y1):FnB P w K mg base (2+n+1+1) "part_row" ["part","row"] (Q7 4 (V0 Ju Zm)):=by
 have nd:=Rj.nd;refine Zg (P:=P) (w:=w) (K:=K) (mg:=mg) (base:=base) (x:="part_row") (st:=Kr) (N:=["part","row","begin","end"]) (ps:=["part","row"]) (k:=2+n+1) (body:=V0 Ju Zm) F T.O4 Rj (fun _ _ _ _ _ _ us hl=>match us,hl with | [_,_],_=>rfl) (fun cdv A outer s H E hr=>?_);unfold V0;refine Qb ?_ ?_;refine Aw ?_ ?_;refine Qr ?_ ?_;refine Qa (i:=0);refine Qe;refine N8 hr.units ?_ ?_;refine Qb ?_ ?_;refine Qv ?_;refine Qa (i:=1);refine Qd;refine N8 hr.units ?_ ?_;refine Qb ?_ ?_;refine Qv ?_;refine Qk (ps:=["row"]) (R:=Vt) M6 (hr.mono (by omega)) (takes_of rfl rfl rfl rfl) ?_;refine Qc ?_ ?_;refine Qa (i:=1);refine Qh;refine Qd;refine N8 hr.units ?_ ?_;refine Qb ?_ ?_;refine Qv ?_;refine Qk (ps:=["row","k","i"]) (R:=W9) Cy (hr.mono (by omega)) (takes_of rfl rfl rfl rfl) ?_;refine Qc ?_ ?_;refine Qa (i:=1);refine Qc ?_ ?_;refine Qr ?_ ?_;refine Qa (i:=0);refine Qe;refine Qc ?_ ?_;refine Qr ?_ ?_;refine Qa (i:=0);refine Qe;refine Qh;refine Qd;refine N8 hr.units ?_ ?_;refine Qb ?_ ?_;refine Qv ?_;refine Qo Q2 ?_ ?_;refine Qk (ps:=["parts","row"]) (R:=Zm) V3 (hr.mono (by omega)) (takes_of rfl rfl rfl rfl) ?_;refine Qc ?_ ?_;refine Qr ?_ ?_;refine Qa (i:=0);refine Qe;refine Qc ?_ ?_;refine Qa (i:=1);refine Qh;refine Qk (ps:=["parts","row"]) (R:=Zm) V3 (hr.mono (by omega)) (takes_of rfl rfl rfl rfl) ?_;refine Qc ?_ ?_;refine Qr ?_ ?_;refine Qa (i:=0);refine Qe;refine Qc ?_ ?_;refine Qa (i:=1);refine Qh;refine Qd;refine qcv ?_;refine Qb ?_ ?_;refine C7 (js:=([2]++([3]++[]))) ?_ ?_;refine Qk (ps:=["part","size"]) (R:=Vr) M4 (hr.mono (by omega)) (takes_of rfl rfl rfl rfl) ?_;refine Qc ?_ ?_;refine Qa (i:=0);refine Qc ?_ ?_;refine Qk (ps:=["row"]) (R:=Y1) Uc (hr.mono (by omega)) (takes_of rfl rfl rfl rfl) ?_;refine Qc ?_ ?_;refine Qa (i:=1);refine Qh;refine Qh;refine T4 rfl ?_;refine Zn ?_ ?_;refine Qy (i:=2) nd;refine Zn ?_ ?_;refine Qy (i:=3) nd;refine Gw;refine Qb ?_ ?_;refine Qv ?_;refine v9 (x:="row_cut") (st:=Xv) (dvs:=[]) (kwv:=[("begin",(.int 0)),("end",.non)]) (ps:=["row","begin","end"]) (k:=2) (ds:=[]) (sl:=[.p 0,.k 0,.k 1]) (n:=1) (R:=Ul) ["begin","end"] Ll qtI rfl (hr.mono (by omega)) (takes_of rfl rfl rfl rfl) ?_ ?_;refine Qc ?_ ?_;refine Qa (i:=1);refine Qh;refine Jj ?_ ?_;refine Qa (i:=2);refine Jj ?_ ?_;refine Qa (i:=3);refine Fq;refine Qd;refine Qd
theorem Gr:FnScope ["parts","row","part"] ["parts","row"] (defScope Yj):=⟨rfl,rfl,rfl,by decide +kernel,rfl,by decide +kernel,by decide +kernel⟩
theorem Af {P:Program} {w:World} {K:PySem.W.Frag} {mg:Str→Option Value} {base:Heap} (F:FnF K "row_behind" Yj) (T:Txt P K mg) {Ju Zm:List L→FRes} {n:Nat} (Io:FnB P w K mg base (2+n+1) "part_row" ["part","row"] Ju):FnB P w K mg base (2+n+1+1) "row_behind" ["parts","row"] (Q7 3 (Vz Ju Zm)):=by
 have nd:=Gr.nd;refine Zg (P:=P) (w:=w) (K:=K) (mg:=mg) (base:=base) (x:="row_behind") (st:=Yj) (N:=["parts","row","part"]) (ps:=["parts","row"]) (k:=2+n+1) (body:=Vz Ju Zm) F T.Dc Gr (fun _ _ _ _ _ _ us hl=>match us,hl with | [_,_],_=>rfl) (fun cdv A outer s H E hr=>?_);unfold Vz;refine Qb ?_ ?_;refine J8 (js:=[2]) (passes_of rfl) rfl ?_ ?_ ?_;refine Xg ?_;refine Qa (i:=0);refine Qy (i:=2) nd;refine J7 (js:=[2]) ?_;refine Qb ?_ ?_;refine Q5 (i:=1) nd ?_;refine Qk (ps:=["part","row"]) (R:=Ju) Io (hr.mono (by omega)) (takes_of rfl rfl rfl rfl) ?_;refine Qc ?_ ?_;refine Qa (i:=2);refine Qc ?_ ?_;refine Qa (i:=1);refine Qh;refine Qd;refine Qb ?_ ?_;refine Qv ?_;refine Qa (i:=1);refine Qd
theorem Hs:FnScope ["part","old"] ["part","old"] (defScope Xr):=⟨rfl,rfl,rfl,by decide +kernel,rfl,by decide +kernel,by decide +kernel⟩
theorem Lw {P:Program} {w:World} {K:PySem.W.Frag} {mg:Str→Option Value} {base:Heap} (F:FnF K "behind_part" Xr) (T:Txt P K mg) {Zt Zb:List L→FRes} {n:Nat} (Pk:FnB P w K mg base 3 "behind_each" ["k","old"] Y3) (Hv:FnB P w K mg base 3 "behind_block" ["k","old"] X6) (Gi:qfD P w K mg base 3 "__or__" 2 Wb) (M7:FnB P w K mg base 3 "behind_cut" ["count","old"] Ym) (Yb:FnB P w K mg base (3+n+1) "behind_parts" ["parts","numbers"] Zb):FnB P w K mg base (3+n+1+1) "behind_part" ["part","old"] (Q7 2 (Jy Zt Zb)):=by
 have nd:=Hs.nd;refine Zg (P:=P) (w:=w) (K:=K) (mg:=mg) (base:=base) (x:="behind_part") (st:=Xr) (N:=["part","old"]) (ps:=["part","old"]) (k:=3+n+1) (body:=Jy Zt Zb) F T.T7 Hs (fun _ _ _ _ _ _ us hl=>match us,hl with | [_,_],_=>rfl) (fun cdv A outer s H E hr=>?_);unfold Jy;refine Qb ?_ ?_;refine Aw ?_ ?_;refine Qr ?_ ?_;refine Qa (i:=0);refine Qe;refine qjN hr.units ?_ ?_;refine Qb ?_ ?_;refine Qv ?_;refine Qa (i:=1);refine Qd;refine N8 hr.units ?_ ?_;refine Qb ?_ ?_;refine Qv ?_;refine Qk (ps:=["k","old"]) (R:=Y3) Pk (hr.mono (by omega)) (takes_of rfl rfl rfl rfl) ?_;refine Qc ?_ ?_;refine Qr ?_ ?_;refine Qa (i:=0);refine Qe;refine Qc ?_ ?_;refine Qa (i:=1);refine Qh;refine Qd;refine N8 hr.units ?_ ?_;refine Qb ?_ ?_;refine Qv ?_;refine Qk (ps:=["k","old"]) (R:=X6) Hv (hr.mono (by omega)) (takes_of rfl rfl rfl rfl) ?_;refine Qc ?_ ?_;refine Qr ?_ ?_;refine Qa (i:=0);refine Qe;refine Qc ?_ ?_;refine Qa (i:=1);refine Qh;refine Qd;refine N8 hr.units ?_ ?_;refine Qb ?_ ?_;refine Qv ?_;refine qfd (k:=3) (tb:=Wb) (nm:="__or__") Gi (hr.mono (by omega)) (takes_of rfl rfl rfl rfl) ?_ ?_;refine Qk (ps:=["parts","numbers"]) (R:=Zb) Yb (hr.mono (by omega)) (takes_of rfl rfl rfl rfl) ?_;refine Qc ?_ ?_;refine Qr ?_ ?_;refine Qa (i:=0);refine Qe;refine Qc ?_ ?_;refine Qa (i:=1);refine Qh;refine Qk (ps:=["parts","numbers"]) (R:=Zb) Yb (hr.mono (by omega)) (takes_of rfl rfl rfl rfl) ?_;refine Qc ?_ ?_;refine Qr ?_ ?_;refine Qa (i:=0);refine Qe;refine Qc ?_ ?_;refine Qa (i:=1);refine Qh;refine Qd;refine qcv ?_;refine Qb ?_ ?_;refine Qv ?_;refine Qk (ps:=["count","old"]) (R:=Ym) M7 (hr.mono (by omega)) (takes_of rfl rfl rfl rfl) ?_;refine Qc ?_ ?_;refine Qr ?_ ?_;refine Qa (i:=0);refine Qe;refine Qc ?_ ?_;refine Qa (i:=1);refine Qh;refine Qd;refine Qd
theorem Ug:FnScope ["parts","numbers","part"] ["parts","numbers"] (defScope J0):=⟨rfl,rfl,rfl,by decide +kernel,rfl,by decide +kernel,by decide +kernel⟩
theorem B3 {P:Program} {w:World} {K:PySem.W.Frag} {mg:Str→Option Value} {base:Heap} (F:FnF K "behind_parts" J0) (T:Txt P K mg) {Zt Zb:List L→FRes} {n:Nat} (Ca:FnB P w K mg base (3+n+1) "behind_part" ["part","old"] Zt):FnB P w K mg base (3+n+1+1) "behind_parts" ["parts","numbers"] (Q7 3 (Ya Zt Zb)):=by
 have nd:=Ug.nd;refine Zg (P:=P) (w:=w) (K:=K) (mg:=mg) (base:=base) (x:="behind_parts") (st:=J0) (N:=["parts","numbers","part"]) (ps:=["parts","numbers"]) (k:=3+n+1) (body:=Ya Zt Zb) F T.N9 Ug (fun _ _ _ _ _ _ us hl=>match us,hl with | [_,_],_=>rfl) (fun cdv A outer s H E hr=>?_);unfold Ya;refine Qb ?_ ?_;refine J8 (js:=[2]) (passes_of rfl) rfl ?_ ?_ ?_;refine Xg ?_;refine Qa (i:=0);refine Qy (i:=2) nd;refine J7 (js:=[2]) ?_;refine Qb ?_ ?_;refine Q5 (i:=1) nd ?_;refine Qk (ps:=["part","old"]) (R:=Zt) Ca (hr.mono (by omega)) (takes_of rfl rfl rfl rfl) ?_;refine Qc ?_ ?_;refine Qa (i:=2);refine Qc ?_ ?_;refine Qa (i:=1);refine Qh;refine Qd;refine Qb ?_ ?_;refine Qv ?_;refine Qa (i:=1);refine Qd
theorem Uy:FnScope ["self","length"] ["self","length"] (defScope Zu):=⟨rfl,rfl,rfl,by decide +kernel,rfl,by decide +kernel,by decide +kernel⟩
theorem Tz {P:Program} {w:World} {K:PySem.W.Frag} {mg:Str→Option Value} {base:Heap} (F:∃fd,FunD K "strands_at" "Feed.strands_at" (defArgs Zu) (defBody Zu) (defScope Zu) [] [] (maA K "Feed" "strands_at") fd) (T:Txt P K mg) (V3:FnB P w K mg base 43 "row_behind" ["parts","row"] Wc) (Rz:FnB P w K mg base 1 "whole_row" ["length"] Kw):FnM P w K mg base 44 "Feed" "strands_at" 2 Y7:=by
 have nd:=Uy.nd;refine qcL (P:=P) (w:=w) (K:=K) (mg:=mg) (base:=base) (C:="Feed") (m:="strands_at") (x:="strands_at") (qual:="Feed.strands_at") (st:=Zu) (N:=["self","length"]) (ps:=["self","length"]) (k:=43) (body:=Y9) F Uy (fun _ _ _ _ _ _ us hl=>match us,hl with | [_,_],_=>rfl) (fun cdv A outer s H E hr=>?_);unfold Y9;refine Qb ?_ ?_;refine Qv ?_;refine Qk (ps:=["parts","row"]) (R:=Wc) V3 (hr.mono (by decide)) (takes_of rfl rfl rfl rfl) ?_;refine Qc ?_ ?_;refine Jg T.Eb ?_;refine Qa (i:=0);refine Qc ?_ ?_;refine Qk (ps:=["length"]) (R:=Kw) Rz (hr.mono (by decide)) (takes_of rfl rfl rfl rfl) ?_;refine Qc ?_ ?_;refine Qa (i:=1);refine Qh;refine Qh;refine Qd
theorem Tj:FnScope ["feed"] ["feed"] (defScope Vo):=⟨rfl,rfl,rfl,by decide +kernel,rfl,by decide +kernel,by decide +kernel⟩
theorem Ag {P:Program} {w:World} {K:PySem.W.Frag} {mg:Str→Option Value} {base:Heap} (F:FnF K "numbers_of" Vo) (T:Txt P K mg) (Yb:FnB P w K mg base 44 "behind_parts" ["parts","numbers"] Vd) (Ej:qhC P w K mg base 1 "parts" Tc) (Mx:MkKB P w K mg base 1 "Numbers" 6 0 [] [(.int 1),(.int 1),(.int 0),(.int 1),(.int 1)] [.m 0,.m 1,.m 2,.m 3,.m 4] Qm):FnB P w K mg base 45 "numbers_of" ["feed"] Xn:=by
 have nd:=Tj.nd;refine Zg (P:=P) (w:=w) (K:=K) (mg:=mg) (base:=base) (x:="numbers_of") (st:=Vo) (N:=["feed"]) (ps:=["feed"]) (k:=44) (body:=Hb) F T.zk Tj (fun _ _ _ _ _ _ us hl=>match us,hl with | [_],_=>rfl) (fun cdv A outer s H E hr=>?_);unfold Hb;refine Qb ?_ ?_;refine Qv ?_;refine Qk (ps:=["parts","numbers"]) (R:=Vd) Yb (hr.mono (by decide)) (takes_of rfl rfl rfl rfl) ?_;refine Qc ?_ ?_;refine qgS (k:=1) (tb:=Tc) Ej (hr.mono (by decide)) ?_;refine Qa (i:=0);refine Qc ?_ ?_;refine Ft (n:=6) (ks:=[]) (ms:=[(.int 1),(.int 1),(.int 0),(.int 1),(.int 1)]) (sl:=[.m 0,.m 1,.m 2,.m 3,.m 4]) (k:=1) (R:=Qm) Mx (hr.mono (by decide)) (takes_of rfl rfl rfl rfl) ?_;refine Fq;refine Qh;refine Qd
theorem Ou:FnScope ["length","feeds","found","feed","strand"] ["length","feeds"] (defScope H5):=⟨rfl,rfl,rfl,by decide +kernel,rfl,by decide +kernel,by decide +kernel⟩
theorem qaU {P:Program} {w:World} {K:PySem.W.Frag} {mg:Str→Option Value} {base:Heap} (F:FnF K "ends_at" H5) (T:Txt P K mg) (Jk:qfE P w K mg base 44 "strands_at" 2 Zr) (Pj:FnB P w K mg base 1 "last_member" ["strand"] Y2):FnV P w K mg base 45 "ends_at" 1 H8:=by
 have nd:=Ou.nd;refine qcK (P:=P) (w:=w) (K:=K) (mg:=mg) (base:=base) (x:="ends_at") (pv:="feeds") (st:=H5) (N:=["length","feeds","found","feed","strand"]) (ps:=["length"]) (k:=44) (body:=Sh) F T.qcG Ou (fun _ _ _ _ _ _ us rest hl=>match us,rest,hl with | [_],[],_=>rfl | [_],_::_,_=>rfl) (fun cdv A outer s H E hr=>?_);unfold Sh;refine Qb ?_ ?_;refine Zk ?_ ?_ ?_;refine Qt U1 ?_ ?_;refine Qa (i:=0);refine Qe;refine Qb ?_ ?_;refine Wq T.F1.txt rfl hr (takes_of rfl rfl rfl rfl) ?_;refine Qc ?_ ?_;refine Qa (i:=0);refine Qh;refine Qd;refine Qd;refine Qb ?_ ?_;refine Zk ?_ ?_ ?_;refine Qt (Q8 hr.units) ?_ ?_;refine Qa (i:=0);refine Qe;refine Qb ?_ ?_;refine Fo ?_;refine Wm ?_;refine Qh;refine Qd;refine Qd;refine Qb ?_ ?_;refine K0 (i:=2) nd ?_;refine qoy ?_;refine v8 ?_ ?_ ?_;refine Qe;refine Pz;refine v8 ?_ ?_ ?_;refine Qo Zl ?_ ?_;refine Qa (i:=0);refine Qe;refine Pz;refine qgO;refine Qb ?_ ?_;refine J8 (js:=[3]) (passes_of rfl) rfl ?_ ?_ ?_;refine Xg ?_;refine Qa (i:=1);refine Qy (i:=3) nd;refine J7 (js:=[3]) ?_;refine Qb ?_ ?_;refine J8 (js:=[4]) (passes_of rfl) rfl ?_ ?_ ?_;refine Xg ?_;refine Az _ (k:=44) (tb:=Zr) (n:=2) Jk (hr.mono (by decide)) (takes_of rfl rfl rfl rfl) ?_ ?_;refine Qa (i:=3);refine Qc ?_ ?_;refine Qa (i:=0);refine Qh;refine Qy (i:=4) nd;refine J7 (js:=[4]) ?_;refine Qb ?_ ?_;refine qct (i:=2) (hu_of hr) ?_ ?_;refine Pz;refine Qr ?_ ?_;refine Qa (i:=4);refine Qe;refine Qb ?_ ?_;refine qct (i:=2) (hu_of hr) ?_ ?_;refine Pz;refine Qk (ps:=["strand"]) (R:=Y2) Pj (hr.mono (by decide)) (takes_of rfl rfl rfl rfl) ?_;refine Qc ?_ ?_;refine Qa (i:=4);refine Qh;refine Qd;refine Qd;refine Qb ?_ ?_;refine Fo ?_;refine qjQ Be T.qau ja ?_;refine Qc ?_ ?_;refine qa1 ?_;refine qoz (qeK rfl) T.qav yh ?_;refine Qc ?_ ?_;refine Qa (i:=2);refine Qh;refine Qh;refine Qd
theorem Bq:FnScope ["feeds","found","feed"] ["feeds"] (defScope W4):=⟨rfl,rfl,rfl,by decide +kernel,rfl,by decide +kernel,by decide +kernel⟩
theorem j7 {P:Program} {w:World} {K:PySem.W.Frag} {mg:Str→Option Value} {base:Heap} (F:FnF K "together" W4) (T:Txt P K mg) (Hn:FnB P w K mg base 45 "numbers_of" ["feed"] Xn) (Gi:qfD P w K mg base 3 "__or__" 2 Wb):FnV P w K mg base 46 "together" 0 W8:=by
 have nd:=Bq.nd;refine qcK (P:=P) (w:=w) (K:=K) (mg:=mg) (base:=base) (x:="together") (pv:="feeds") (st:=W4) (N:=["feeds","found","feed"]) (ps:=[]) (k:=45) (body:=Ng) F T.qa3 Bq (fun _ _ _ _ _ _ us rest hl=>match us,rest,hl with | [],[],_=>rfl | [],_::_,_=>rfl) (fun cdv A outer s H E hr=>?_);unfold Ng;refine Qb ?_ ?_;refine Q5 (i:=1) nd ?_;refine Qk (ps:=["feed"]) (R:=Xn) Hn (hr.mono (by decide)) (takes_of rfl rfl rfl rfl) ?_;refine Qc ?_ ?_;refine Qr ?_ ?_;refine Qa (i:=0);refine Qe;refine Qh;refine Qb ?_ ?_;refine J8 (js:=[2]) (passes_of rfl) rfl ?_ ?_ ?_;refine Xg ?_;refine qjR ?_ ?_ ?_;refine Qa (i:=0);refine Fp ?_;refine Qe;refine Ax;refine Qy (i:=2) nd;refine J7 (js:=[2]) ?_;refine Qb ?_ ?_;refine Q5 (i:=1) nd ?_;refine qfd (k:=3) (tb:=Wb) (nm:="__or__") Gi (hr.mono (by decide)) (takes_of rfl rfl rfl rfl) ?_ ?_;refine Qa (i:=1);refine Qk (ps:=["feed"]) (R:=Xn) Hn (hr.mono (by decide)) (takes_of rfl rfl rfl rfl) ?_;refine Qc ?_ ?_;refine Qa (i:=2);refine Qh;refine Qd;refine Qb ?_ ?_;refine Qv ?_;refine Qa (i:=1);refine Qd
theorem Bu:FnScope ["length","feeds","ends","stride","found","number","end","between","ahead"] ["length","feeds"] (defScope W7):=⟨rfl,rfl,rfl,by decide +kernel,rfl,by decide +kernel,by decide +kernel⟩
theorem xi {P:Program} {w:World} {K:PySem.W.Frag} {mg:Str→Option Value} {base:Heap} (F:FnF K "cells_at" W7) (T:Txt P K mg) (Ln:FnV P w K mg base 45 "ends_at" 1 H8) (Cw:FnV P w K mg base 46 "together" 0 W8):FnV P w K mg base 47 "cells_at" 1 Ua:=by
 have nd:=Bu.nd;refine qcK (P:=P) (w:=w) (K:=K) (mg:=mg) (base:=base) (x:="cells_at") (pv:="feeds") (st:=W7) (N:=["length","feeds","ends","stride","found","number","end","between","ahead"]) (ps:=["length"]) (k:=46) (body:=Nk) F T.qa7 Bu (fun _ _ _ _ _ _ us rest hl=>match us,rest,hl with | [_],[],_=>rfl | [_],_::_,_=>rfl) (fun cdv A outer s H E hr=>?_);unfold Nk;refine Qb ?_ ?_;refine Q5 (i:=2) nd ?_;refine qcx (n:=1) (R:=H8) Ln (hr.mono (by decide)) (takes_of rfl rfl rfl rfl) ?_;refine Qc ?_ ?_;refine Qa (i:=0);refine qgV ?_ ?_;refine Qa (i:=1);refine Qh;refine Qb ?_ ?_;refine Q5 (i:=3) nd ?_;refine Jg T.K4 ?_;refine qcz (n:=0) (R:=W8) Cw (hr.mono (by decide)) (takes_of rfl rfl rfl rfl) ?_;refine Qa (i:=1);refine Qb ?_ ?_;refine K0 (i:=4) nd ?_;refine Wm ?_;refine Qh;refine Qb ?_ ?_;refine J8 (js:=([5]++([6]++[]))) (passes_of rfl) rfl ?_ ?_ ?_;refine qjO T.Lb ?_;refine Qa (i:=2);refine T4 rfl ?_;refine Zn ?_ ?_;refine Qy (i:=5) nd;refine Zn ?_ ?_;refine Qy (i:=6) nd;refine Gw;refine J7 (js:=[5,6]) ?_;refine Qb ?_ ?_;refine Jq ?_;refine Vy (i:=4) ?_;refine Z7 ?_;refine Qc ?_ ?_;refine Qa (i:=6);refine Qc ?_ ?_;refine Qa (i:=3);refine Qc ?_ ?_;refine Qe;refine Qh;refine Qb ?_ ?_;refine xu (js:=[7]) ?_;refine Zk ?_ ?_ ?_;refine Qt U1 ?_ ?_;refine Qo Q2 ?_ ?_;refine Qa (i:=5);refine Qe;refine V4 Vc T.Nq Wn ?_;refine Qc ?_ ?_;refine Qa (i:=2);refine Qh;refine Qb ?_ ?_;refine Q5 (i:=7) nd ?_;refine Qo Zl ?_ ?_;refine Qo Zl ?_ ?_;refine Qr ?_ ?_;refine Qa (i:=2);refine Qo Q2 ?_ ?_;refine Qa (i:=5);refine Qe;refine Qa (i:=6);refine Qe;refine Qb ?_ ?_;refine J8 (js:=[8]) (passes_of rfl) rfl ?_ ?_ ?_;refine qcw T.Us ?_;refine Qc ?_ ?_;refine Qe;refine Qc ?_ ?_;refine Qo Q2 ?_ ?_;refine V4 (Nl rfl) T.qbi Ia ?_;refine Qc ?_ ?_;refine Qa (i:=3);refine Qc ?_ ?_;refine Qa (i:=7);refine Qh;refine Qe;refine Qh;refine Qy (i:=8) nd;refine J7 (js:=[8]) ?_;refine Qb ?_ ?_;refine Jq ?_;refine Vy (i:=4) ?_;refine Z7 ?_;refine Qc ?_ ?_;refine Qo Q2 ?_ ?_;refine Qa (i:=6);refine Qa (i:=8);refine Qc ?_ ?_;refine Qa (i:=3);refine Qc ?_ ?_;refine Qo Q2 ?_ ?_;refine Qo Vg ?_ ?_;refine Qo Zl ?_ ?_;refine Qa (i:=7);refine Qa (i:=8);refine Qa (i:=3);refine Qe;refine Qh;refine Qd;refine Qd;refine Qd;refine Qd;refine Qb ?_ ?_;refine Qv ?_;refine Qa (i:=4);refine Qd
theorem qeX:FnScope ["_law_script","_law_stream_here","_law_code_here","_law_feed","_law_small","_law_row","_law_far","_law_cells"] ["_law_script"] (defScope qaG):=⟨rfl,rfl,rfl,by decide +kernel,rfl,by decide +kernel,by decide +kernel⟩
theorem qiW {P:Program} {w:World} {K:PySem.W.Frag} {mg:Str→Option Value} (F:FnF K "law" qaG) (T:Txt P K mg) (Kg:∀base:Heap,FnB P w K mg base 1 "_law_stream" ["_law_script"] Y4) (Kh:∀base:Heap,FnB P w K mg base 4 "_law_narrow" ["_law_code_here","_law_limit"] Xs) (Lf:∀base:Heap,MkB P w K mg base 42 "Feed" 2 [] Jp) (Zd:∀base:Heap,FnB P w K mg base 1 "_law_draw" ["_law_stream_here","_law_many"] Qz) (Jk:∀base:Heap,qfE P w K mg base 44 "strands_at" 2 Zr) (Gk:∀base:Heap,FnV P w K mg base 47 "cells_at" 1 Ua) (Yc:∀base:Heap,FnB P w K mg base 3 "_law_ordered" ["_law_code_here","_law_size","_law_row","_law_indexes"] Jl) (Uw:∀base:Heap,FnB P w K mg base 3 "_law_code" ["_law_stream_here","_law_tokens","_law_boths","_law_most","_law_ways"] Kz) (Wh:∀base:Heap,FnB P w K mg base 1 "_law_parts" ["_law_code_here"] Vv) (Uv:∀base:Heap,FnB P w K mg base 2 "_law_long" ["_law_stream_here","_law_groups"] Ky) (Ve:∀base:Heap,FnB P w K mg base 1 "_law_members" ["_law_cells"] X8) (Xu:∀base:Heap,FnB P w K mg base 2 "_law_is_row" ["_law_row"] Z8) (hl:∀ns:List Int,ns.length≤63→∃bs,qdN [.d (.ro (ns.map .int))]=.ok (.d (.bl true)) bs) :
  ∃fd:FuncData,(∀(s:Shared) (v:Value),BindsTo s fd ⟨[v],[]⟩ [("_law_script",v)])∧∀base:Heap,FnOk P w K mg base CX0 48 (cA K "law") fd ["_law_script"] (Oo K 63):=by
 have nd:=qeX.nd;refine qgM (P:=P) (w:=w) (K:=K) (mg:=mg) (x:="law") (sx:="_law_script") (st:=qaG) (N:=["_law_script","_law_stream_here","_law_code_here","_law_feed","_law_small","_law_row","_law_far","_law_cells"]) (k:=47) (n:=63) (body:=qeH) F qeX (fun _ _ _ _ _ _ us hl=>match us,hl with | [_],_=>rfl) hl (fun base cdv A outer s H E hr=>?_);have Kg:=Kg base;have Kh:=Kh base;have Lf:=Lf base;have Zd:=Zd base;have Jk:=Jk base;have Gk:=Gk base;have Yc:=Yc base;have Uw:=Uw base;have Wh:=Wh base;have Uv:=Uv base;have Ve:=Ve base;have Xu:=Xu base;unfold qeH;refine Qb ?_ ?_
 ·refine K0 (i:=1) nd ?_
  ·refine qej (ps:=["_law_script"]) (R:=Y4) Kg (hr.mono (by decide)) takes0 ?_
   ·refine Qc ?_ ?_
    ·refine Qa (i:=0)
    ·refine Qh
 ·refine Qb ?_ ?_
  ·refine Q5 (i:=2) nd ?_
   ·refine Qk (ps:=["_law_code_here","_law_limit"]) (R:=Xs) Kh (hr.mono (by decide)) takes0 ?_
    ·refine Qc ?_ ?_
     ·refine Qk (ps:=["_law_stream_here","_law_tokens","_law_boths","_law_most","_law_ways"]) (R:=Kz) Uw (hr.mono (by decide)) takes0 ?_
      ·refine Qc ?_ ?_
       ·refine Qa (i:=1)
       ·refine Qc ?_ ?_
        ·refine Qo Q2 ?_ ?_
         ·refine Qe
         ·refine Qk (ps:=["_law_stream_here","_law_many"]) (R:=Qz) Zd (hr.mono (by decide)) takes0 ?_
          ·refine Qc ?_ ?_
           ·refine Qa (i:=1)
           ·refine Qc ?_ ?_
            ·refine Qe
            ·refine Qh
        ·refine Qc ?_ ?_
         ·refine Qe
         ·refine Qc ?_ ?_
          ·refine Qe
          ·refine Qc ?_ ?_
           ·refine Qe
           ·refine Qh
     ·refine Qc ?_ ?_
      ·refine Qe
      ·refine Qh
  ·refine Qb ?_ ?_
   ·refine Q5 (i:=3) nd ?_
    ·refine qoA (n:=2) (k:=42) (R:=Jp) Lf (hr.mono (by decide)) takes0 ?_
     ·refine Qc ?_ ?_
      ·refine Qk (ps:=["_law_code_here"]) (R:=Vv) Wh (hr.mono (by decide)) takes0 ?_
       ·refine Qc ?_ ?_
        ·refine Qa (i:=2)
        ·refine Qh
      ·refine Qh
   ·refine Qb ?_ ?_
    ·refine Q5 (i:=4) nd ?_
     ·refine Qk (ps:=["_law_stream_here","_law_many"]) (R:=Qz) Zd (hr.mono (by decide)) takes0 ?_
      ·refine Qc ?_ ?_
       ·refine Qa (i:=1)
       ·refine Qc ?_ ?_
        ·refine Qe
        ·refine Qh
    ·refine Qb ?_ ?_
     ·refine Q5 (i:=5) nd ?_
      ·refine Az _ (k:=44) (tb:=Zr) (n:=2) Jk (hr.mono (by decide)) takes0 ?_ ?_
       ·refine Qa (i:=3)
       ·refine Qc ?_ ?_
        ·refine Qa (i:=4)
        ·refine Qh
     ·refine Qb ?_ ?_
      ·refine Zk ?_ ?_ ?_
       ·refine Av ?_
        ·refine Py ?_ ?_
         ·refine U5 ?_
          ·refine U4 ?_
           ·refine Qk (ps:=["_law_row"]) (R:=Z8) Xu (hr.mono (by decide)) takes0 ?_
            ·refine Qc ?_ ?_
             ·refine Qa (i:=5)
             ·refine Qh
         ·refine Ur (op:=?_)
          ·refine U5 ?_
           ·refine U4 ?_
            ·refine Qk (ps:=["_law_code_here","_law_size","_law_row","_law_indexes"]) (R:=Jl) Yc (hr.mono (by decide)) takes0 ?_
             ·refine Qc ?_ ?_
              ·refine Qa (i:=2)
              ·refine Qc ?_ ?_
               ·refine Qa (i:=4)
               ·refine Qc ?_ ?_
                ·refine Qa (i:=5)
                ·refine Qc ?_ ?_
                 ·refine qa1 ?_
                  ·refine qox rfl T.qav ?_
                   ·refine qtQ T.Us ?_
                    ·refine Qa (i:=4)
                 ·refine Qh
       ·refine Qb ?_ ?_
        ·refine Qv ?_
         ·refine Pz
        ·refine Qd
       ·refine Qd
      ·refine Qb ?_ ?_
       ·refine Q5 (i:=6) nd ?_
        ·refine Qo Q2 ?_ ?_
         ·refine Qe
         ·refine Qk (ps:=["_law_stream_here","_law_groups"]) (R:=Ky) Uv (hr.mono (by decide)) takes0 ?_
          ·refine Qc ?_ ?_
           ·refine Qa (i:=1)
           ·refine Qc ?_ ?_
            ·refine Qe
            ·refine Qh
       ·refine Qb ?_ ?_
        ·refine Q5 (i:=5) nd ?_
         ·refine Az _ (k:=44) (tb:=Zr) (n:=2) Jk (hr.mono (by decide)) takes0 ?_ ?_
          ·refine Qa (i:=3)
          ·refine Qc ?_ ?_
           ·refine Qa (i:=6)
           ·refine Qh
        ·refine Qb ?_ ?_
         ·refine Q5 (i:=7) nd ?_
          ·refine qcy (n:=1) (R:=Ua) Gk (hr.mono (by decide)) takes0 ?_
           ·refine Qc ?_ ?_
            ·refine Qa (i:=6)
            ·refine Qc ?_ ?_
             ·refine Qa (i:=3)
             ·refine Qh
         ·refine Qb ?_ ?_
          ·refine Zk ?_ ?_ ?_
           ·refine Av ?_
            ·refine Py ?_ ?_
             ·refine U5 ?_
              ·refine U4 ?_
               ·refine Qk (ps:=["_law_row"]) (R:=Z8) Xu (hr.mono (by decide)) takes0 ?_
                ·refine Qc ?_ ?_
                 ·refine Qa (i:=5)
                 ·refine Qh
             ·refine Py ?_ ?_
              ·refine U5 ?_
               ·refine U4 ?_
                ·refine O1 "list" T.Yp T.qav yh vr ?_
                 ·refine Qa (i:=7)
              ·refine Ur (op:=?_)
               ·refine U5 ?_
                ·refine U4 ?_
                 ·refine Qk (ps:=["_law_row"]) (R:=Z8) Xu (hr.mono (by decide)) takes0 ?_
                  ·refine Qc ?_ ?_
                   ·refine Dy Sj T.G9 Hj ?_
                    ·refine Qc ?_ ?_
                     ·refine Qa (i:=7)
                     ·refine Qh
                   ·refine Qh
           ·refine Qb ?_ ?_
            ·refine Qv ?_
             ·refine Pz
            ·refine Qd
           ·refine Qd
          ·refine Qb ?_ ?_
           ·refine Qv ?_
            ·refine Qk (ps:=["_law_code_here","_law_size","_law_row","_law_indexes"]) (R:=Jl) Yc (hr.mono (by decide)) takes0 ?_
             ·refine Qc ?_ ?_
              ·refine Qa (i:=2)
              ·refine Qc ?_ ?_
               ·refine Qa (i:=6)
               ·refine Qc ?_ ?_
                ·refine Qa (i:=5)
                ·refine Qc ?_ ?_
                 ·refine Qk (ps:=["_law_cells"]) (R:=X8) Ve (hr.mono (by decide)) takes0 ?_
                  ·refine Qc ?_ ?_
                   ·refine Qa (i:=7)
                   ·refine Qh
                 ·refine Qh
           ·refine Qd
theorem qh9 {K:PySem.W.Frag} {h:Heap} {mg:Str→Option Value} (X:K.In h) (G:h.Ns mainGlobals mg) (c:jg fnL msL prL ck K):Txt PySem.Challenge.pw_unseenfolds_k20_orders_off_the_cells K mg:=by
 have c:=c.c;obtain⟨c1,c0⟩:=He.ba c.chk;obtain⟨c2,c0⟩:=He.ba c0;obtain⟨c3,c0⟩:=He.ba c0;obtain⟨c4,c0⟩:=He.ba c0;obtain⟨c5,c0⟩:=He.ba c0;obtain⟨cc1,c0⟩:=He.ba c0;obtain⟨cc2,c0⟩:=He.ba c0;obtain⟨cc3,c0⟩:=He.ba c0;obtain⟨cz,c0⟩:=He.ba c0;unfold ck2 at cz;obtain⟨qup,cz⟩:=He.ba cz;obtain⟨qpu,cz⟩:=He.ba cz;obtain⟨z6,cz⟩:=He.ba cz;obtain⟨z9,cz⟩:=He.ba cz;obtain⟨yg,cz⟩:=He.ba cz;obtain⟨z8,cz⟩:=He.ba cz;obtain⟨z7,cz⟩:=He.ba cz;obtain⟨qbf,cz⟩:=He.ba cz;obtain⟨yf,cz⟩:=He.ba cz;obtain⟨ye,cz⟩:=He.ba cz;obtain⟨qdb,cz⟩:=He.ba cz;obtain⟨z5,cz⟩:=He.ba cz;obtain⟨F5,cz⟩:=He.ba cz;obtain⟨Rx,cz⟩:=He.ba cz;have j3:=Q0 c4 (i:=0);have qaM:=Q0 c4 (i:=1);have qaL:=Q0 c4 (i:=2);exact⟨Ye X G (Q0 c1 (i:=0)),
  Ye X G (Q0 c1 (i:=1)),
  Ye X G (Q0 c1 (i:=2)),
  Ye X G (Q0 c1 (i:=3)),
  Ye X G (Q0 c1 (i:=4)),
  Ye X G (Q0 c1 (i:=5)),
  Ye X G (Q0 c1 (i:=6)),
  Ye X G (Q0 c1 (i:=7)),
  Ye X G (Q0 c1 (i:=8)),
  Ye X G (Q0 c1 (i:=9)),
  Ye X G (Q0 c1 (i:=10)),
  Ye X G (Q0 c1 (i:=11)),
  Ye X G (Q0 c1 (i:=12)),
  Ye X G (Q0 c1 (i:=13)),
  qg0 X G (Q0 c3 (i:=0)),
  qcS (d:=Lg) X G j3 (c.qgF 0) rfl rfl rfl (fun _ _ _ _ _ _ _ _ _ _=>.of_eq rfl) ⟨_,_,_,_,_,_,_,_,_,_,_,by rfl,rfl⟩ ⟨_,rfl,rfl⟩ (by first | rfl | decide +kernel) rfl rfl rfl rfl (by decide) (by decide),
  qcS (d:=Ih) X G qaM (c.qgF 1) rfl rfl rfl (fun _ _ _ _ _ _ _ _ _ _=>.of_eq rfl) ⟨_,_,_,_,_,_,_,_,_,_,_,by rfl,rfl⟩ ⟨_,rfl,rfl⟩ (by first | rfl | decide +kernel) rfl rfl rfl rfl (by decide) (by decide),
  qcS (d:=Ig) X G qaL (c.qgF 2) rfl rfl rfl (fun _ _ _ _ _ _ _ _ _ _=>.of_eq rfl) ⟨_,_,_,_,_,_,_,_,_,_,_,by rfl,rfl⟩ ⟨_,rfl,rfl⟩ (by first | rfl | decide +kernel) rfl rfl rfl rfl (by decide) (by decide),
  Q3 X G (Q0 c2 (i:=0)),
  Q3 X G (Q0 c2 (i:=1)),
  Q3 X G (Q0 c2 (i:=2)),
  Q3 X G (Q0 c2 (i:=3)),
  Q3 X G (Q0 c2 (i:=4)),
  Q3 X G (Q0 c2 (i:=5)),
  Q3 X G (Q0 c2 (i:=6)),
  Q3 X G (Q0 c2 (i:=7)),
  Q3 X G (Q0 c2 (i:=8)),
  Q3 X G (Q0 c2 (i:=9)),
  Q3 X G (Q0 c2 (i:=10)),
  Q3 X G (Q0 c2 (i:=11)),
  Q3 X G (Q0 c2 (i:=12)),
  Q3 X G (Q0 c2 (i:=13)),
  Q3 X G (Q0 c2 (i:=14)),
  Q3 X G (Q0 c2 (i:=15)),
  Q3 X G (Q0 c2 (i:=16)),
  Q3 X G (Q0 c2 (i:=17)),
  Q3 X G (Q0 c2 (i:=18)),
  Q3 X G (Q0 c2 (i:=19)),
  Q3 X G (Q0 c2 (i:=20)),
  Q3 X G (Q0 c2 (i:=21)),
  Q3 X G (Q0 c2 (i:=22)),
  Q3 X G (Q0 c2 (i:=23)),
  Q3 X G (Q0 c2 (i:=24)),
  Q3 X G (Q0 c2 (i:=25)),
  Q3 X G (Q0 c2 (i:=26)),
  Q3 X G (Q0 c2 (i:=27)),
  Q3 X G (Q0 c2 (i:=28)),
  Q3 X G (Q0 c2 (i:=29)),
  Q3 X G (Q0 c2 (i:=30)),
  Q3 X G (Q0 c2 (i:=31)),
  Q3 X G (Q0 c2 (i:=32)),
  Q3 X G (Q0 c2 (i:=33)),
  Q3 X G (Q0 c2 (i:=34)),
  Q3 X G (Q0 c2 (i:=35)),
  Q3 X G (Q0 c2 (i:=36)),
  Q3 X G (Q0 c2 (i:=37)),
  Q3 X G (Q0 c2 (i:=38)),
  Q3 X G (Q0 c2 (i:=39)),
  Q3 X G (Q0 c2 (i:=40)),
  Q3 X G (Q0 c2 (i:=41)),
  Q3 X G (Q0 c2 (i:=42)),
  Q3 X G (Q0 c2 (i:=43)),
  Q3 X G (Q0 c2 (i:=44)),
  Q3 X G (Q0 c2 (i:=45)),
  Eh (Q0 cc1 (x:="Feed") (i:=0)),
  qgB (Q0 cc3 (x:=("Feed","strands_at","Feed")) (i:=0)),
  qc6 (Q0 qpu (x:=("Feed","MOST_DEPTH",(.int 6))) (i:=0)),
  qc6 (Q0 qpu (x:=("Feed","MOST_LEAVES",(.int 16))) (i:=1)),
  qc6 (Q0 qpu (x:=("Feed","MOST_PARTS",(.int 24))) (i:=2)),
  qem z6,
  Rv z9,
  Rv yg,
  Rv z8,
  Rv z7,
  Rv qbf,
  Rv yf,
  Rv ye,
  qcb qdb,
  qcb z5,
  qgc F5,
  qiV Rx,
  Q3 X G (Q0 c2 (i:=46)),
  Q3 X G (Q0 c2 (i:=47))⟩
theorem qk1 (hl:∀ns:List Int,ns.length≤63→∃bs,qdN [.d (.ro (ns.map .int))]=.ok (.d (.bl true)) bs) {w:World} {K:PySem.W.Frag} {h:Heap} {mg:Str→Option Value} (X:K.In h) (G:h.Ns mainGlobals mg) (cP:jg fnL msL prL ck K) :
  mg "law"=some (.ref (cA K "law"))∧∃fd:FuncData,(∀(s:Shared) (u:Value),BindsTo s fd ⟨[u],[]⟩ [("_law_script",u)])∧∀base:Heap,FnOk PySem.Challenge.pw_unseenfolds_k20_orders_off_the_cells w K mg base CX0 48 (cA K "law") fd ["_law_script"] (Oo K 63):=by
 have T:=qh9 X G cP;have c:=cP.c;have Ho:=fun base:Heap=>Rn (w:=w) (base:=base) (c.def_ 0 (d:=Hm)) T;have Pj:=fun base:Heap=>Lu (w:=w) (base:=base) (c.def_ 1 (d:=Sv)) T;have K2:=fun base:Heap=>xb (w:=w) (base:=base) (c.def_ 2 (d:=Il)) T;have Uu:=fun base:Heap=>Ds (w:=w) (base:=base) (c.def_ 3 (d:=My)) T;have Ph:=fun base:Heap=>Ls (w:=w) (base:=base) (c.def_ 4 (d:=Su)) T;have M5:=fun base:Heap=>Ad (w:=w) (base:=base) (c.def_ 5 (d:=De)) T;have Uc:=fun base:Heap=>j8 (w:=w) (base:=base) (c.def_ 6 (d:=Ij)) T;have M4:=fun base:Heap=>Ac (w:=w) (base:=base) (c.def_ 7 (d:=Dd)) T;have Rz:=fun base:Heap=>qg (w:=w) (base:=base) (c.def_ 8 (d:=Lh)) T;have jl:=fun base:Heap=>Am (w:=w) (base:=base) (cP.qnb 0 (d:=Dl)) T;have Kg:=fun base:Heap=>Ly (w:=w) (base:=base) (c.def_ 9 (d:=Sx)) T;have Zd:=fun base:Heap=>qi (w:=w) (base:=base) (c.def_ 10 (d:=Lj)) T;have W3:=fun base:Heap=>L0 (w:=w) (base:=base) (c.def_ 11 (d:=Sz)) T;have Wh:=fun base:Heap=>Aj (w:=w) (base:=base) (c.def_ 12 (d:=Dj)) T;have Zz:=fun base:Heap=>Du (w:=w) (base:=base) (c.def_ 13 (d:=M0)) T;have M9:=fun base:Heap=>Ak (w:=w) (base:=base) (c.def_ 14 (d:=Dk)) T;have Zh:=fun base:Heap=>Cg (w:=w) (base:=base) (c.def_ 15 (d:=Pt)) T;have Ve:=fun base:Heap=>B7 (w:=w) (base:=base) (c.def_ 16 (d:=Rf)) T;have Wa:=fun base:Heap=>B9 (w:=w) (base:=base) (c.def_ 17 (d:=Rg)) T;have M6:=fun base:Heap=>Ae (w:=w) (base:=base) (c.def_ 18 (d:=Df)) T (Uu base);have Cy:=fun base:Heap=>j9 (w:=w) (base:=base) (c.def_ 19 (d:=Ik)) T (Ph base);have Ll:=fun base:Heap=>qaS (w:=w) (base:=base) (c.def_ 20 (d:=jh)) T (Uc base) (M5 base);have Lm:=fun base:Heap=>qaT (w:=w) (base:=base) (c.def_ 21 (d:=ji)) T (K2 base);have Uv:=fun base:Heap=>qh (w:=w) (base:=base) (c.def_ 22 (d:=Li)) T (Zd base);have Pl:=fun base:Heap=>Lz (w:=w) (base:=base) (c.def_ 23 (d:=Sy)) T (Zd base);have Pm:=fun base:Heap=>L6 (w:=w) (base:=base) (c.def_ 24 (d:=S9)) T (Zz base);have M8:=fun base:Heap=>Ai (w:=w) (base:=base) (c.def_ 25 (d:=Di)) T (M9 base);have Xu:=fun base:Heap=>L5 (w:=w) (base:=base) (c.def_ 26 (d:=S8)) T (Zh base);have Ki:=fun base:Heap=>Rm (w:=w) (base:=base) (c.def_ 27 (d:=Hl)) T (Zh base);have Qj:∀base:Heap,MkKB PySem.Challenge.pw_unseenfolds_k20_orders_off_the_cells w K mg base 1 "Numbers" 6 0 ["divisor","modulus","spread","stride","reach"] [] [.k 0,.k 1,.k 2,.k 3,.k 4] Qm:=fun base=>qca (dm:=([]:List V)) (sl:=[.k 0,.k 1,.k 2,.k 3,.k 4]) T.Oy (Ho base) (fun fd F=>kb0 F 1 ["divisor","modulus","spread","stride","reach"] ([]:List (Str×V)) (Sl.p 0::([.k 0,.k 1,.k 2,.k 3,.k 4]:List Sl).map upS) (by simp) (by simp) (fun D doc pm an cdv ct us mv ws l1 l2 l3=>match us,mv,ws,l1,l2,l3 with | [_],[],[_,_,_,_,_],_,_,_=>rfl)) (fun _=>.nil) T.F6 (by decide);have D3:=fun base:Heap=>Ci (w:=w) (base:=base) (c.def_ 28 (d:=Pu)) T (Qj base);have M7:=fun base:Heap=>Ah (w:=w) (base:=base) (c.def_ 29 (d:=Dh)) T (Qj base);have Pk:=fun base:Heap=>Lx (w:=w) (base:=base) (c.def_ 30 (d:=Sw)) T (Qj base);have Hv:=fun base:Heap=>B4 (w:=w) (base:=base) (c.def_ 31 (d:=Ra)) T (Qj base);have Uw:=fun base:Heap=>qj (w:=w) (base:=base) (c.def_ 32 (d:=Lk)) T (Zd base) (W3 base) (Pl base);have Hw:=fun base:Heap=>B6 (w:=w) (base:=base) (c.def_ 33 (d:=Rc)) T (Pm base) (Zz base);have Yc:=fun base:Heap=>B5 (w:=w) (base:=base) (c.def_ 34 (d:=Rb)) T (Lm base) (Wa base) (M8 base) (K2 base) (Ki base) (Zh base);have Kh:=fun base:Heap=>L4 (w:=w) (base:=base) (c.def_ 35 (d:=S7)) T (Hw base);have Oj:∀(base:Heap) (n:Nat),FnB PySem.Challenge.pw_unseenfolds_k20_orders_off_the_cells w K mg base (0+n+1) "count_parts" ["parts"] ((Z9 n)):=fun base n=>by
  induction n with
  | zero=>exact (Zg (x:="count_parts") (st:=Xq) (N:=["parts","total","part"]) (body:=fun _=>.bad) (c.def_ 36 (d:=Pe)) T.T6 Hr (fun _ _ _ _ _ _ us hl=>match us,hl with | [_],_=>rfl) (fun _ _ _ _ _ _ _=>Rq))
  | succ n ih=>exact Lv (w:=w) (base:=base) (c.def_ 36 (d:=Pe)) T (ih)
 have Va:∀base:Heap,FnB PySem.Challenge.pw_unseenfolds_k20_orders_off_the_cells w K mg base 41 "count_parts" ["parts"] V7:=fun base=>(Oj base 40);have yo:∀(base:Heap) (n:Nat),FnB PySem.Challenge.pw_unseenfolds_k20_orders_off_the_cells w K mg base (0+n+1) "depth_of" ["parts"] ((Xt n)):=fun base n=>by
  induction n with
  | zero=>exact (Zg (x:="depth_of") (st:=Ks) (N:=["parts","deepest","part"]) (body:=fun _=>.bad) (c.def_ 37 (d:=Cv)) T.O5 Rk (fun _ _ _ _ _ _ us hl=>match us,hl with | [_],_=>rfl) (fun _ _ _ _ _ _ _=>Rq))
  | succ n ih=>exact xg (w:=w) (base:=base) (c.def_ 37 (d:=Cv)) T (ih)
 have Ud:∀base:Heap,FnB PySem.Challenge.pw_unseenfolds_k20_orders_off_the_cells w K mg base 41 "depth_of" ["parts"] H9:=fun base=>(yo base 40);have D4:∀(base:Heap) (n:Nat),FnB PySem.Challenge.pw_unseenfolds_k20_orders_off_the_cells w K mg base (0+n+1) "leaves_behind" ["parts","leaves"] ((Zs n)):=fun base n=>by
  induction n with
  | zero=>exact (Zg (x:="leaves_behind") (st:=Jn) (N:=["parts","leaves","part"]) (body:=fun _=>.bad) (c.def_ 38 (d:=Ut)) T.Mr Wi (fun _ _ _ _ _ _ us hl=>match us,hl with | [_,_],_=>rfl) (fun _ _ _ _ _ _ _=>Rq))
  | succ n ih=>exact Dt (w:=w) (base:=base) (c.def_ 38 (d:=Ut)) T (ih)
 have Xj:∀base:Heap,FnB PySem.Challenge.pw_unseenfolds_k20_orders_off_the_cells w K mg base 41 "leaves_behind" ["parts","leaves"] Yl:=fun base=>(D4 base 40);have Lo:=fun base:Heap=>Dw (w:=w) (base:=base) (c.def_ 39 (d:=M3)) T (Xj base) (Ud base) (Va base);have Lp:∀(base:Heap) (n:Nat),FnB PySem.Challenge.pw_unseenfolds_k20_orders_off_the_cells w K mg base (2+n+1) "part_row" ["part","row"] ((Q1 n).1)∧FnB PySem.Challenge.pw_unseenfolds_k20_orders_off_the_cells w K mg base (2+n+1) "row_behind" ["parts","row"] ((Q1 n).2):=fun base n=>by
  induction n with
  | zero=>exact⟨(Zg (x:="part_row") (st:=Kr) (N:=["part","row","begin","end"]) (body:=fun _=>.bad) (c.def_ 40 (d:=Cu)) T.O4 Rj (fun _ _ _ _ _ _ us hl=>match us,hl with | [_,_],_=>rfl) (fun _ _ _ _ _ _ _=>Rq)),(Zg (x:="row_behind") (st:=Yj) (N:=["parts","row","part"]) (body:=fun _=>.bad) (c.def_ 41 (d:=Mz)) T.Dc Gr (fun _ _ _ _ _ _ us hl=>match us,hl with | [_,_],_=>rfl) (fun _ _ _ _ _ _ _=>Rq))⟩
  | succ n ih=>exact⟨xc (w:=w) (base:=base) (c.def_ 40 (d:=Cu)) T (M6 base) (Cy base) (M4 base) (Ll base) (ih.2) (Uc base),Af (w:=w) (base:=base) (c.def_ 41 (d:=Mz)) T (ih.1)⟩
 have Io:∀base:Heap,FnB PySem.Challenge.pw_unseenfolds_k20_orders_off_the_cells w K mg base 43 "part_row" ["part","row"] qaK:=fun base=>(Lp base 40).1;have V3:∀base:Heap,FnB PySem.Challenge.pw_unseenfolds_k20_orders_off_the_cells w K mg base 43 "row_behind" ["parts","row"] Wc:=fun base=>(Lp base 40).2;have Gi:∀base:Heap,qfD PySem.Challenge.pw_unseenfolds_k20_orders_off_the_cells w K mg base 3 "__or__" 2 Wb:=fun base=>(qb0 (qgt T.Cf (D3 base) (by decide)) qdW);have Rh:∀(base:Heap) (n:Nat),FnB PySem.Challenge.pw_unseenfolds_k20_orders_off_the_cells w K mg base (3+n+1) "behind_part" ["part","old"] ((Qp n).1)∧FnB PySem.Challenge.pw_unseenfolds_k20_orders_off_the_cells w K mg base (3+n+1) "behind_parts" ["parts","numbers"] ((Qp n).2):=fun base n=>by
  induction n with
  | zero=>exact⟨(Zg (x:="behind_part") (st:=Xr) (N:=["part","old"]) (body:=fun _=>.bad) (c.def_ 42 (d:=Pf)) T.T7 Hs (fun _ _ _ _ _ _ us hl=>match us,hl with | [_,_],_=>rfl) (fun _ _ _ _ _ _ _=>Rq)),(Zg (x:="behind_parts") (st:=J0) (N:=["parts","numbers","part"]) (body:=fun _=>.bad) (c.def_ 43 (d:=Hu)) T.N9 Ug (fun _ _ _ _ _ _ us hl=>match us,hl with | [_,_],_=>rfl) (fun _ _ _ _ _ _ _=>Rq))⟩
  | succ n ih=>exact⟨Lw (w:=w) (base:=base) (c.def_ 42 (d:=Pf)) T (Pk base) (Hv base) (Gi base) (M7 base) (ih.2),B3 (w:=w) (base:=base) (c.def_ 43 (d:=Hu)) T (ih.1)⟩
 have Ca:∀base:Heap,FnB PySem.Challenge.pw_unseenfolds_k20_orders_off_the_cells w K mg base 44 "behind_part" ["part","old"] I0:=fun base=>(Rh base 40).1;have Yb:∀base:Heap,FnB PySem.Challenge.pw_unseenfolds_k20_orders_off_the_cells w K mg base 44 "behind_parts" ["parts","numbers"] Vd:=fun base=>(Rh base 40).2;have Cz:=fun base:Heap=>Tz (w:=w) (base:=base) (c.def_ 44 (d:=Gj)) T (V3 base) (Rz base);have Ej:∀base:Heap,qhC PySem.Challenge.pw_unseenfolds_k20_orders_off_the_cells w K mg base 1 "parts" Tc:=fun base=>(qbN (qgh T.E8 (jl base) (by decide)) qdQ);have Mx:∀base:Heap,MkKB PySem.Challenge.pw_unseenfolds_k20_orders_off_the_cells w K mg base 1 "Numbers" 6 0 [] [(.int 1),(.int 1),(.int 0),(.int 1),(.int 1)] [.m 0,.m 1,.m 2,.m 3,.m 4] Qm:=fun base=>qca (dm:=([(V.int 1),(V.int 1),(V.int 0),(V.int 1),(V.int 1)]:List V)) (sl:=[.m 0,.m 1,.m 2,.m 3,.m 4]) T.Oy (Ho base) (fun fd F=>kb0 F 1 [] ([("divisor",(V.int 1)),("modulus",(V.int 1)),("spread",(V.int 0)),("stride",(V.int 1)),("reach",(V.int 1))]:List (Str×V)) (Sl.p 0::([.m 0,.m 1,.m 2,.m 3,.m 4]:List Sl).map upS) (by simp) (by simp) (fun D doc pm an cdv ct us mv ws l1 l2 l3=>match us,mv,ws,l1,l2,l3 with | [_],[_,_,_,_,_],[],_,_,_=>⟨_,_,_,_,_,_,rfl,rfl,⟨_,_,_,_,_,_,rfl,rfl,⟨_,_,_,_,_,_,rfl,rfl,⟨_,_,_,_,_,_,rfl,rfl,⟨_,_,_,_,_,_,rfl,rfl,rfl⟩⟩⟩⟩⟩)) (fun _=>(.cons (.int 1) (.cons (.int 1) (.cons (.int 0) (.cons (.int 1) (.cons (.int 1) .nil)))))) T.F6 (by decide);have Hn:=fun base:Heap=>Ag (w:=w) (base:=base) (c.def_ 45 (d:=Dg)) T (Yb base) (Ej base) (Mx base);have Jk:∀base:Heap,qfE PySem.Challenge.pw_unseenfolds_k20_orders_off_the_cells w K mg base 44 "strands_at" 2 Zr:=fun base=>(qb8 (qgG T.qjm T.Co (Cz base) (by decide)) qd5);have Ln:=fun base:Heap=>qaU (w:=w) (base:=base) (c.def_ 46 (d:=jj)) T (Jk base) (Pj base);have Cw:=fun base:Heap=>j7 (w:=w) (base:=base) (c.def_ 47 (d:=Ii)) T (Hn base) (Gi base);have Gk:=fun base:Heap=>xi (w:=w) (base:=base) (c.def_ 48 (d:=Im)) T (Ln base) (Cw base);have Lf:∀base:Heap,MkB PySem.Challenge.pw_unseenfolds_k20_orders_off_the_cells w K mg base 42 "Feed" 2 [] Jp:=fun base=>qjd T.qgD (Lo base) T.qat (by decide);exact⟨T.qoM,qiW (w:=w) (c.def_ 49 (d:=qla)) T Kg Kh Lf Zd Jk Gk Yc Uw Wh Uv Ve Xu hl⟩
end Law
namespace Law
open PySem L2 DL
def drV (ds:List Int) (m:Int):Int:=match ds.getLast? with
 | none=>0
 | some z=>z.fmod m
theorem qkI {ds:List Int} {m:Int} (hm:0<m):0≤drV ds m:=by
 unfold drV;split
 ·exact Int.le_refl _
 ·exact Int.fmod_nonneg_of_pos _ hm
theorem qkJ {ds:List Int} {m:Int} (hm:0<m):drV ds m<m:=by
 unfold drV;split
 ·exact hm
 ·exact Int.fmod_lt_of_pos _ hm
theorem qkH (ds:List Int) (m:Int) (hm:0<m):Qz [.r (.lst (ds.map .int)),.d (.int m)]=.ok (.d (.int (drV ds m))) [.r (.lst (ds.dropLast.map .int)),.d (.int m)]:=by
 unfold Qz G7 drV;rcases List.eq_nil_or_concat ds with rfl | ⟨xs,z,rfl⟩
 ·simp
 ·have h1:¬((xs.length:Int)+1=0):=by omega
  have h2:m≠0:=by omega
  simp[h1,h2,List.getLast?_append,List.dropLast_append_of_ne_nil]
theorem qfR (S o2 o3 o6:Option L) (r:Int) (ms:List Int) (hm:ms.length≤4000):∃(ms':List Int) (r':Int),
  Zy (Qg 5) Yr (Z4 0 60) [S,some (.m (.lst (ms.map .int))),o2,o3,some (.d (.int r)),none,o6]=.ok .nx [S,some (.m (.lst (ms'.map .int))),o2,o3,some (.d (.int r')),none,o6]∧ms'.length≤ms.length+60:=by
 obtain⟨⟨ms',r'⟩,e,h⟩:=Fy (n:=60) (gm:=Qg 5) (b:=Yr) (S:=List Int×Int) (s:=(ms,r)) (fun s=>[S,some (.m (.lst (s.1.map .int))),o2,o3,some (.d (.int s.2)),none,o6])
  (fun i s=>s.1.length≤ms.length+i) (Nat.le_refl _) (by
   rintro i ⟨ms',r'⟩ hi h;have hl:ms'.length≤100000:=by simp at h;omega
   have hb:Rw 1000:=⟨by decide,by unfold big;decide +kernel⟩;by_cases hr:0<r'
   ·refine⟨_,(ms'++[r'.fmod 1000],r'.fdiv 1000),by simp;rfl,by simp[Yr,hr,hl,hb],by simp at h ⊢;omega⟩
   ·refine⟨_,(ms',r'),by simp;rfl,by simp[Yr,hr],by simp at h ⊢;omega⟩)
 exact⟨ms',r',e,h⟩
theorem qfS (S o4:Option L) (k c:Int) (hk:0≤k) (hk2:k<1000) (hc:0≤c) (hc2:c<1000000000000000000) (ms:List Int) (hm:ms.length≤4000):∃(ms':List Int),
  Zy (Qg 5) Kc (Z4 0 3) [S,some (.m (.lst (ms.map .int))),some (.d (.int k)),some (.d (.int c)),o4,none,none]=.ok .nx [S,some (.m (.lst (ms'.map .int))),some (.d (.int k)),some (.d (.int c)),o4,none,none]∧ms'.length≤ms.length+3:=by
 obtain⟨ms',e,h⟩:=Fy (n:=3) (gm:=Qg 5) (b:=Kc) (S:=List Int) (s:=ms) (fun s=>[S,some (.m (.lst (s.map .int))),some (.d (.int k)),some (.d (.int c)),o4,none,none])
  (fun i s=>s.length≤ms.length+i) (Nat.le_refl _) (by
   rintro i ms' hi h;have hl:ms'.length≤100000:=by omega
   have m1:J9 6 k:=.inl (by decide);have m2:J9 2 (i:Int):=.inl (by decide);have m3:∀z,J9 (c+1) z:=fun z=>.inl (by omega);have m4:∀z:Int,J9 (z.fmod 2147483629) (z.fmod 2147483629):=fun z=>by
    rw[Int.fmod_eq_emod_of_nonneg _ (by decide)];exact .inl (by omega)
   refine⟨_,ms'++[(((c+1)*(48271+6*k+2*(i:Int))).fmod 2147483629*((c+1)*(48271+6*k+2*(i:Int))).fmod 2147483629).fmod 1000003],by simp;rfl,by simp[Kc,hl,m1,m2,m3,m4],by simp;omega⟩)
 exact⟨ms',e,h⟩
theorem qfQ (ns:List Int) (hl:ns.length≤63):∃(ms:List Int),
  Zy (Qg 2) Xi (Z4 0 ns.length) [some (.d (.ro (ns.map .int))),some (.m (.lst [])),none,none,none,none,none]=.ok .nx [some (.d (.ro (ns.map .int))),some (.m (.lst (ms.map .int))),none,none,none,none,none]∧ms.length≤4000:=by
 obtain⟨ms,e,h⟩:=Fy (n:=ns.length) (gm:=Qg 2) (b:=Xi) (S:=List Int) (s:=[]) (fun s=>[some (.d (.ro (ns.map .int))),some (.m (.lst (s.map .int))),none,none,none,none,none])
  (fun i s=>s.length≤60*i) (Nat.zero_le _) (by
   rintro i ms hi h;have hix:L2.atI (ns.map D.int) (i:Int)=some (.int ns[i]):=qdl (by simp[hi]);by_cases hc:0≤ns[i]∧ns[i]<1000000000000000000
   ·obtain⟨ms',e1,q⟩:=qfS (some (.d (.ro (ns.map .int)))) (some (.d (.int ns[i]))) (i:Int) ns[i] (by omega) (by omega) hc.1 hc.2 ms (by omega);have ha:((ns[i]).natAbs:Int)=ns[i]:=by omega
    exact⟨_,ms',by simp;rfl,by simp[Xi,hix,hc.1,hc.2,e1,ha],by omega⟩
   ·obtain⟨ms',r',e1,q⟩:=qfR (some (.d (.ro (ns.map .int)))) (some (.d (.int (i:Int)))) (some (.d (.int ns[i]))) none (ns[i]).natAbs ms (by omega);by_cases h0:0≤ns[i]
    ·have h1:¬ns[i]<1000000000000000000:=by omega
     exact⟨_,ms',by simp;rfl,by simp[Xi,hix,h0,h1,e1],by omega⟩
    ·exact⟨_,ms',by simp;rfl,by simp[Xi,hix,h0,e1],by omega⟩)
 exact⟨ms,by simpa using e,by omega⟩
theorem qdG (ns:List Int) (hl:ns.length≤63):∃ms:List Int,Y4 [.d (.ro (ns.map .int))]=.ok (.m (.lst (ms.map .int))) [.d (.ro (ns.map .int))]:=by
 obtain⟨ms,e,hm⟩:=qfQ ns hl;have h1:min (ns.length:Int) 63=ns.length:=by omega
 refine⟨ms.reverse,?_⟩;unfold Y4 Wx;simp[h1,e,pkE,qdU,show ns.length≤100000 by omega,show ms.length≤100000 by omega]
theorem dr (s:List Int) (m:Nat) (hm:0<m):∃(k:Nat) (s':List Int),k<m∧Qz [.r (.lst (s.map .int)),.d (.int m)]=.ok (.d (.int k)) [.r (.lst (s'.map .int)),.d (.int m)]:=by
 have h1:=qkI (ds:=s) (m:=(m:Int)) (by omega);have h2:=qkJ (ds:=s) (m:=(m:Int)) (by omega);refine⟨(drV s m).toNat,s.dropLast,by omega,?_⟩;rw[qkH s m (by omega),show ((drV s m).toNat:Int)=drV s m by omega]
theorem qjh (s:List Int) (g:Nat) (hg:g≤100):∃(z:Int) (s':List Int),0≤z∧z<1000 ^ g∧Ky [.r (.lst (s.map .int)),.d (.int g)]=.ok (.d (.int z)) [.r (.lst (s'.map .int)),.d (.int g)]:=by
 obtain⟨n,s0,hn,e0⟩:=dr s (g+1) (by omega);obtain⟨⟨z,s'⟩,e,h1,h2⟩:=qj7 (n:=n) (gm:=Qg 3) (b:=Pc) (S:=Int×List Int) (s:=(0,s0)) (fun p=>[some (.r (.lst (p.2.map .int))),some (.d (.int g)),some (.d (.int p.1)),none])
  (fun i p=>0≤p.1∧p.1<1000 ^ i) ⟨Int.le_refl 0,by simp⟩ (by
   rintro i ⟨z,s'⟩ hi ⟨h1,h2⟩;obtain⟨k,s1,hk,e1⟩:=dr s' 1000 (by decide);have m1:J9 z 1000:=.inr (.inl (by decide));simp at e1;refine⟨(z*1000+k,s1),by simp[Pc,m1,e1],?_,?_⟩
   ·simp only at h1 ⊢;omega
   ·simp only at h2 ⊢;rw[Int.pow_succ];omega)
 have k1:((g+1:Nat):Int)=(g:Int)+1:=by omega
 rw[k1]at e0;have hp:(1000:Int) ^ n≤1000 ^ g:=by
  exact_mod_cast Nat.pow_le_pow_right (n:=1000) (by decide) (show n≤g by omega)
 refine⟨z,s',h1,by simp only at h2;omega,?_⟩;unfold Ky G6;simp at e0 e;simp[e0,e,show n≤100000 by omega]
inductive Sm where
 | same | turn | front (b:Nat) | rest (b:Nat) | last (b:Nat) | but (b:Nat) | each (k i:Nat) | block (k i:Nat)
def Sm.d:Sm→D
 | .same=>.tup [.str "same"]
 | .turn=>.tup [.str "turn"]
 | .front b=>.tup [.str "front",.int b]
 | .rest b=>.tup [.str "rest",.int b]
 | .last b=>.tup [.str "last",.int b]
 | .but b=>.tup [.str "but",.int b]
 | .each k i=>.tup [.str "each",.int k,.int i]
 | .block k i=>.tup [.str "block",.int k,.int i]
def Sm.ok (M W:Nat):Sm→Prop
 | .same=>True
 | .turn=>True
 | .front b=>b≤M
 | .rest b=>b≤M
 | .last b=>b≤M
 | .but b=>b≤M
 | .each k i=>1≤k∧k≤W∧i<k
 | .block k i=>1≤k∧k≤W∧i<k
inductive Ps where
 | nil | sm (s:Sm) (t:Ps) | both (l r t:Ps)
abbrev opD:D:=.tup [.str "open"]
abbrev Cj:D:=.tup [.str "next"]
abbrev shD:D:=.tup [.str "shut"]
def Ps.flat:Ps→List D
 | .nil=>[]
 | .sm s t=>s.d::t.flat
 | .both l r t=>opD::(l.flat++Cj::(r.flat++shD::t.flat))
def Ps.app:Ps→Ps→Ps
 | .nil,u=>u
 | .sm s t,u=>.sm s (t.app u)
 | .both l r t,u=>.both l r (t.app u)
theorem Sa {u:Ps}:∀{t:Ps},(t.app u).flat=t.flat++u.flat
 | .nil=>rfl
 | .sm s t=>by
  show s.d::(t.app u).flat=_;rw[Sa];rfl
 | .both l r t=>by
  show opD::(l.flat++Cj::(r.flat++shD::(t.app u).flat))=_;rw[Sa];simp[Ps.flat]
def Ps.nb:Ps→Nat
 | .nil=>0
 | .sm _ t=>t.nb
 | .both l r t=>l.nb+r.nb+t.nb+1
def Ps.np:Ps→Nat
 | .nil=>0
 | .sm _ t=>t.np+1
 | .both l r t=>l.np+r.np+t.np+1
def Ps.wf (M W:Nat):Ps→Prop
 | .nil=>True
 | .sm s t=>s.ok M W∧t.wf M W
 | .both l r t=>l.wf M W∧r.wf M W∧t.wf M W
theorem Ow {u:Ps}:∀{t:Ps},(t.app u).nb=t.nb+u.nb
 | .nil=>by simp[Ps.app,Ps.nb]
 | .sm s t=>Ow (t:=t)
 | .both l r t=>by
  show l.nb+r.nb+(t.app u).nb+1=l.nb+r.nb+t.nb+1+u.nb;rw[Ow];omega
theorem vi {u:Ps}:∀{t:Ps},(t.app u).np=t.np+u.np
 | .nil=>by simp[Ps.app,Ps.np]
 | .sm s t=>by
  show (t.app u).np+1=t.np+1+u.np;rw[vi];omega
 | .both l r t=>by
  show l.np+r.np+(t.app u).np+1=l.np+r.np+t.np+1+u.np;rw[vi];omega
theorem yt {M W:Nat} {u:Ps}:∀{t:Ps},t.wf M W→u.wf M W→(t.app u).wf M W
 | .nil,_,h=>h
 | .sm s t,a,h=>⟨a.1,yt a.2 h⟩
 | .both l r t,a,h=>⟨a.1,a.2.1,yt a.2.2 h⟩
abbrev Fr:Type:=Ps×Option Ps
def zc:List Fr→Ps→List D
 | [],c=>c.flat
 | (p,none)::st,c=>zc st p++opD::c.flat
 | (p,some l)::st,c=>zc st p++opD::(l.flat++Cj::c.flat)
def tg:Fr→D
 | (_,none)=>.int 0
 | (_,some _)=>.int 1
def Xy (st:List Fr):List D:=(st.map tg).reverse
theorem qeQ {u:Ps}:∀{st:List Fr} {c:Ps},zc st (c.app u)=zc st c++u.flat
 | [],c=>Sa
 | (p,none)::st,c=>by simp[zc,Sa]
 | (p,some l)::st,c=>by simp[zc,Sa]
def zb:List Fr→Nat
 | []=>0
 | (p,none)::st=>zb st+p.nb
 | (p,some l)::st=>zb st+p.nb+l.nb
def zn:List Fr→Nat
 | []=>0
 | (p,none)::st=>zn st+p.np+1
 | (p,some l)::st=>zn st+p.np+l.np+1
def zs:List Fr→Nat
 | []=>0
 | (_,none)::st=>zs st
 | (_,some _)::st=>zs st+1
def zw (M W:Nat):List Fr→Prop
 | []=>True
 | (p,none)::st=>zw M W st∧p.wf M W
 | (p,some l)::st=>zw M W st∧p.wf M W∧l.wf M W
def fill:Ps→Ps
 | .nil=>.sm .same .nil
 | c=>c
def clo:List Fr→Ps→List Fr×Ps
 | [],c=>([],c)
 | (p,none)::st,c=>((p,some (fill c))::st,.nil)
 | (p,some l)::st,c=>(st,p.app (.both l (fill c) .nil))
theorem Nb:∀{c:Ps},c≠.nil→∃p d,c.flat=p++[d]∧((∃s:Sm,d=s.d)∨d=shD)
 | .nil,h=>absurd rfl h
 | .sm s t,_=>by
  cases t with
  | nil=>exact⟨[],s.d,rfl,.inl ⟨s,rfl⟩⟩
  | sm s2 t2=>
   obtain⟨p,d,e,h⟩:=Nb (c:=.sm s2 t2) (by simp);exact⟨s.d::p,d,by show s.d::(Ps.sm s2 t2).flat=_;rw[e];rfl,h⟩
  | both l r t2=>
   obtain⟨p,d,e,h⟩:=Nb (c:=.both l r t2) (by simp);exact⟨s.d::p,d,by show s.d::(Ps.both l r t2).flat=_;rw[e];rfl,h⟩
 | .both l r t,_=>by
  cases t with
  | nil=>exact⟨opD::(l.flat++Cj::r.flat),shD,by simp[Ps.flat],.inr rfl⟩
  | sm s2 t2=>
   obtain⟨p,d,e,h⟩:=Nb (c:=.sm s2 t2) (by simp);exact⟨opD::(l.flat++Cj::(r.flat++shD::p)),d,by show opD::(l.flat++Cj::(r.flat++shD::(Ps.sm s2 t2).flat))=_;rw[e];simp,h⟩
  | both l2 r2 t2=>
   obtain⟨p,d,e,h⟩:=Nb (c:=.both l2 r2 t2) (by simp);exact⟨opD::(l.flat++Cj::(r.flat++shD::p)),d,by show opD::(l.flat++Cj::(r.flat++shD::(Ps.both l2 r2 t2).flat))=_;rw[e];simp,h⟩
theorem Ue (s:Sm):∃w ds,s.d=.tup (.str w::ds)∧eqB (.str w) (.str "open")=some false∧eqB (.str w) (.str "next")=some false∧eqB (.str w) (.str "shut")=some false∧eqB (.str w) (.str "both")=some false:=by
 cases s<;>exact⟨_,_,rfl,by simp,by simp,by simp,by simp⟩
theorem qdL (s:List Int) (M W:Nat) (hW:0<W):∃(p:Sm) (s':List Int),p.ok M W∧Y5 [.r (.lst (s.map .int)),.d (.int M),.d (.int W)]=.ok (.d p.d) [.r (.lst (s'.map .int)),.d (.int M),.d (.int W)]:=by
 obtain⟨a,sa,ha,e1⟩:=dr s 10 (by decide);simp at e1;unfold Y5 Wy;by_cases h0:a=0
 ·subst h0;refine⟨.same,sa,trivial,?_⟩;simp[e1,Sm.d]
 by_cases h1:a=1
 ·subst h1;refine⟨.turn,sa,trivial,?_⟩;simp[e1,Sm.d]
 have h0':¬(a:Int)=0:=by omega
 have h1':¬(a:Int)=1:=by omega
 by_cases h6:a<6
 ·have h6':(a:Int)<6:=by omega
  obtain⟨b,sb,hb,e2⟩:=dr sa (M+1) (by omega);simp at e2;rcases (show a=2∨a=3∨a=4∨a=5 by omega) with rfl | rfl | rfl | rfl
  ·exact⟨.front b,sb,by show b≤M;omega,by simp[e1,e2,Sm.d]⟩
  ·exact⟨.rest b,sb,by show b≤M;omega,by simp[e1,e2,Sm.d]⟩
  ·exact⟨.last b,sb,by show b≤M;omega,by simp[e1,e2,Sm.d]⟩
  ·exact⟨.but b,sb,by show b≤M;omega,by simp[e1,e2,Sm.d]⟩
 ·have h6':¬(a:Int)<6:=by omega
  obtain⟨k,sb,hk,e2⟩:=dr sa W hW;obtain⟨i,sc,hi,e3⟩:=dr sb (k+1) (by omega);have ek:((k+1:Nat):Int)=1+(k:Int):=by omega
  rw[ek]at e3;rcases (show a=6∨a=7∨a=8∨a=9 by omega) with rfl | rfl | rfl | rfl
  ·exact⟨.each (k+1) i,sc,⟨by omega,by omega,hi⟩,by simp[e1,e2,e3,Sm.d];omega⟩
  ·exact⟨.block (k+1) i,sc,⟨by omega,by omega,hi⟩,by simp[e1,e2,e3,Sm.d];omega⟩
  ·exact⟨.each (k+1) i,sc,⟨by omega,by omega,hi⟩,by simp[e1,e2,e3,Sm.d];omega⟩
  ·exact⟨.block (k+1) i,sc,⟨by omega,by omega,hi⟩,by simp[e1,e2,e3,Sm.d];omega⟩
theorem vf (f:Fr) (st:List Fr) (c:Ps) (hl:(zc (f::st) c).length≤1000) :
  Ji [.r (.lst (zc (f::st) c)),.r (.lst (Xy (f::st)))]=.ok (.d .non) [.r (.lst (zc (clo (f::st) c).1 (clo (f::st) c).2)),.r (.lst (Xy (clo (f::st) c).1))]∧(zc (clo (f::st) c).1 (clo (f::st) c).2).length≤(zc (f::st) c).length+2:=by
 have lf:(fill c).flat.length≤c.flat.length+1:=by cases c<;>simp[fill,Ps.flat]
 have one:∀(q:List D),q++c.flat=zc (f::st) c→(c=.nil→∃q' d,q=q'++[d]∧(d=opD∨d=Cj))→
   (∃ρ,(sIf (mOr (tBl (eOp eqD (eOp ixD (eOp ixD (Qi 0) (eUn Ro (eC (.int 1)))) (eC (.int 0))) (eC (.str "open")))) (tBl (eOp eqD (eOp ixD (eOp ixD (Qi 0) (eUn Ro (eC (.int 1)))) (eC (.int 0))) (eC (.str "next")))))
 (Ql (Kj (D2 0 (Gg (Qf (eC (.str "same")) Qx))))
 Qw)
 Qw) [some (.r (.lst (q++c.flat))),some (.r (.lst (Xy (f::st))))]=.ok .nx ρ∧ρ=[some (.r (.lst (q++(fill c).flat))),some (.r (.lst (Xy (f::st))))]):=fun q hq h=>by
  cases c with
  | nil=>
   obtain⟨q',d,rfl,hd⟩:=h rfl;have hl':(q'++[d]).length≤100000:=by
    have:=congrArg List.length hq;simp[Ps.flat]at this ⊢;omega
   rcases hd with rfl | rfl
   ·refine⟨_,?_,rfl⟩;simp[Ps.flat,fill,Sm.d]at hl' ⊢;simp[hl']
   ·refine⟨_,?_,rfl⟩;simp[Ps.flat,fill,Sm.d]at hl' ⊢;simp[hl']
  | sm s t=>
   obtain⟨p,d,e,hd⟩:=Nb (c:=.sm s t) (by simp);refine⟨_,?_,rfl⟩;rw[show fill (.sm s t)=.sm s t from rfl,e,← List.append_assoc];generalize q++p=z;rcases hd with ⟨s2,rfl⟩ | rfl
   ·obtain⟨w,ds,e2,h1,h2,_⟩:=Ue s2;rw[e2];simp[h1,h2]
   ·simp
  | both l r t=>
   obtain⟨p,d,e,hd⟩:=Nb (c:=.both l r t) (by simp);refine⟨_,?_,rfl⟩;rw[show fill (.both l r t)=.both l r t from rfl,e,← List.append_assoc];generalize q++p=z;rcases hd with ⟨s2,rfl⟩ | rfl
   ·obtain⟨w,ds,e2,h1,h2,_⟩:=Ue s2;rw[e2];simp[h1,h2]
   ·simp
 obtain⟨p,o⟩:=f;cases o with
 | none=>
  have hz:zc ((p,none)::st) c=(zc st p++[opD])++c.flat:=by simp[zc]
  obtain⟨ρ,e,hρ⟩:=one (zc st p++[opD]) hz.symm (fun _=>⟨_,_,rfl,.inl rfl⟩);subst hρ;have hz2:zc (clo ((p,none)::st) c).1 (clo ((p,none)::st) c).2=(zc st p++[opD])++(fill c).flat++[Cj]:=by simp[zc,clo,Ps.flat]
  have hl2:((zc st p++[opD])++(fill c).flat).length≤100000:=by
   have:=congrArg List.length hz;simp at this ⊢;omega
  have ha:Xy ((p,none)::st)=Xy st++[.int 0]:=by simp[Xy,tg]
  have ha2:Xy (clo ((p,none)::st) c).1=Xy st++[.int 1]:=by simp[Xy,tg,clo]
  refine⟨?_,by rw[hz2,hz];simp;omega⟩;rw[hz2,hz,ha2];unfold Ji V9;simp only[D7,List.map,List.length,Nat.sub_self,List.replicate,List.append_nil];rw[show (Ql _ _:SM) _=_ from qbC];rw[e];rw[ha];generalize (zc st p++[opD])++(fill c).flat=z at hl2 ⊢;simp[hl2]
 | some l=>
  have hz:zc ((p,some l)::st) c=(zc st p++opD::(l.flat++[Cj]))++c.flat:=by simp[zc]
  obtain⟨ρ,e,hρ⟩:=one (zc st p++opD::(l.flat++[Cj])) hz.symm (fun _=>⟨zc st p++opD::l.flat,Cj,by simp,.inr rfl⟩);subst hρ;have hz2:zc (clo ((p,some l)::st) c).1 (clo ((p,some l)::st) c).2=(zc st p++opD::(l.flat++[Cj]))++(fill c).flat++[shD]:=by
   show zc st (p.app _)=_;rw[qeQ];simp[Ps.flat]
  have hl2:((zc st p++opD::(l.flat++[Cj]))++(fill c).flat).length≤100000:=by
   have:=congrArg List.length hz;simp at this ⊢;omega
  have ha:Xy ((p,some l)::st)=Xy st++[.int 1]:=by simp[Xy,tg]
  have ha2:Xy (clo ((p,some l)::st) c).1=Xy st:=rfl;refine⟨?_,by rw[hz2,hz];simp;omega⟩;rw[hz2,hz,ha2];unfold Ji V9;simp only[D7,List.map,List.length,Nat.sub_self,List.replicate,List.append_nil];rw[show (Ql _ _:SM) _=_ from qbC];rw[e];rw[ha];generalize (zc st p++opD::(l.flat++[Cj]))++(fill c).flat=z at hl2 ⊢;simp[hl2]
def zm:List Fr→Nat
 | []=>0
 | (_,none)::st=>zm st+2
 | (_,some _)::st=>zm st+1
theorem qfG:∀{st:List Fr},zm st≤2*st.length
 | []=>by simp[zm]
 | (_,none)::st=>by have:=qfG (st:=st);simp[zm];omega
 | (_,some _)::st=>by have:=qfG (st:=st);simp[zm];omega
theorem So {st:List Fr}:(Xy st).length=st.length:=by simp[Xy]
theorem qg9 {c:Ps}:(fill c).nb=c.nb:=by cases c<;>rfl
theorem qg8 {c:Ps}:(fill c).np≤c.np+1:=by cases c<;>simp[fill,Ps.np]
theorem qcO {M W:Nat} {c:Ps} (h:c.wf M W):(fill c).wf M W:=by
 cases c with
 | nil=>exact⟨trivial,trivial⟩
 | sm s t=>exact h
 | both l r t=>exact h
theorem qfB {p u:Ps} (h:u≠.nil):p.app u≠.nil:=by
 cases p with
 | nil=>exact h
 | sm s t=>exact fun z=>nomatch z
 | both l r t=>exact fun z=>nomatch z
structure Zi (M W B:Nat) (b t:Nat) (st:List Fr) (c:Ps):Prop where
 w:zw M W st
 wc:c.wf M W
 nb:zb st+c.nb+st.length+b≤B
 np:zn st+c.np≤t+2*(zb st+c.nb)+zs st
theorem Zi.clo {M W B b t:Nat} {f:Fr} {st:List Fr} {c:Ps} (h:Zi M W B b t (f::st) c):Zi M W B b t (clo (f::st) c).1 (clo (f::st) c).2∧zm (Law.clo (f::st) c).1+1=zm (f::st)∧((Law.clo (f::st) c).1≠[]∨(Law.clo (f::st) c).2≠.nil):=by
 obtain⟨p,o⟩:=f;obtain⟨h1,h2,h3,h4⟩:=h;have q1:=qg8 (c:=c);have q2:=qg9 (c:=c);cases o with
 | none=>
  refine⟨⟨⟨h1.1,h1.2,qcO h2⟩,trivial,?_,?_⟩,by simp[zm,Law.clo],.inl (by simp[Law.clo])⟩
  ·simp[zb,Law.clo,Ps.nb,q2]at h3 ⊢;omega
  ·simp[zn,zb,zs,Law.clo,Ps.nb,Ps.np,q2]at h4 ⊢;omega
 | some l=>
  refine⟨⟨h1.1,yt h1.2.1 ⟨h1.2.2,qcO h2,trivial⟩,?_,?_⟩,by simp[zm,Law.clo],.inr (qfB fun z=>nomatch z)⟩
  ·simp[zb,Law.clo,Ow,Ps.nb,q2]at h3 ⊢;omega
  ·simp[zn,zb,zs,Law.clo,Ow,vi,Ps.nb,Ps.np,q2]at h4 ⊢;omega
theorem qho (s:List Int) (T B M W:Nat) (hT:T≤10) (hB:B≤4) (hW:0<W):∃(z:List Int×List Fr×Ps×Nat),
  Zy (Qg 7) Jz (Z4 0 T) [some (.r (.lst (s.map .int))),some (.d (.int T)),some (.d (.int B)),some (.d (.int M)),some (.d (.int W)),some (.m (.lst [])),some (.m (.lst [])),none,none] =
   .ok .nx [some (.r (.lst (z.1.map .int))),some (.d (.int T)),some (.d (.int z.2.2.2)),some (.d (.int M)),some (.d (.int W)),some (.m (.lst (zc z.2.1 z.2.2.1))),some (.m (.lst (Xy z.2.1))),none,none]∧
  Zi M W B z.2.2.2 T z.2.1 z.2.2.1∧(zc z.2.1 z.2.2.1).length≤2*T∧(0<T→z.2.1≠[]∨z.2.2.1≠.nil):=by
 obtain⟨z,e,h⟩:=Fy (n:=T) (gm:=Qg 7) (b:=Jz) (S:=List Int×List Fr×Ps×Nat) (s:=(s,[],.nil,B))
  (fun z=>[some (.r (.lst (z.1.map .int))),some (.d (.int T)),some (.d (.int z.2.2.2)),some (.d (.int M)),some (.d (.int W)),some (.m (.lst (zc z.2.1 z.2.2.1))),some (.m (.lst (Xy z.2.1))),none,none])
  (fun t z=>Zi M W B z.2.2.2 t z.2.1 z.2.2.1∧(zc z.2.1 z.2.2.1).length≤2*t∧(0<t→z.2.1≠[]∨z.2.2.1≠.nil)) ⟨⟨trivial,trivial,by simp[zb,Ps.nb],by simp[zn,zb,zs,Ps.nb,Ps.np]⟩,by simp[zc,Ps.flat],fun h=>absurd h (Nat.lt_irrefl _)⟩ (by
   rintro t ⟨s,st,c,b⟩ ht ⟨hz,hl,_⟩;simp only at hz hl;obtain⟨k,s1,hk,e1⟩:=dr s 5 (by decide);simp at e1;by_cases c1:k=4∧0<b
   ·obtain⟨rfl,hb⟩:=c1;have hb':(0:Int)<b:=by omega
    have hb2:(b:Int)-1=((b-1:Nat):Int):=by omega
    have hzc:zc ((c,none)::st) .nil=zc st c++[opD]:=by simp[zc,Ps.flat]
    have har:Xy ((c,none)::st)=Xy st++[.int 0]:=by simp[Xy,tg]
    have l1:(zc st c).length≤100000:=by omega
    have l2:(Xy st).length≤100000:=by
     rw[So];have:=hz.nb;omega
    refine⟨_,(s1,(c,none)::st,.nil,b-1),rfl,?_,⟨⟨hz.w,hz.wc⟩,trivial,?_,?_⟩,?_,fun _=>.inl (by simp)⟩
    ·simp only[hzc,har];generalize zc st c=zz at l1 ⊢;generalize Xy st=aa at l2 ⊢;simp[Jz,e1,hb,hb',hb2,l1,l2]
    ·have:=hz.nb;simp[zb,Ps.nb]at this ⊢;omega
    ·have:=hz.np;simp[zn,zb,zs,Ps.nb,Ps.np]at this ⊢;omega
    ·simp only[hzc];simp;omega
   ·by_cases c2:k=3∧st≠[]
    ·obtain⟨rfl,hs⟩:=c2;cases st with
     | nil=>exact absurd rfl hs
     | cons f st=>
      obtain⟨e2,l2⟩:=vf f st c (by omega);obtain⟨hz2,_,hne⟩:=hz.clo;have hal:Xy (f::st)≠[]:=fun z=>by
       have:=congrArg List.length z;rw[So]at this;simp at this
      refine⟨_,(s1,(clo (f::st) c).1,(clo (f::st) c).2,b),rfl,?_,⟨hz2.w,hz2.wc,hz2.nb,by have:=hz2.np;simp only at this ⊢;omega⟩,by simp only;omega,fun _=>hne⟩;simp only;generalize zc (clo (f::st) c).1 (clo (f::st) c).2=z1 at e2 ⊢;generalize Xy (clo (f::st) c).1=z2 at e2 ⊢;generalize zc (f::st) c=z3 at e2 ⊢;generalize Xy (f::st)=z4 at e2 hal ⊢;have qoK:=List.length_pos_iff.mpr hal;simp[Jz,e1,e2,hal,qoK]
    ·obtain⟨p,s2,hp,e2⟩:=qdL s1 M W hW;have hzc:zc st (c.app (.sm p .nil))=zc st c++[p.d]:=by rw[qeQ];simp[Ps.flat]
     have l1:(zc st c).length≤100000:=by omega
     refine⟨_,(s2,st,c.app (.sm p .nil),b),rfl,?_,⟨hz.w,yt hz.wc ⟨hp,trivial⟩,?_,?_⟩,?_,fun _=>.inr (qfB fun z=>nomatch z)⟩
     ·simp only[hzc];have a1:¬((k:Int)=4∧(0:Int)<b):=by omega
      have a2:¬((k:Int)=3∧(0:Int)<((Xy st).length:Int)):=by
       rw[So];rintro⟨x,y⟩;exact c2 ⟨by omega,fun z=>by subst z;simp at y⟩
      generalize zc st c=zz at l1 ⊢;generalize Xy st=aa at a2 ⊢;by_cases b1:(k:Int)=4
      ·have b2:b=0:=by omega
       subst b2;simp[Jz,e1,e2,b1,l1]
      ·by_cases b3:(k:Int)=3
       ·have b4:aa=[]:=by
         cases aa with
         | nil=>rfl
         | cons x y=>exact absurd ⟨b3,by simp⟩ a2
        subst b4;simp[Jz,e1,e2,b3,l1]
       ·simp[Jz,e1,e2,b1,b3,l1]
     ·have:=hz.nb;simp[Ow,Ps.nb]at this ⊢;omega
     ·have:=hz.np;simp[Ow,vi,Ps.nb,Ps.np]at this ⊢;omega
     ·simp only[hzc];simp;omega)
 exact⟨z,by simpa [zc,Ps.flat,Xy] using e,h⟩
theorem qhp (T B M W b:Nat) (S o1 o2 o3 o4:Option L) (st:List Fr) (c:Ps) (hT:T≤10) (hB:B≤4) (hz:Zi M W B b T st c) (hl:(zc st c).length≤2*T) (hne:st≠[]∨c≠.nil):∃(p:Ps),
  Zy (Qg 7) Kf (Z4 0 (2*st.length)) [S,o1,o2,o3,o4,some (.m (.lst (zc st c))),some (.m (.lst (Xy st))),none,none] =
   .ok .nx [S,o1,o2,o3,o4,some (.m (.lst p.flat)),some (.m (.lst [])),none,none]∧p.wf M W∧p.nb≤B∧p.np≤T+2*p.nb∧p≠.nil:=by
 have hn:st.length≤4:=by have:=hz.nb;omega
 obtain⟨⟨st',c'⟩,e,h1,h2,h3,h4⟩:=Fy (n:=2*st.length) (gm:=Qg 7) (b:=Kf) (S:=List Fr×Ps) (s:=(st,c))
  (fun z=>[S,o1,o2,o3,o4,some (.m (.lst (zc z.1 z.2))),some (.m (.lst (Xy z.1))),none,none])
  (fun k z=>Zi M W B b T z.1 z.2∧zm z.1≤2*st.length-k∧(zc z.1 z.2).length≤2*T+2*k∧(z.1≠[]∨z.2≠.nil)) ⟨hz,qfG,by simpa using hl,hne⟩ (by
   rintro k ⟨st1,c1⟩ hk ⟨h1,h2,h3,h4⟩;simp only at h1 h2 h3 h4;cases st1 with
   | nil=>
    refine⟨_,([],c1),rfl,?_,h1,by simp[zm],by simp only;omega,h4⟩;simp only;generalize zc [] c1=zz;simp[Kf,Xy]
   | cons f st1=>
    obtain⟨e2,l2⟩:=vf f st1 c1 (by omega);obtain⟨hz2,hm,hne⟩:=h1.clo;have hal:Xy (f::st1)≠[]:=fun z=>by
     have:=congrArg List.length z;rw[So]at this;simp at this
    refine⟨_,((clo (f::st1) c1).1,(clo (f::st1) c1).2),rfl,?_,hz2,by simp only;omega,by simp only;omega,hne⟩;simp only;generalize zc (clo (f::st1) c1).1 (clo (f::st1) c1).2=z1 at e2 ⊢;generalize Xy (clo (f::st1) c1).1=z2 at e2 ⊢;generalize zc (f::st1) c1=z3 at e2 ⊢;generalize Xy (f::st1)=z4 at e2 hal ⊢;have qoK:=List.length_pos_iff.mpr hal;simp[Kf,e2,hal,qoK])
 simp only at h1 h2 h4 e;have h0:st'=[]:=by
  cases st' with
  | nil=>rfl
  | cons f st2=>
   obtain⟨p,o⟩:=f;cases o<;>(simp[zm]at h2<;>omega)
 subst h0;refine⟨c',e,h1.wc,?_,?_,?_⟩
 ·have:=h1.nb;simp[zb]at this;omega
 ·have:=h1.np;simp[zn,zb,zs]at this;omega
 ·rcases h4 with h4 | h4
  ·exact absurd rfl h4
  ·exact h4
theorem qkR (s:List Int) (T B M W:Nat) (hT:1≤T) (hT2:T≤10) (hB:B≤4) (hW:0<W):∃(p:Ps) (s':List Int),p.wf M W∧p.nb≤B∧p.np≤T+2*p.nb∧p≠.nil∧
  Kz [.r (.lst (s.map .int)),.d (.int T),.d (.int B),.d (.int M),.d (.int W)]=.ok (.m (.lst p.flat)) [.r (.lst (s'.map .int)),.d (.int T),.d (.int B),.d (.int M),.d (.int W)]:=by
 obtain⟨⟨s',st,c,b⟩,e1,hz,hl,hne⟩:=qho s T B M W hT2 hB hW;simp only at e1 hz hl hne;obtain⟨p,e2,h1,h2,h3,h4⟩:=qhp T B M W b (some (.r (.lst (s'.map .int)))) (some (.d (.int T))) (some (.d (.int b))) (some (.d (.int M))) (some (.d (.int W))) st c hT2 hB hz hl (hne (by omega));refine⟨p,s',h1,h2,h3,h4,?_⟩;have m1:J9 2 ((Xy st).length:Int):=.inl (by decide);have m2:(2*((Xy st).length:Int)).toNat=2*st.length:=by rw[So];omega
 unfold Kz G8;generalize hzz:zc st c=zz at e1 e2;simp[e1,m1,m2,e2]
def Ps.ds:Ps→List D
 | .nil=>[]
 | .sm s t=>s.d::t.ds
 | .both l r t=>.tup [.str "both",.tup l.ds,.tup r.ds]::t.ds
theorem qeE:∀{p:Ps},p.ds.length≤p.flat.length
 | .nil=>Nat.le_refl _
 | .sm s t=>by have:=qeE (p:=t);simp[Ps.ds,Ps.flat];omega
 | .both l r t=>by have:=qeE (p:=t);simp[Ps.ds,Ps.flat];omega
theorem qm8 (C:Option L) (rows:List (List D)) (h:rows.length≤100000):Zq rows [C,none,some (.d opD),none,none]=.nx (rows++[[]]) [C,none,none,none,none]:=by
 simp[Zq,h]
theorem qm9 (C:Option L) (rows:List (List D)) (h:rows.length≤100000):Zq rows [C,none,some (.d Cj),none,none]=.nx (rows++[[]]) [C,none,none,none,none]:=by
 simp[Zq,h]
theorem qm6 (C:Option L) (rs:List (List D)) (row:List D) (s:Sm) (h:row.length≤100000):Zq (rs++[row]) [C,none,some (.d s.d),none,none]=.nx (rs++[row++[s.d]]) [C,none,none,none,none]:=by
 obtain⟨w,ds,e,h1,h2,h3,_⟩:=Ue s;rw[e];simp[Zq,h,h1,h2,h3]
theorem qm7 (C:Option L) (rs:List (List D)) (row l r:List D) (h:row.length≤100000):Zq (rs++[row]++[l]++[r]) [C,none,some (.d shD),none,none]=.nx (rs++[row++[.tup [.str "both",.tup l,.tup r]]]) [C,none,none,none,none]:=by
 have e1:(rs++[row]++[l]++[r]).getLast?=some r:=by simp
 have e2:(rs++[row]++[l]++[r]).dropLast=rs++[row]++[l]:=by simp
 have e3:(rs++[row]++[l]).getLast?=some l:=by simp
 have e4:(rs++[row]++[l]).dropLast=rs++[row]:=by simp
 generalize rs++[row]++[l]++[r]=z at e1 e2;generalize rs++[row]++[l]=z2 at e2 e3 e4;simp[Zq,h,e1,e2,e3,e4]
theorem Tx (C:Option L):∀(p:Ps) (rest:List D) (rs:List (List D)) (row:List D),rs.length+p.flat.length≤1000→row.length+p.flat.length≤1000→
  Ga (Qg 2) Zq (p.flat++rest) (rs++[row]) [C,none,none,none,none]=Ga (Qg 2) Zq rest (rs++[row++p.ds]) [C,none,none,none,none]
 | .nil,rest,rs,row,_,_=>by simp[Ps.flat,Ps.ds]
 | .sm s t,rest,rs,row,h1,h2=>by
  simp[Ps.flat]at h1 h2;show Ga _ _ (s.d::(t.flat++rest)) _ _=_;rw[Gu (ρ1:=[C,none,some (.d s.d),none,none]) (by simp) (qm6 C rs row s (by omega)),Tx C t rest rs (row++[s.d]) (by omega) (by simp;omega)];simp[Ps.ds]
 | .both l r t,rest,rs,row,h1,h2=>by
  simp[Ps.flat]at h1 h2;have k1:=qeE (p:=l);have k2:=qeE (p:=r);have e:(Ps.both l r t).flat++rest=opD::(l.flat++(Cj::(r.flat++(shD::(t.flat++rest))))):=by simp[Ps.flat]
  rw[e,Gu (ρ1:=[C,none,some (.d opD),none,none]) (by simp) (qm8 C (rs++[row]) (by simp;omega)),
   Tx C l _ (rs++[row]) [] (by simp;omega) (by simp;omega),
   Gu (ρ1:=[C,none,some (.d Cj),none,none]) (by simp) (qm9 C (rs++[row]++[[]++l.ds]) (by simp;omega)),
   Tx C r _ (rs++[row]++[[]++l.ds]) [] (by simp;omega) (by simp;omega),
   Gu (ρ1:=[C,none,some (.d shD),none,none]) (by simp) (qm7 C rs row ([]++l.ds) ([]++r.ds) (by omega)),
   Tx C t rest rs _ (by omega) (by simp;omega)]
  simp[Ps.ds]
theorem Gy:∀{p:Ps},p.flat.length≤3*p.np
 | .nil=>Nat.zero_le _
 | .sm s t=>by have:=Gy (p:=t);simp[Ps.np,Ps.flat];omega
 | .both l r t=>by
  have:=Gy (p:=t);have:=Gy (p:=l);have:=Gy (p:=r);simp[Ps.np,Ps.flat];omega
theorem qgk (p:Ps) (h:p.np≤100):Vv [.d (.lst p.flat)]=.ok (.d (.tup p.ds)) [.d (.lst p.flat)]:=by
 have hl:=Gy (p:=p);have e:=Tx (some (.d (.lst p.flat))) p [] [] [] (by simp;omega) (by simp;omega);simp only[List.append_nil,List.nil_append,qaV]at e;have e0:L2.atI [p.ds] 0=some p.ds:=L2.atI_nat (xs:=[p.ds]) (j:=0) rfl;unfold Vv Hg;simp[e,e0]
structure St (S:Nat) (b s c:Int):Prop where
 s0:s≠0
 c1:1≤c
 b0:0≤b
 e0:0≤b+s*(c-1)
 cB:c≤1000000000000000000000000000000000000000000000000000000000000
 sB:s.natAbs≤S
 bB:b≤1000000000000000000000000000000000000000000000000000000000000
 eB:b+s*(c-1)≤1000000000000000000000000000000000000000000000000000000000000
abbrev tr (b s c:Int):D:=.tup [.int b,.int s,.int c]
def mem (b s:Int) (n:Nat):List Int:=(List.range n).map fun (i:Nat)=>b+s*(i:Int)
@[simp] theorem Xf {b s:Int} {n:Nat}:(mem b s n).length=n:=by simp[mem]
theorem Wk {b s:Int} {n i:Nat} (h:i<n):(mem b s n)[i]?=some (b+s*(i:Int)):=by simp[mem,h]
theorem qdC (b s c:Int) (m:J9 s (c-1)):Jo [.d (tr b s c)]=.ok (.d (tr (b+s*(c-1)) (-s) c)) [.d (tr b s c)]:=by
 unfold Jo V8;simp[m]
def eaV (b s c k i:Int):D:=if c≤i then .non else tr (b+s*i) (s*k) ((c-i+k-1).fdiv k)
theorem qkC (b s c k i:Int) (m1:c≤i∨J9 s i) (m2:J9 s k) (m3:Rw k):Y0 [.d (tr b s c),.d (.int k),.d (.int i)]=.ok (.d (eaV b s c k i)) [.d (tr b s c),.d (.int k),.d (.int i)]:=by
 unfold Y0 Wu eaV;by_cases h:c≤i
 ·simp[h]
 ·have m1:J9 s i:=m1.resolve_left h;simp[h,m1,m2,m3]
def cuV (b s lo hi:Int):D:=if lo=hi then .non else tr (b+s*lo) s (hi-lo)
theorem qkN (b s c lo hi:Int) (e:D) (he:e=.int hi∨(e=.non∧hi=c)) (h1:0≤lo) (h2:lo≤hi) (h3:hi≤c) (m:J9 s lo):∃bs,Vs [.d (tr b s c),.d (.int lo),.d e]=.ok (.d (cuV b s lo hi)) bs∧bs.length=3:=by
 have a1:¬lo<0:=by omega
 have a2:¬c<lo:=by omega
 have a3:¬hi<lo:=by omega
 have a4:¬c<hi:=by omega
 unfold Vs U9 cuV;rcases he with rfl | ⟨rfl,rfl⟩
 ·by_cases h:lo=hi
  ·subst h;simp[a1,a2]
  ·simp[a1,a2,a3,a4,h,m]
 ·by_cases h:lo=hi
  ·subst h;simp[a1]
  ·simp[a1,a2,h,m]
abbrev S3:=Int×Int×Int
abbrev e3 (x:S3):D:=tr x.1 x.2.1 x.2.2
abbrev V5 (r:List S3):D:=.tup (r.map fun x=>tr x.1 x.2.1 x.2.2)
def Xo:List S3→Int
 | []=>0
 | x::r=>x.2.2+Xo r
theorem yz:∀r:List S3,(r.map fun x=>x.2.2).sum=Xo r
 | []=>rfl
 | x::r=>by rw[List.map_cons,List.sum_cons,yz r];rfl
theorem qbg {z:Int} (h:z.natAbs≤10 ^ 61):z.natAbs<big:=Nat.lt_of_le_of_lt h (by unfold big;decide +kernel)
theorem Rp {x y:Int} (h1:x.natAbs≤10 ^ 61) (h2:y.natAbs≤10 ^ 61):J9 x y:=.inr (.inr ⟨qbg h1,qbg h2⟩)
def Zx (S:Nat) (r:List S3):Prop:=∀x∈r,St S x.1 x.2.1 x.2.2
theorem Zx.tl {S:Nat} {x:S3} {r:List S3} (h:Zx S (x::r)):Zx S r:=fun y hy=>h y (List.mem_cons_of_mem _ hy)
theorem Zx.hd {S:Nat} {x:S3} {r:List S3} (h:Zx S (x::r)):St S x.1 x.2.1 x.2.2:=h x List.mem_cons_self
theorem jt {S:Nat}:∀{r:List S3},Zx S r→0≤Xo r
 | [],_=>Int.le_refl _
 | x::r,h=>by
  have:=jt h.tl;have:=h.hd.c1;rw[Xo];omega
theorem qeo {α:Type} (f:α→Int) (xs:List α):T5 (xs.map fun x=>D.int (f x))=some (xs.map f):=by
 rw[← Fu (xs.map f),List.map_map];rfl
theorem qf4 (r:List S3) (hr:r.length≤1000):fLc (Ge (Qi 0)) [1] (Qg 1) qt (eOp ixD (Qi 1) (eC (.int 2))) [some (.d (V5 r)),none]=.ok (.lst (r.map fun x=>D.int x.2.2)) [some (.d (V5 r)),none]:=
 qci (xs:=r) (fun x=>tr x.1 x.2.1 x.2.2) (fun x=>D.int x.2.2) (by simp) (by simp) (Oc (by omega)) fun x hx=>by simp
theorem qeW (r:List S3) (hr:r.length≤1000):Y1 [.d (V5 r)]=.ok (.d (.int (Xo r))) [.d (V5 r)]:=by
 have e:=qf4 r hr;have e2:=yz r;unfold Y1 Nh;simp[e,qeo,e2]
def Ew (r:List S3):List S3:=r.reverse.map fun x=>(x.1+x.2.1*(x.2.2-1),-x.2.1,x.2.2)
theorem St.mc {S:Nat} {b s c:Int} (h:St S b s c) (hS:S≤10 ^ 61):J9 s (c-1):=Rp (Nat.le_trans h.sB hS) (by have:=h.cB;have:=h.c1;omega)
theorem qaA {S:Nat} {r:List S3} (ok:Zx S r) (hS:S≤10 ^ 61) (hr:r.length≤1000):Vt [.d (V5 r)]=.ok (.d (V5 (Ew r))) [.d (V5 r)]:=by
 have e:fLc (Ge (qft (Qi 0) (Fc (eUn Ro (eC (.int 1)))))) [1] (Qg 1) qt (Q9 1 Jo (Qf (Qi 1) Qx)) [some (.d (V5 r)),none]=.ok (.lst ((Ew r).map fun x=>tr x.1 x.2.1 x.2.2)) [some (.d (V5 r)),none]:=by
  unfold Ew;rw[List.map_map];refine qci (xs:=r.reverse) (fun x=>tr x.1 x.2.1 x.2.2) _ (by simp) (by simp) (by rw[List.length_reverse];exact Oc (by omega)) fun x hx=>?_;have hd:=ok x (by simpa using hx);have et:=qdC x.1 x.2.1 x.2.2 (hd.mc hS);simp[et]
 unfold Vt Ha;simp[e]
def Cr:List S3→Int→Int→Int→List S3
 | [],_,_,_=>[]
 | x::r,k,i,a=>(if x.2.2≤(i-a).fmod k then [] else [(x.1+x.2.1*(i-a).fmod k,x.2.1*k,(x.2.2-(i-a).fmod k+k-1).fdiv k)])++Cr r k i (a+x.2.2)
theorem qal:∀(r:List S3) (k i a:Int),(Cr r k i a).length≤r.length
 | [],_,_,_=>Nat.le_refl _
 | x::r,k,i,a=>by
  have:=qal r k i (a+x.2.2);rw[Cr,List.length_append,List.length_cons];split<;>simp<;>omega
theorem j0 {S:Nat} {o0:Option L} {k i:Int} (hk:0<k) (hk2:k≤1000):∀{r acc:List S3} {a:Int},Zx S r→S≤10 ^ 60→acc.length+r.length≤1000→
  Zy (Qg 5) V1 (r.map fun x=>tr x.1 x.2.1 x.2.2) [o0,some (.d (.int k)),some (.d (.int i)),some (.m (.lst (acc.map fun x=>tr x.1 x.2.1 x.2.2))),some (.d (.int a)),none,none] =
   .ok .nx [o0,some (.d (.int k)),some (.d (.int i)),some (.m (.lst ((acc++Cr r k i a).map fun x=>tr x.1 x.2.1 x.2.2))),some (.d (.int (a+Xo r))),none,none]
 | [],acc,a,_,_,_=>by simp[Cr,Xo]
 | x::r,acc,a,ok,hS,hl=>by
  rw[List.length_cons]at hl;have hd:=ok.hd;have f0:=Int.fmod_nonneg_of_pos (i-a) hk;have f1:=Int.fmod_lt_of_pos (i-a) hk;have m1:J9 x.2.1 ((i-a).fmod k):=.inr (.inl (by omega));have m2:J9 x.2.1 k:=.inr (.inl (by omega));have dk:Rw k:=⟨by omega,qbg (by omega)⟩;have ea:=qkC x.1 x.2.1 x.2.2 k ((i-a).fmod k) (.inr m1) m2 dk;have hk0:k≠0:=by omega
  unfold eaV at ea;by_cases h:x.2.2≤(i-a).fmod k
  ·rw[if_pos h]at ea;have e:bdE (Qg 5) V1 (tr x.1 x.2.1 x.2.2) [o0,some (.d (.int k)),some (.d (.int i)),some (.m (.lst (acc.map fun x=>tr x.1 x.2.1 x.2.2))),some (.d (.int a)),none,none] =
     .ok .nx [o0,some (.d (.int k)),some (.d (.int i)),some (.m (.lst (acc.map fun x=>tr x.1 x.2.1 x.2.2))),some (.d (.int (a+x.2.2))),none,none]:=by
    simp[V1,ea,hk0]
   rw[List.map_cons,Qs e,j0 hk hk2 ok.tl hS (by omega)];simp[Cr,h,Xo,Int.add_assoc]
  ·rw[if_neg h]at ea;have e:bdE (Qg 5) V1 (tr x.1 x.2.1 x.2.2) [o0,some (.d (.int k)),some (.d (.int i)),some (.m (.lst (acc.map fun x=>tr x.1 x.2.1 x.2.2))),some (.d (.int a)),none,none] =
     .ok .nx [o0,some (.d (.int k)),some (.d (.int i)),some (.m (.lst ((acc++[(x.1+x.2.1*(i-a).fmod k,x.2.1*k,(x.2.2-(i-a).fmod k+k-1).fdiv k)]).map fun x=>tr x.1 x.2.1 x.2.2))),some (.d (.int (a+x.2.2))),none,none]:=by
    simp[V1,ea,hk0,show acc.length≤100000 by omega]
   rw[List.map_cons,Qs e,j0 hk hk2 ok.tl hS (by simp;omega)];simp[Cr,h,Xo,Int.add_assoc]
theorem qeA {S:Nat} {r:List S3} (ok:Zx S r) (hS:S≤10 ^ 60) (hr:r.length≤900) {k i:Int} (hk:0<k) (hk2:k≤1000):W9 [.d (V5 r),.d (.int k),.d (.int i)]=.ok (.d (V5 (Cr r k i 0))) [.d (V5 r),.d (.int k),.d (.int i)]:=by
 have e:=j0 (o0:=some (.d (V5 r))) (i:=i) hk hk2 (acc:=[]) (a:=0) ok hS (by simp;omega);unfold W9 Ni;simp at e;simp[e]
theorem qeB {c f k:Int} (hk:0<k):1+(c-1-f).fdiv k=(c-f+k-1).fdiv k:=by
 have e:c-f+k-1=(c-1-f)+1*k:=by omega
 rw[e,Int.add_mul_fdiv_right _ _ (by omega)];omega
def jn:List S3→Int→Int→Int→List S3
 | [],_,_,_=>[]
 | x::r,lo,hi,a=>(if max (lo-a) 0<min (hi-a) x.2.2 then [(x.1+x.2.1*max (lo-a) 0,x.2.1,min (hi-a) x.2.2-max (lo-a) 0)] else [])++jn r lo hi (a+x.2.2)
theorem Ct:∀(r:List S3) (lo hi a:Int),(jn r lo hi a).length≤r.length
 | [],_,_,_=>Nat.le_refl _
 | x::r,lo,hi,a=>by
  have:=Ct r lo hi (a+x.2.2);rw[jn,List.length_append,List.length_cons];split<;>simp<;>omega
theorem three {bs:List L} (h:bs.length=3):∃x y z,bs=[x,y,z]:=by
 rcases bs with _ | ⟨x,_ | ⟨y,_ | ⟨z,_ | ⟨_,_⟩⟩⟩⟩<;>simp at h
 exact⟨x,y,z,rfl⟩
theorem j1 {S:Nat} {o0 o3:Option L} {lo hi:Int}:∀{r acc:List S3} {a:Int},Zx S r→S≤10 ^ 60→acc.length+r.length≤1000→
  Zy (Qg 6) K1 (r.map fun x=>tr x.1 x.2.1 x.2.2) [o0,some (.d (.int lo)),some (.d (.int hi)),o3,some (.m (.lst (acc.map fun x=>tr x.1 x.2.1 x.2.2))),some (.d (.int a)),none,none,none] =
   .ok .nx [o0,some (.d (.int lo)),some (.d (.int hi)),o3,some (.m (.lst ((acc++jn r lo hi a).map fun x=>tr x.1 x.2.1 x.2.2))),some (.d (.int (a+Xo r))),none,none,none]
 | [],acc,a,_,_,_=>by simp[jn,Xo]
 | x::r,acc,a,ok,hS,hl=>by
  rw[List.length_cons]at hl;have hd:=ok.hd;have cB:=hd.cB;by_cases h:max (lo-a) 0<min (hi-a) x.2.2
  ·have m1:J9 x.2.1 (max (lo-a) 0):=Rp (Nat.le_trans hd.sB (Nat.le_trans hS (by decide))) (by omega);obtain⟨bs,ec,hb⟩:=qkN x.1 x.2.1 x.2.2 (max (lo-a) 0) (min (hi-a) x.2.2) (.int (min (hi-a) x.2.2)) (.inl rfl) (by omega) (by omega) (by omega) m1;obtain⟨y1,y2,y3,rfl⟩:=three hb;unfold cuV at ec;rw[if_neg (by omega)]at ec;have e:bdE (Qg 6) K1 (tr x.1 x.2.1 x.2.2) [o0,some (.d (.int lo)),some (.d (.int hi)),o3,some (.m (.lst (acc.map fun x=>tr x.1 x.2.1 x.2.2))),some (.d (.int a)),none,none,none] =
     .ok .nx [o0,some (.d (.int lo)),some (.d (.int hi)),o3,some (.m (.lst ((acc++[(x.1+x.2.1*max (lo-a) 0,x.2.1,min (hi-a) x.2.2-max (lo-a) 0)]).map fun x=>tr x.1 x.2.1 x.2.2))),some (.d (.int (a+x.2.2))),none,none,none]:=by
    simp[K1,h,ec,show acc.length≤100000 by omega]
   rw[List.map_cons,Qs e,j1 ok.tl hS (by simp;omega)];simp only[jn,if_pos h,Xo];simp[Int.add_assoc]
  ·have e:bdE (Qg 6) K1 (tr x.1 x.2.1 x.2.2) [o0,some (.d (.int lo)),some (.d (.int hi)),o3,some (.m (.lst (acc.map fun x=>tr x.1 x.2.1 x.2.2))),some (.d (.int a)),none,none,none] =
     .ok .nx [o0,some (.d (.int lo)),some (.d (.int hi)),o3,some (.m (.lst (acc.map fun x=>tr x.1 x.2.1 x.2.2))),some (.d (.int (a+x.2.2))),none,none,none]:=by
    simp[K1,h]
   rw[List.map_cons,Qs e,j1 ok.tl hS (by omega)];simp only[jn,if_neg h,Xo];simp[Int.add_assoc]
theorem qhk {S:Nat} {r:List S3} (ok:Zx S r) (hS:S≤10 ^ 60) (hr:r.length≤900) (lo hi:Int) (e:D) (he:e=.int hi∨(e=.non∧hi=Xo r)):∃x y z,Ul [.d (V5 r),.d (.int lo),.d e] =
  (if lo<0∨Xo r<lo then .ex ⟨"BadPlace",some [("place",.int lo)]⟩ [x,y,z] else if hi<lo∨Xo r<hi then .ex ⟨"BadPlace",some [("place",.int hi)]⟩ [x,y,z] else .ok (.d (V5 (jn r lo hi 0))) [x,y,z]):=by
 have es:=qeW r (by omega);have el:=j1 (o0:=some (.d (V5 r))) (o3:=some (.d (.int (Xo r)))) (lo:=lo) (hi:=hi) (acc:=[]) (a:=0) ok hS (by simp;omega);have hn:=jt ok;unfold Ul Se;simp at el;rcases he with rfl | ⟨rfl,rfl⟩
 ·by_cases h1:lo<0
  ·simp[es,h1]
  ·by_cases h2:Xo r<lo
   ·simp[es,h1,h2]
   ·by_cases h3:hi<lo
    ·simp[es,h1,h2,h3]
    ·by_cases h4:Xo r<hi
     ·simp[es,h1,h2,h3,h4]
     ·simp[es,h1,h2,h3,h4,el]
 ·by_cases h1:lo<0
  ·simp[es,h1]
  ·by_cases h2:Xo r<lo
   ·simp[es,h1,h2]
   ·simp[es,h1,h2,el]
theorem St.nn {S:Nat} {b s c p:Int} (h:St S b s c) (h0:0≤p) (h1:p<c):0≤b+s*p∧b+s*p≤1000000000000000000000000000000000000000000000000000000000000:=by
 have hb:=h.b0;have he:=h.e0;have hB:=h.bB;have hE:=h.eB;by_cases hs:0≤s
 ·have h2:=Int.mul_nonneg hs h0;have h3:s*p≤s*(c-1):=Int.mul_le_mul_of_nonneg_left (by omega) hs;omega
 ·have h2:s*(c-1)≤s*p:=Int.mul_le_mul_of_nonpos_left (by omega) (by omega);have h3:s*p≤s*0:=Int.mul_le_mul_of_nonpos_left (by omega) h0;omega
theorem St.mono {S S':Nat} {b s c:Int} (h:St S b s c) (hS:S≤S'):St S' b s c:={ h with sB:=Nat.le_trans h.sB hS }
theorem St.sub {S:Nat} {b s c:Int} (h:St S b s c) {p k m:Int} (hp:0≤p) (hk:1≤k) (hk2:k≤9) (hm:1≤m) (hl:p+k*(m-1)<c):St (S*9) (b+s*p) (s*k) m:=by
 have h1:1*(m-1)≤k*(m-1):=Int.mul_le_mul_of_nonneg_right hk (by omega);have h0:=h.nn (p:=p) hp (by omega);have h2:=h.nn (p:=p+k*(m-1)) (by omega) hl;have e:b+s*p+s*k*(m-1)=b+s*(p+k*(m-1)):=by
  rw[Int.mul_add,Int.mul_assoc];omega
 have hc:=h.cB;refine⟨?_,hm,h0.1,by rw[e];exact h2.1,by omega,?_,h0.2,by rw[e];exact h2.2⟩
 ·exact Int.mul_ne_zero h.s0 (by omega)
 ·rw[Int.natAbs_mul];exact Nat.mul_le_mul h.sB (by omega)
theorem O8 {S:Nat}:∀{r:List S3} {lo hi a:Int},Zx S r→Zx (S*9) (jn r lo hi a)
 | [],_,_,_,_=>fun x hx=>nomatch hx
 | t::r,lo,hi,a,ok=>fun x hx=>by
  rw[jn]at hx;rcases List.mem_append.mp hx with z | z
  ·split at z
   ·rename_i q;rw[List.mem_singleton.mp z];have:=ok.hd.sub (p:=max (lo-a) 0) (k:=1) (m:=min (hi-a) t.2.2-max (lo-a) 0) (by omega) (by omega) (by omega) (by omega) (by omega);rw[Int.mul_one]at this;exact this
   ·cases z
  ·exact O8 ok.tl x z
theorem qbv {S:Nat} {r:List S3} (ok:Zx S r):Zx S (Ew r):=fun x hx=>by
 obtain⟨y,hy,rfl⟩:=List.mem_map.mp hx;have h:=ok y (by simpa using hy);have e:-y.2.1*(y.2.2-1)=-(y.2.1*(y.2.2-1)):=Int.neg_mul _ _;have s0:=h.s0;have b0:=h.b0;have e0:=h.e0;have bB:=h.bB;have eB:=h.eB;exact⟨show -y.2.1≠0 by omega,h.c1,h.e0,show 0≤y.1+y.2.1*(y.2.2-1) + -y.2.1*(y.2.2-1) by rw[e];omega,h.cB,by rw[Int.natAbs_neg];exact h.sB,h.eB,show y.1+y.2.1*(y.2.2-1) + -y.2.1*(y.2.2-1)≤_ by rw[e];omega⟩
theorem qc1 {S:Nat} {k i:Int} (hk:1≤k) (hk2:k≤9):∀{r:List S3} {a:Int},Zx S r→Zx (S*9) (Cr r k i a)
 | [],_,_=>fun x hx=>nomatch hx
 | t::r,a,ok=>fun x hx=>by
  rw[Cr]at hx;rcases List.mem_append.mp hx with z | z
  ·split at z
   ·cases z
   ·rename_i q;rw[List.mem_singleton.mp z];have f0:=Int.fmod_nonneg_of_pos (i-a) (show 0<k by omega);generalize (i-a).fmod k=f at *;have hd:0≤(t.2.2-f+k-1):=by omega
    have h1:=Int.mul_fdiv_add_fmod (t.2.2-f+k-1) k;have h2:=Int.fmod_nonneg_of_pos (t.2.2-f+k-1) (show 0<k by omega);have h3:=Int.fmod_lt_of_pos (t.2.2-f+k-1) (show 0<k by omega);have h4:1≤(t.2.2-f+k-1).fdiv k:=by
     rw[← qeB (by omega)];have:=Int.fdiv_nonneg (show 0≤t.2.2-1-f by omega) (show 0≤k by omega);omega
    refine ok.hd.sub f0 hk hk2 h4 ?_;show f+k*((t.2.2-f+k-1).fdiv k-1)<t.2.2;rw[Int.mul_sub,Int.mul_one];omega
  ·exact qc1 hk hk2 ok.tl x z
def Xk:List S3→List Int
 | []=>[]
 | x::r=>mem x.1 x.2.1 x.2.2.toNat++Xk r
theorem yq {S:Nat}:∀{r:List S3},Zx S r→((Xk r).length:Int)=Xo r
 | [],_=>rfl
 | x::r,h=>by
  have:=yq h.tl;have:=h.hd.c1;rw[Xk,Xo,List.length_append,Xf];omega
theorem qfp {α β:Type} {f:α→Option β} {g:α→β}:∀{l:List α},(∀j∈l,f j=some (g j))→l.filterMap f=l.map g
 | [],_=>rfl
 | x::l,h=>by
  rw[List.filterMap_cons,h x List.mem_cons_self,List.map_cons,qfp fun j hj=>h j (List.mem_cons_of_mem _ hj)]
theorem qrc {b s:Int} {n i:Nat}:(mem b s n)[i]?=if i<n then some (b+s*(i:Int)) else none:=by
 by_cases h:i<n
 ·rw[if_pos h,Wk h]
 ·rw[if_neg h,List.getElem?_eq_none (by rw[Xf];omega)]
theorem qgH (b s:Int) (n:Nat) (c:Int) (hc:c=(n:Int)):(mem b s n).reverse=mem (b+s*(c-1)) (-s) n:=by
 subst hc;refine List.ext_getElem? fun i=>?_;by_cases h:i<n
 ·rw[List.getElem?_reverse (by rw[Xf];exact h),Xf,Wk (by omega),Wk h];have e1:((n-1-i:Nat):Int)=(n:Int)-1-i:=by omega
  rw[e1];have e2:s*((n:Int)-1-(i:Int))=s*((n:Int)-1)-s*(i:Int):=Int.mul_sub _ _ _;have e3:-s*(i:Int)=-(s*(i:Int)):=Int.neg_mul _ _;rw[e2,e3];congr 1;omega
 ·rw[List.getElem?_eq_none (by rw[List.length_reverse,Xf];omega),List.getElem?_eq_none (by rw[Xf];omega)]
theorem R9:∀u v:List S3,Xk (u++v)=Xk u++Xk v
 | [],v=>rfl
 | x::u,v=>by rw[List.cons_append,Xk,Xk,R9 u v,List.append_assoc]
theorem En {S:Nat}:∀{r:List S3},Zx S r→Xk (Ew r)=(Xk r).reverse
 | [],_=>rfl
 | x::r,ok=>by
  have c1:=ok.hd.c1;have ih:=En ok.tl;unfold Ew at ih ⊢;rw[List.reverse_cons,List.map_append,R9,ih,Xk,List.reverse_append,qgH x.1 x.2.1 x.2.2.toNat x.2.2 (by omega)];simp[Xk]
theorem qje (b s:Int) (m H n:Nat):((mem b s m).take H).drop n=mem (b+s*(n:Int)) s (min H m-n):=by
 refine List.ext_getElem? fun i=>?_;rw[List.getElem?_drop];by_cases h:i<min H m-n
 ·rw[List.getElem?_take_of_lt (by omega),Wk (by omega),Wk h,show ((n+i:Nat):Int)=(n:Int)+(i:Int) by omega,Int.mul_add];congr 1;omega
 ·rw[List.getElem?_eq_none (by rw[List.length_take,Xf];omega),List.getElem?_eq_none (by rw[Xf];omega)]
theorem yr {S:Nat} {lo hi:Int}:∀{r:List S3} {a:Int},Zx S r→Xk (jn r lo hi a)=((Xk r).take (hi-a).toNat).drop (lo-a).toNat
 | [],a,_=>by simp[jn,Xk]
 | x::r,a,ok=>by
  have c1:=ok.hd.c1;have ih:=yr (lo:=lo) (hi:=hi) (a:=a+x.2.2) ok.tl;rw[jn,R9,ih,Xk,List.take_append,List.drop_append,qje,Xf,List.length_take,Xf];congr 1
  ·by_cases q:max (lo-a) 0<min (hi-a) x.2.2
   ·rw[if_pos q];show mem (x.1+x.2.1*max (lo-a) 0) x.2.1 (min (hi-a) x.2.2-max (lo-a) 0).toNat++[]=_;rw[List.append_nil,show ((lo-a).toNat:Int)=max (lo-a) 0 by omega,show (min (hi-a) x.2.2-max (lo-a) 0).toNat=min (hi-a).toNat x.2.2.toNat-(lo-a).toNat by omega]
   ·rw[if_neg q,show min (hi-a).toNat x.2.2.toNat-(lo-a).toNat=0 by omega];rfl
  ·by_cases q:x.2.2.toNat≤(hi-a).toNat
   ·rw[show (hi-(a+x.2.2)).toNat=(hi-a).toNat-x.2.2.toNat by omega,show (lo-(a+x.2.2)).toNat=(lo-a).toNat-min (hi-a).toNat x.2.2.toNat by omega]
   ·rw[show (hi-(a+x.2.2)).toNat=0 by omega,show (hi-a).toNat-x.2.2.toNat=0 by omega];simp
theorem qc8 {k u v f:Nat} (hk:0<k) (hv:v<k) (hf:f<k):(k*u+v-f+k-1) / k=if f<v then u+1 else u:=by
 have g:∀t:Nat,t*k=k*t:=fun t=>Nat.mul_comm t k;have g2:∀t:Nat,k*(t+1)=k*t+k:=fun t=>Nat.mul_succ k t;by_cases h:f<v
 ·rw[if_pos h];exact Nat.div_eq_of_lt_le (by rw[g];simp only[g2];omega) (by rw[g];simp only[g2];omega)
 ·rw[if_neg h];cases u with
  | zero=>exact Nat.div_eq_of_lt (by omega)
  | succ u=>exact Nat.div_eq_of_lt_le (by rw[g];simp only[g2];omega) (by rw[g];simp only[g2];omega)
theorem y0 {α:Type} (g:Nat→Option α) {k f:Nat} (hk:0<k) (hf:f<k):∀n:Nat,((List.range n).filterMap fun q=>if q % k=f then g q else none)=(List.range ((n-f+k-1) / k)).filterMap fun j=>g (f+k*j)
 | 0=>by
  rw[Nat.div_eq_of_lt (by omega)];rfl
 | n+1=>by
  have ih:=y0 g hk hf n;have hd:=Nat.div_add_mod n k;have hm:=Nat.mod_lt n hk;generalize n / k=u at hd;generalize hv:n % k=v at hd hm;have c1:=qc8 (u:=u) hk hm hf;rw[hd]at c1;have c2:(n+1-f+k-1) / k=if f<v+1 then u+1 else u:=by
   by_cases q:v+1<k
   ·have:=qc8 (u:=u) hk q hf;rw[show k*u+(v+1)=n+1 by omega]at this;exact this
   ·have:=qc8 (u:=u+1) (v:=0) hk hk hf;rw[show k*(u+1)+0=n+1 by rw[Nat.mul_add];omega]at this;rw[this,if_neg (by omega),if_pos (by omega)]
  rw[List.range_succ,List.filterMap_append,ih,c1,c2];by_cases e:v=f
  ·subst e;rw[if_neg (by omega),if_pos (by omega),List.range_succ,List.filterMap_append];congr 1;have e2:v+k*u=n:=by omega
   rw[List.filterMap_cons,List.filterMap_cons,e2,if_pos hv];rfl
  ·by_cases q:f<v
   ·rw[if_pos q,if_pos (by omega)];simp[hv,e]
   ·rw[if_neg q,if_neg (by omega)];simp[hv,e]
def sel (k i a:Int) (w:List Int):List Int:=(List.range w.length).filterMap fun (q:Nat)=>if (i-a-(q:Int)).fmod k=0 then w[q]? else none
theorem Ba {α β:Type} {f g:α→Option β}:∀{l:List α},(∀x∈l,f x=g x)→l.filterMap f=l.filterMap g
 | [],_=>rfl
 | x::l,h=>by
  rw[List.filterMap_cons,List.filterMap_cons,h x List.mem_cons_self,Ba fun y hy=>h y (List.mem_cons_of_mem _ hy)]
theorem qf8 (k i a:Int) (u v:List Int):sel k i a (u++v)=sel k i a u++sel k i (a+u.length) v:=by
 unfold sel;rw[List.length_append,List.range_add,List.filterMap_append,List.filterMap_map];congr 1
 ·refine Ba fun q hq=>?_;rw[List.getElem?_append_left (List.mem_range.mp hq)]
 ·refine Ba fun q hq=>?_;show (if (i-a-((u.length+q:Nat):Int)).fmod k=0 then (u++v)[u.length+q]? else none)=_;rw[List.getElem?_append_right (by omega),Nat.add_sub_cancel_left,show i-a-((u.length+q:Nat):Int)=i-(a+(u.length:Int))-(q:Int) by omega]
theorem qb9 {k:Nat} (hk:0<k) (z:Int) (f q:Nat) (hf:(f:Int)=z.fmod k):(z-(q:Int)).fmod k=0↔q % k=f:=by
 rw[Int.fmod_eq_emod_of_nonneg _ (by omega)]at hf ⊢;rw[← Int.emod_eq_emod_iff_emod_sub_eq_zero,← hf];constructor
 ·intro h;have:((q % k:Nat):Int)=(f:Int):=by rw[Int.natCast_emod,← h]
  exact_mod_cast this
 ·intro h;rw[← h,Int.natCast_emod]
theorem y7 (k:Nat) (hk:0<k) (i a:Int) (w:List Int) (f:Nat) (hf:(f:Int)=(i-a).fmod k):sel k i a w=(List.range ((w.length-f+k-1) / k)).filterMap fun j=>w[f+k*j]?:=by
 have h1:=Int.fmod_lt_of_pos (i-a) (show (0:Int)<k by omega);rw[← y0 (fun q=>w[q]?) hk (show f<k by omega)];unfold sel;refine Ba fun q _=>?_;by_cases e:q % k=f
 ·rw[if_pos e,if_pos ((qb9 hk _ f q hf).mpr e)]
 ·rw[if_neg e,if_neg fun z=>e ((qb9 hk _ f q hf).mp z)]
theorem qcM {α β:Type} {f:α→Option β} {g:α→β}:∀{l:List α},(∀j∈l,f j=some (g j))→l.filterMap f=l.map g
 | [],_=>rfl
 | x::l,h=>by
  rw[List.filterMap_cons,h x List.mem_cons_self,List.map_cons,qcM fun j hj=>h j (List.mem_cons_of_mem _ hj)]
theorem qf6 (b s:Int) (m k:Nat) (hk:0<k) (i a:Int) (f:Nat) (hf:(f:Int)=(i-a).fmod k):sel k i a (mem b s m)=mem (b+s*(f:Int)) (s*(k:Int)) ((m-f+k-1) / k):=by
 rw[y7 k hk i a _ f hf,Xf];refine qcM fun j hj=>?_;have hj:j<(m-f+k-1) / k:=by simpa using hj
 have h2:(j+1)*k≤m-f+k-1:=(Nat.le_div_iff_mul_le hk).mp hj;have h3:(j+1)*k=k*j+k:=by rw[Nat.add_mul,Nat.mul_comm j k,Nat.one_mul]
 rw[Wk (by omega)];rw[show ((f+k*j:Nat):Int)=(f:Int)+(k:Int)*(j:Int) by push_cast;rfl,Int.mul_add,Int.mul_assoc];congr 1;omega
theorem Eo {S:Nat} (k:Nat) (hk:0<k) {i:Int}:∀{r:List S3} {a:Int},Zx S r→Xk (Cr r k i a)=sel k i a (Xk r)
 | [],a,_=>rfl
 | x::r,a,ok=>by
  have c1:=ok.hd.c1;have f0:=Int.fmod_nonneg_of_pos (i-a) (show (0:Int)<k by omega);have f1:=Int.fmod_lt_of_pos (i-a) (show (0:Int)<k by omega);obtain⟨f,hf⟩:=Int.eq_ofNat_of_zero_le f0;have sm:=qf6 x.1 x.2.1 x.2.2.toNat k hk i a f hf.symm;rw[Cr,R9,Eo k hk ok.tl,Xk,qf8,Xf,show ((x.2.2.toNat:Nat):Int)=x.2.2 by omega,sm];congr 1;rw[hf];by_cases q:x.2.2≤(f:Int)
  ·rw[if_pos q,show (x.2.2.toNat-f+k-1) / k=0 from Nat.div_eq_of_lt (by omega)];rfl
  ·rw[if_neg q];show mem (x.1+x.2.1*(f:Int)) (x.2.1*k) ((x.2.2-(f:Int)+k-1).fdiv k).toNat++[]=_;rw[List.append_nil];congr 1;rw[Int.fdiv_eq_ediv_of_nonneg _ (by omega),show x.2.2-(f:Int)+(k:Int)-1=((x.2.2.toNat-f+k-1:Nat):Int) by omega,← Int.natCast_ediv,Int.toNat_natCast]
def loS:Sm→Int→Int
 | .rest b,N=>min (b:Int) N
 | .last b,N=>N-min (b:Int) N
 | .block k i,N=>((i:Int)*N).fdiv k
 | _,_=>0
def hiS:Sm→Int→Int
 | .front b,N=>min (b:Int) N
 | .but b,N=>N-min (b:Int) N
 | .block k i,N=>(((i:Int)+1)*N).fdiv k
 | _,N=>N
def Sm.cut:Sm→Bool
 | .same=>false
 | .turn=>false
 | .each _ _=>false
 | _=>true
theorem qhw {k:Nat} (h:k≤1000000):(k:Int).natAbs<big:=Nat.lt_of_le_of_lt (show (k:Int).natAbs≤10 ^ 61 from Nat.le_trans (by omega) (show 1000000≤10 ^ 61 by decide)) (by unfold big;decide +kernel)
theorem qhg {k:Nat} (h1:1≤k) (h:k≤1000000):Rw (k:Int):=⟨by omega,qhw h⟩
theorem Me {M W:Nat} (hM:M≤1000) (hW:W≤1000) {s:Sm} (h:s.ok M W) (hc:s.cut=true) (N:Int):Vr [.d s.d,.d (.int N)]=.ok (.d (.tup [.int (loS s N),.int (hiS s N)])) [.d s.d,.d (.int N)]:=by
 unfold Vr U8;cases s with
 | same=>cases hc
 | turn=>cases hc
 | each k i=>cases hc
 | front b=>simp[Sm.d,loS,hiS]
 | rest b=>simp[Sm.d,loS,hiS]
 | last b=>simp[Sm.d,loS,hiS]
 | but b=>simp[Sm.d,loS,hiS]
 | block k i=>
  have m1:J9 (i:Int) N:=.inl (by have:=h.2.1;have:=h.2.2;omega);have m2:J9 ((i:Int)+1) N:=.inl (by have:=h.2.1;have:=h.2.2;omega);have d1:=qhg h.1 (show k≤1000000 by have:=h.2.1;omega);simp[Sm.d,loS,hiS,m1,m2,d1]
def szS:Sm→Int→Int
 | .same,N=>N
 | .turn,N=>N
 | .each k i,N=>(N-i+k-1).fdiv k
 | s,N=>hiS s N-loS s N
def dp:Ps→Nat
 | .nil=>0
 | .sm _ t=>dp t
 | .both l r t=>max (1+max (dp l) (dp r)) (dp t)
def jy:Sm→List S3→List S3
 | .same,r=>r
 | .turn,r=>Ew r
 | .each k i,r=>Cr r k i 0
 | s,r=>jn r (loS s (Xo r)) (hiS s (Xo r)) 0
def Qu:Ps→List S3→List S3
 | .nil,r=>r
 | .sm s t,r=>Qu t (jy s r)
 | .both l r t,u=>Qu t (Qu l u++Qu r u)
def lv:Ps→Nat
 | .nil=>1
 | .sm _ t=>lv t
 | .both l r t=>(lv l+lv r)*lv t
theorem qaZ:∀{p:Ps},lv p≤2 ^ p.nb
 | .nil=>Nat.le_refl _
 | .sm _ t=>qaZ (p:=t)
 | .both l r t=>by
  have h1:=qaZ (p:=l);have h2:=qaZ (p:=r);have h3:=qaZ (p:=t);have e1:2 ^ l.nb≤2 ^ (l.nb+r.nb):=Nat.pow_le_pow_right (by decide) (by omega);have e2:2 ^ r.nb≤2 ^ (l.nb+r.nb):=Nat.pow_le_pow_right (by decide) (by omega);show (lv l+lv r)*lv t≤2 ^ (l.nb+r.nb+t.nb+1);have e3:2 ^ (l.nb+r.nb+t.nb+1)=(2 ^ (l.nb+r.nb)*2)*2 ^ t.nb:=by
   rw[show l.nb+r.nb+t.nb+1=(l.nb+r.nb+1)+t.nb by omega,Nat.pow_add,Nat.pow_succ]
  rw[e3];exact Nat.mul_le_mul (by omega) h3
theorem Zx.app {S:Nat} {r u:List S3} (h:Zx S r) (h2:Zx S u):Zx S (r++u):=fun x hx=>(List.mem_append.mp hx).elim (h x) (h2 x)
theorem Zx.mono {S S':Nat} {r:List S3} (h:Zx S r) (hs:S≤S'):Zx S' r:=fun x hx=>(h x hx).mono hs
theorem jx {M W S:Nat} (hW:W≤9) {s:Sm} (h:s.ok M W) {r:List S3} (ok:Zx S r):Zx (S*9) (jy s r):=by
 cases s with
 | same=>exact ok.mono (by omega)
 | turn=>exact (qbv ok).mono (by omega)
 | each k i=>exact qc1 (by have:=h.1;omega) (by have:=h.2.1;omega) ok
 | front b=>exact O8 ok
 | rest b=>exact O8 ok
 | last b=>exact O8 ok
 | but b=>exact O8 ok
 | block k i=>exact O8 ok
theorem y9 {s:Sm} {r:List S3}:(jy s r).length≤r.length:=by
 cases s with
 | same=>exact Nat.le_refl _
 | turn=>simp[jy,Ew]
 | each k i=>exact qal r k i 0
 | front b=>exact Ct r _ _ 0
 | rest b=>exact Ct r _ _ 0
 | last b=>exact Ct r _ _ 0
 | but b=>exact Ct r _ _ 0
 | block k i=>exact Ct r _ _ 0
theorem K3 {M W:Nat} (hW:W≤9):∀{p:Ps} {S:Nat} {r:List S3},p.wf M W→Zx S r→Zx (S*9 ^ p.np) (Qu p r)
 | .nil,S,r,_,ok=>by simpa [Qu,Ps.np] using ok
 | .sm s t,S,r,h,ok=>by
  have:=K3 hW (p:=t) h.2 (jx hW h.1 ok);show Zx (S*9 ^ (t.np+1)) (Qu t (jy s r));rw[Nat.pow_succ,Nat.mul_comm (9 ^ t.np) 9,← Nat.mul_assoc];exact this
 | .both l r t,S,u,h,ok=>by
  have a:=K3 hW (p:=l) h.1 ok;have b:=K3 hW (p:=r) h.2.1 ok;have e1:S*9 ^ l.np≤S*9 ^ (l.np+r.np+1):=Nat.mul_le_mul_left _ (Nat.pow_le_pow_right (by decide) (by omega));have e2:S*9 ^ r.np≤S*9 ^ (l.np+r.np+1):=Nat.mul_le_mul_left _ (Nat.pow_le_pow_right (by decide) (by omega));have c:=K3 hW (p:=t) h.2.2 ((a.mono e1).app (b.mono e2));show Zx (S*9 ^ (l.np+r.np+t.np+1)) _;rw[show l.np+r.np+t.np+1=(l.np+r.np+1)+t.np by omega,Nat.pow_add,← Nat.mul_assoc];exact c
theorem Uk:∀{p:Ps} {r:List S3},(Qu p r).length≤lv p*r.length
 | .nil,r=>by simp[Qu,lv]
 | .sm s t,r=>Nat.le_trans (Uk (p:=t)) (Nat.mul_le_mul_left _ y9)
 | .both l r t,u=>by
  have a:=Uk (p:=l) (r:=u);have b:=Uk (p:=r) (r:=u);refine Nat.le_trans (Uk (p:=t)) ?_;show lv t*(Qu l u++Qu r u).length≤(lv l+lv r)*lv t*u.length;rw[Nat.mul_comm (lv l+lv r) (lv t),Nat.mul_assoc];refine Nat.mul_le_mul_left _ ?_;rw[List.length_append,Nat.add_mul];omega
theorem Fi:∀{p:Ps},1≤lv p
 | .nil=>Nat.le_refl _
 | .sm _ t=>Fi (p:=t)
 | .both l r t=>by
  have h1:=Fi (p:=l);have h3:=Fi (p:=t);exact Nat.mul_pos (by omega) h3
theorem F0 {a b k:Int} (hk:0<k) (h:a≤b):a.fdiv k≤b.fdiv k:=by
 rw[Int.fdiv_eq_ediv_of_nonneg _ (by omega),Int.fdiv_eq_ediv_of_nonneg _ (by omega)];exact Int.ediv_le_ediv hk h
theorem qrk {M W:Nat} {s:Sm} (h:s.ok M W) (hc:s.cut=true) {N:Int} (hN:0≤N):0≤loS s N∧loS s N≤hiS s N∧hiS s N≤N:=by
 cases s with
 | same=>cases hc
 | turn=>cases hc
 | each k i=>cases hc
 | front b=>simp only[loS,hiS];omega
 | rest b=>simp only[loS,hiS];omega
 | last b=>simp only[loS,hiS];omega
 | but b=>simp only[loS,hiS];omega
 | block k i=>
  have hk:(0:Int)<k:=by have:=h.1;omega
  have h0:0≤(i:Int)*N:=Int.mul_nonneg (by omega) hN;have e1:((i:Int)+1)*N=i*N+N:=by rw[Int.add_mul,Int.one_mul]
  have h2:((i:Int)+1)*N≤k*N:=Int.mul_le_mul_of_nonneg_right (by have:=h.2.2;omega) hN;have h3:=F0 hk h2;rw[Int.mul_fdiv_cancel_left _ (by omega)]at h3;have h4:=F0 hk h0;rw[Int.zero_fdiv]at h4;exact⟨h4,F0 hk (by omega),h3⟩
theorem qiF {M W S:Nat} (hM:M≤1000) (hW:W≤9) {s:Sm} (h:s.ok M W) {r:List S3} (ok:Zx S r) (hS:S≤10 ^ 60) (hr:r.length≤900) (n:Nat):(Q1 (n+1)).1 [.d s.d,.d (V5 r)]=.ok (.d (V5 (jy s r))) [.d s.d,.d (V5 r)]:=by
 show Q7 4 (V0 (Q1 n).1 (Q1 n).2) _=_;unfold V0;have eT:=qaA ok (Nat.le_trans hS (Nat.pow_le_pow_right (by decide) (by decide))) (by omega);have eN:=qeW r (by omega);have hN:=jt ok;have cut:∀(hc:s.cut=true) (hs:jy s r=jn r (loS s (Xo r)) (hiS s (Xo r)) 0),∃x y z,Ul [.d (V5 r),.d (.int (loS s (Xo r))),.d (.int (hiS s (Xo r)))]=.ok (.d (V5 (jy s r))) [x,y,z]:=fun hc hs=>by
  obtain⟨x,y,z,e⟩:=qhk ok hS hr (loS s (Xo r)) (hiS s (Xo r)) (.int (hiS s (Xo r))) (.inl rfl);obtain⟨q1,q2,q3⟩:=qrk h hc hN;rw[if_neg (by omega),if_neg (by omega)]at e;rw[hs];exact⟨x,y,z,e⟩
 cases s with
 | same=>simp[Sm.d,jy]
 | turn=>simp[Sm.d,jy,eT]
 | each k i=>
  have e:=qeA ok hS hr (k:=(k:Int)) (i:=(i:Int)) (by have:=h.1;omega) (by have:=h.2.1;omega);simp[Sm.d,jy,e]
 | front b=>
  obtain⟨x,y,z,e⟩:=cut rfl rfl;have e2:=Me hM (show W≤1000 by omega) h rfl (Xo r);simp only[Sm.d]at e2 e ⊢;simp[e,e2,eN]
 | rest b=>
  obtain⟨x,y,z,e⟩:=cut rfl rfl;have e2:=Me hM (show W≤1000 by omega) h rfl (Xo r);simp only[Sm.d]at e2 e ⊢;simp[e,e2,eN]
 | last b=>
  obtain⟨x,y,z,e⟩:=cut rfl rfl;have e2:=Me hM (show W≤1000 by omega) h rfl (Xo r);simp only[Sm.d]at e2 e ⊢;simp[e,e2,eN]
 | but b=>
  obtain⟨x,y,z,e⟩:=cut rfl rfl;have e2:=Me hM (show W≤1000 by omega) h rfl (Xo r);simp only[Sm.d]at e2 e ⊢;simp[e,e2,eN]
 | block k i=>
  obtain⟨x,y,z,e⟩:=cut rfl rfl;have e2:=Me hM (show W≤1000 by omega) h rfl (Xo r);simp only[Sm.d]at e2 e ⊢;simp[e,e2,eN]
theorem jw {p:Ps} {m:Nat} {r:List S3} (h:∀P,Zy (Qg 2) (J6 (Q1 m).1 (Q1 m).2) p.ds [P,some (.d (V5 r)),none]=.ok .nx [P,some (.d (V5 (Qu p r))),none]) :
  (Q1 (m+1)).2 [.d (.tup p.ds),.d (V5 r)]=.ok (.d (V5 (Qu p r))) [.d (.tup p.ds),.d (V5 r)]:=by
 show Q7 3 (Vz (Q1 m).1 (Q1 m).2) _=_;unfold Vz;have e:=h (some (.d (.tup p.ds)));simp only[D7];simp[e]
theorem Tt {M W:Nat} (hM:M≤1000) (hW:W≤9):∀(p:Ps) (m S:Nat) (r:List S3) (P:Option L),p.wf M W→Zx S r→S*9 ^ p.np≤10 ^ 60→lv p*r.length≤900→2*dp p+1≤m→
  Zy (Qg 2) (J6 (Q1 m).1 (Q1 m).2) p.ds [P,some (.d (V5 r)),none]=.ok .nx [P,some (.d (V5 (Qu p r))),none]
 | .nil,m,S,r,P,_,_,_,_,_=>by simp[Ps.ds,Qu]
 | .sm s t,m,S,r,P,h,ok,hS,hl,hm=>by
  obtain⟨m,rfl⟩:∃k,m=k+1:=⟨m-1,by omega⟩;have hS':S*9*9 ^ t.np≤10 ^ 60:=by
   have:S*9 ^ (t.np+1)=S*9*9 ^ t.np:=by rw[Nat.pow_succ,Nat.mul_comm (9 ^ t.np) 9,← Nat.mul_assoc]
   rw[← this];exact hS
  have p9:1≤9 ^ t.np:=Nat.pos_of_ne_zero (by simp);have hS1:S≤10 ^ 60:=Nat.le_trans (Nat.le_trans (Nat.le_mul_of_pos_right S (by decide)) (Nat.le_mul_of_pos_right (S*9) p9)) hS';have hl1:r.length≤900:=Nat.le_trans (Nat.le_mul_of_pos_left _ (Fi (p:=t))) hl;have e:=qiF hM hW h.1 ok hS1 hl1 m;have e2:bdE (Qg 2) (J6 (Q1 (m+1)).1 (Q1 (m+1)).2) s.d [P,some (.d (V5 r)),none]=.ok .nx [P,some (.d (V5 (jy s r))),none]:=by
   generalize V5 (jy s r)=z at e ⊢;simp[J6,e]
  rw[Ps.ds,Qs e2,Tt hM hW t (m+1) (S*9) _ P h.2 (jx hW h.1 ok) hS' (Nat.le_trans (Nat.mul_le_mul_left _ y9) hl) hm];rfl
 | .both l r t,m,S,u,P,h,ok,hS,hl,hm=>by
  simp only[dp]at hm;obtain⟨m,rfl⟩:∃k,m=k+1+1:=⟨m-2,by omega⟩;have hS2:S*9 ^ (l.np+r.np+t.np+1)≤10 ^ 60:=hS;have hl2:(lv l+lv r)*lv t*u.length≤900:=hl;have ml:∀k,k≤l.np+r.np+t.np+1→S*9 ^ k≤10 ^ 60:=fun k hk=>Nat.le_trans (Nat.mul_le_mul_left _ (Nat.pow_le_pow_right (by decide) hk)) hS2;have t1:=Fi (p:=t);have hlr:(lv l+lv r)*u.length≤900:=by
   refine Nat.le_trans ?_ hl2;rw[Nat.mul_assoc];exact Nat.mul_le_mul_left _ (Nat.le_mul_of_pos_left _ t1)
  have hll:lv l*u.length≤900:=Nat.le_trans (Nat.mul_le_mul_right _ (by omega)) hlr;have hrr:lv r*u.length≤900:=Nat.le_trans (Nat.mul_le_mul_right _ (by omega)) hlr;have el:=jw (p:=l) (m:=m) (r:=u) fun P=>Tt hM hW l m S u P h.1 ok (ml _ (by omega)) hll (by omega);have er:=jw (p:=r) (m:=m) (r:=u) fun P=>Tt hM hW r m S u P h.2.1 ok (ml _ (by omega)) hrr (by omega);have a:=Uk (p:=l) (r:=u);have b:=Uk (p:=r) (r:=u);have hlen:(Qu l u++Qu r u).length≤(lv l+lv r)*u.length:=by
   rw[List.length_append,Nat.add_mul];omega
  have qoI:(Qu l u).length+(Qu r u).length≤100000:=by
   rw[List.length_append]at hlen;omega
  have e:(Q1 (m+1+1)).1 [.d (.tup [.str "both",.tup l.ds,.tup r.ds]),.d (V5 u)]=.ok (.d (V5 (Qu l u++Qu r u))) [.d (.tup [.str "both",.tup l.ds,.tup r.ds]),.d (V5 u)]:=by
   show Q7 4 (V0 (Q1 (m+1)).1 (Q1 (m+1)).2) _=_;unfold V0;simp[el,er,qoI]
  have e2:bdE (Qg 2) (J6 (Q1 (m+1+1)).1 (Q1 (m+1+1)).2) (.tup [.str "both",.tup l.ds,.tup r.ds]) [P,some (.d (V5 u)),none]=.ok .nx [P,some (.d (V5 (Qu l u++Qu r u))),none]:=by
   generalize V5 (Qu l u++Qu r u)=z at e ⊢;simp[J6,e]
  have okl:=K3 hW (p:=l) h.1 ok;have okr:=K3 hW (p:=r) h.2.1 ok;have e3:S*9 ^ l.np≤S*9 ^ (l.np+r.np+1):=Nat.mul_le_mul_left _ (Nat.pow_le_pow_right (by decide) (by omega));have e4:S*9 ^ r.np≤S*9 ^ (l.np+r.np+1):=Nat.mul_le_mul_left _ (Nat.pow_le_pow_right (by decide) (by omega));rw[Ps.ds,Qs e2,Tt hM hW t (m+1+1) (S*9 ^ (l.np+r.np+1)) _ P h.2.2 ((okl.mono e3).app (okr.mono e4)) (by
    rw[Nat.mul_assoc,← Nat.pow_add,show l.np+r.np+1+t.np=l.np+r.np+t.np+1 by omega];exact hS2) (by
    refine Nat.le_trans (Nat.mul_le_mul_left _ hlen) ?_;rw[← Nat.mul_assoc,Nat.mul_comm (lv t)];exact hl2) (by omega)]
  rfl
theorem E5 {M W S:Nat} (hM:M≤1000) (hW:W≤9) (p:Ps) (h:p.wf M W) (hd:dp p≤19) {r:List S3} (ok:Zx S r) (hS:S*9 ^ p.np≤10 ^ 60) (hl:lv p*r.length≤900):Wc [.d (.tup p.ds),.d (V5 r)]=.ok (.d (V5 (Qu p r))) [.d (.tup p.ds),.d (V5 r)]:=
 jw (m:=39) fun P=>Tt hM hW p 39 S r P h ok hS hl (by omega)
abbrev boD (l r:Ps):D:=.tup [.str "both",.tup l.ds,.tup r.ds]
theorem Eg {p:Ps} {m:Nat} (h:∀P,Zy (Qg 2) (Jr (Z9 m)) p.ds [P,some (.d (.int 0)),none]=.ok .nx [P,some (.d (.int p.np)),none]) :
  Z9 (m+1) [.d (.tup p.ds)]=.ok (.d (.int p.np)) [.d (.tup p.ds)]:=by
 show Q7 3 (Y8 (Z9 m)) _=_;unfold Y8;have e:=h (some (.d (.tup p.ds)));simp[e]
theorem count_loop:∀(p:Ps) (m:Nat) (z:Int) (P:Option L),dp p≤m→Zy (Qg 2) (Jr (Z9 m)) p.ds [P,some (.d (.int z)),none]=.ok .nx [P,some (.d (.int (z+p.np))),none]
 | .nil,m,z,P,_=>by simp[Ps.ds,Ps.np]
 | .sm s t,m,z,P,hm=>by
  obtain⟨w,ds,e0,_,_,_,h4⟩:=Ue s;have e2:bdE (Qg 2) (Jr (Z9 m)) s.d [P,some (.d (.int z)),none]=.ok .nx [P,some (.d (.int (z+1))),none]:=by
   rw[e0];simp[Jr,h4]
  rw[Ps.ds,Qs e2,count_loop t m _ P hm,show z+1+(t.np:Int)=z+((t.np+1:Nat):Int) by omega];rfl
 | .both l r t,m,z,P,hm=>by
  simp only[dp]at hm;obtain⟨m,rfl⟩:∃k,m=k+1:=⟨m-1,by omega⟩;have el:=Eg (p:=l) (m:=m) fun P=>by rw[count_loop l m 0 P (by omega),Int.zero_add]
  have er:=Eg (p:=r) (m:=m) fun P=>by rw[count_loop r m 0 P (by omega),Int.zero_add]
  have e2:bdE (Qg 2) (Jr (Z9 (m+1))) (boD l r) [P,some (.d (.int z)),none]=.ok .nx [P,some (.d (.int (z+1+(l.np+r.np)))),none]:=by
   simp[Jr,el,er]
  rw[Ps.ds,Qs e2,count_loop t (m+1) _ P (by omega),show z+1+((l.np:Int)+r.np)+(t.np:Int)=z+((l.np+r.np+t.np+1:Nat):Int) by omega];rfl
theorem qhn (p:Ps) (hd:dp p≤39):V7 [.d (.tup p.ds)]=.ok (.d (.int p.np)) [.d (.tup p.ds)]:=Eg (m:=39) fun P=>by rw[count_loop p 39 0 P hd,Int.zero_add]
theorem F2 {p:Ps} {m:Nat} (h:∀P,Zy (Qg 2) (Yq (Xt m)) p.ds [P,some (.d (.int 0)),none]=.ok .nx [P,some (.d (.int (dp p))),none]) :
  Xt (m+1) [.d (.tup p.ds)]=.ok (.d (.int (dp p))) [.d (.tup p.ds)]:=by
 show Q7 3 (Ub (Xt m)) _=_;unfold Ub;have e:=h (some (.d (.tup p.ds)));simp[e]
theorem Gh:∀(p:Ps) (m:Nat) (z:Nat) (P:Option L),dp p≤m→Zy (Qg 2) (Yq (Xt m)) p.ds [P,some (.d (.int z)),none]=.ok .nx [P,some (.d (.int ((max z (dp p):Nat):Int))),none]
 | .nil,m,z,P,_=>by simp[Ps.ds,dp]
 | .sm s t,m,z,P,hm=>by
  obtain⟨w,ds,e0,_,_,_,h4⟩:=Ue s;have e2:bdE (Qg 2) (Yq (Xt m)) s.d [P,some (.d (.int z)),none]=.ok .nx [P,some (.d (.int z)),none]:=by
   rw[e0];simp[Yq,h4]
  rw[Ps.ds,Qs e2,Gh t m _ P hm];rfl
 | .both l r t,m,z,P,hm=>by
  simp only[dp]at hm;obtain⟨m,rfl⟩:∃k,m=k+1:=⟨m-1,by omega⟩;have el:=F2 (p:=l) (m:=m) fun P=>by rw[show ((.int 0:D))=.int ((0:Nat):Int) from rfl,Gh l m 0 P (by omega),Nat.zero_max]
  have er:=F2 (p:=r) (m:=m) fun P=>by rw[show ((.int 0:D))=.int ((0:Nat):Int) from rfl,Gh r m 0 P (by omega),Nat.zero_max]
  have e3:max (z:Int) (1+max (dp l:Int) (dp r))=((max z (1+max (dp l) (dp r)):Nat):Int):=by omega
  have e2:bdE (Qg 2) (Yq (Xt (m+1))) (boD l r) [P,some (.d (.int z)),none]=.ok .nx [P,some (.d (.int ((max z (1+max (dp l) (dp r)):Nat):Int))),none]:=by
   simp[Yq,el,er,e3]
  rw[Ps.ds,Qs e2,Gh t (m+1) _ P (by omega),dp,show max (max z (1+max (dp l) (dp r))) (dp t)=max z (max (1+max (dp l) (dp r)) (dp t)) by omega]
theorem qhi (p:Ps) (hd:dp p≤39):H9 [.d (.tup p.ds)]=.ok (.d (.int (dp p))) [.d (.tup p.ds)]:=F2 (m:=39) fun P=>by rw[show ((.int 0:D))=.int ((0:Nat):Int) from rfl,Gh p 39 0 P hd,Nat.zero_max]
theorem Fm {p:Ps} {m:Nat} {z:Nat} (h:∀P,Zy (Qg 2) (Z5 (Zs m)) p.ds [P,some (.d (.int z)),none]=.ok .nx [P,some (.d (.int ((z*lv p:Nat):Int))),none]) :
  Zs (m+1) [.d (.tup p.ds),.d (.int z)]=.ok (.d (.int ((z*lv p:Nat):Int))) [.d (.tup p.ds),.d (.int z)]:=by
 show Q7 3 (Xh (Zs m)) _=_;unfold Xh;have e:=h (some (.d (.tup p.ds)));generalize ((z*lv p:Nat):Int)=y at e ⊢;simp[e]
theorem Uq:∀(p:Ps) (m:Nat) (z:Nat) (P:Option L),dp p≤m→Zy (Qg 2) (Z5 (Zs m)) p.ds [P,some (.d (.int z)),none]=.ok .nx [P,some (.d (.int ((z*lv p:Nat):Int))),none]
 | .nil,m,z,P,_=>by simp[Ps.ds,lv]
 | .sm s t,m,z,P,hm=>by
  obtain⟨w,ds,e0,_,_,_,h4⟩:=Ue s;have e2:bdE (Qg 2) (Z5 (Zs m)) s.d [P,some (.d (.int z)),none]=.ok .nx [P,some (.d (.int z)),none]:=by
   rw[e0];simp[Z5,h4]
  rw[Ps.ds,Qs e2,Uq t m _ P hm];rfl
 | .both l r t,m,z,P,hm=>by
  simp only[dp]at hm;obtain⟨m,rfl⟩:∃k,m=k+1:=⟨m-1,by omega⟩;have el:=Fm (p:=l) (m:=m) (z:=z) fun P=>Uq l m z P (by omega);have er:=Fm (p:=r) (m:=m) (z:=z) fun P=>Uq r m z P (by omega);have e3:((z*lv l:Nat):Int)+((z*lv r:Nat):Int)=((z*(lv l+lv r):Nat):Int):=by rw[Nat.mul_add];omega
  have e2:bdE (Qg 2) (Z5 (Zs (m+1))) (boD l r) [P,some (.d (.int z)),none]=.ok .nx [P,some (.d (.int ((z*(lv l+lv r):Nat):Int))),none]:=by
   rw[← e3];generalize ((z*lv l:Nat):Int)=y at el ⊢;generalize ((z*lv r:Nat):Int)=y2 at er ⊢;simp[Z5,el,er]
  rw[Ps.ds,Qs e2,Uq t (m+1) _ P (by omega),lv,Nat.mul_assoc]
theorem qea (p:Ps) (hd:dp p≤39):Yl [.d (.tup p.ds),.d (.int 1)]=.ok (.d (.int (lv p))) [.d (.tup p.ds),.d (.int 1)]:=by
 have:=Fm (p:=p) (m:=39) (z:=1) fun P=>Uq p 39 1 P hd;rw[Nat.one_mul]at this;exact this
abbrev Wt (p:Ps):D:=.ins "Feed" [("_parts",.tup p.ds),("_leaves",.int (lv p))]
theorem qbb:∀{p:Ps},dp p≤p.nb
 | .nil=>Nat.le_refl _
 | .sm _ t=>qbb (p:=t)
 | .both l r t=>by
  have h1:=qbb (p:=l);have h2:=qbb (p:=r);have h3:=qbb (p:=t);simp only[dp,Ps.nb];omega
theorem qha (p:Ps) (h1:dp p≤6) (h2:p.np≤24) (h3:lv p≤16):Jp [.r (.ins "Feed" []),.d (.tup p.ds)]=.ok (.d .non) [.r (Wt p),.d (.tup p.ds)]:=by
 have e1:=qhi p (by omega);have e2:=qhn p (by omega);have e3:=qea p (by omega);have a1:¬(6:Int)<(dp p:Int):=by omega
 have a2:¬(24:Int)<(p.np:Int):=by omega
 have a3:¬(16:Int)<(lv p:Int):=by omega
 have hf:¬(("_parts" : Str)=("_leaves" : Str)):=by decide
 unfold Jp Kb;simp[e1,e2,e3,a1,a2,a3,hf]
def loN:Sm→Nat→Nat
 | .rest b,N=>min b N
 | .last b,N=>N-b
 | .block k i,N=>i*N / k
 | _,_=>0
def hiN:Sm→Nat→Nat
 | .front b,N=>min b N
 | .but b,N=>N-b
 | .block k i,N=>(i+1)*N / k
 | _,N=>N
def szN:Sm→Nat→Nat
 | .each k i,N=>(N-i+k-1) / k
 | .same,N=>N
 | .turn,N=>N
 | s,N=>hiN s N-loN s N
def szQ:Ps→Nat→Nat
 | .nil,N=>N
 | .sm s t,N=>szQ t (szN s N)
 | .both l r t,N=>szQ t (szQ l N+szQ r N)
def trS:Sm→Nat→Nat→Nat
 | .turn,N,q=>N-1-q
 | .each k i,_,q=>i+k*q
 | .same,_,q=>q
 | s,N,q=>loN s N+q
def trP:Ps→Nat→Nat→Nat
 | .nil,_,q=>q
 | .sm s t,N,q=>trS s N (trP t (szN s N) q)
 | .both l r t,N,q=>if trP t (szQ l N+szQ r N) q<szQ l N then trP l N (trP t (szQ l N+szQ r N) q) else trP r N (trP t (szQ l N+szQ r N) q-szQ l N)
theorem C6 {s:Sm} {N:Nat}:loS s (N:Int)=(loN s N:Int):=by
 cases s with
 | block k i=>
  show ((i:Int)*(N:Int)).fdiv k=((i*N / k:Nat):Int);rw[← Int.natCast_mul,Int.fdiv_eq_ediv_of_nonneg _ (by omega),Int.natCast_ediv]
 | _=>simp only[loS,loN]<;>omega
theorem C9 {s:Sm} {N:Nat}:hiS s (N:Int)=(hiN s N:Int):=by
 cases s with
 | block k i=>
  show (((i:Int)+1)*(N:Int)).fdiv k=(((i+1)*N / k:Nat):Int);rw[show (i:Int)+1=((i+1:Nat):Int) by omega,← Int.natCast_mul,Int.fdiv_eq_ediv_of_nonneg _ (by omega),Int.natCast_ediv]
 | _=>simp only[hiS,hiN]<;>omega
theorem qd8 {M W:Nat} {s:Sm} (h:s.ok M W) (N:Nat):loN s N≤hiN s N∧hiN s N≤N:=by
 by_cases hc:s.cut=true
 ·have:=qrk h hc (N:=(N:Int)) (by omega);rw[C6,C9]at this;omega
 ·cases s<;>first | (simp[Sm.cut]at hc;done) | simp[loN,hiN]
theorem qij {M W:Nat} {s:Sm} (h:s.ok M W) (N:Nat):szS s (N:Int)=(szN s N:Int):=by
 have q:=qd8 h N;cases s with
 | same=>rfl
 | turn=>rfl
 | each k i=>
  obtain⟨h1,_,h3⟩:=h;show ((N:Int)-i+k-1).fdiv k=(((N-i+k-1) / k:Nat):Int);by_cases hN:i≤N
  ·rw[show (N:Int)-i+k-1=((N-i+k-1:Nat):Int) by omega,Int.fdiv_eq_ediv_of_nonneg _ (by omega),Int.natCast_ediv]
  ·have e1:(N-i+k-1) / k=0:=Nat.div_eq_of_lt (by omega);have e2:((N:Int)-i+k-1).fdiv k=0:=by
    rw[Int.fdiv_eq_ediv_of_nonneg _ (by omega)];exact Int.ediv_eq_zero_of_lt (by omega) (by omega)
   rw[e1,e2];rfl
 | front b=>show hiS (.front b) N-loS (.front b) N=_;rw[C6,C9];simp only[szN] ;omega
 | rest b=>show hiS (.rest b) N-loS (.rest b) N=_;rw[C6,C9];simp only[szN] ;omega
 | last b=>show hiS (.last b) N-loS (.last b) N=_;rw[C6,C9];simp only[szN] ;omega
 | but b=>show hiS (.but b) N-loS (.but b) N=_;rw[C6,C9];simp only[szN] ;omega
 | block k i=>show hiS (.block k i) N-loS (.block k i) N=_;rw[C6,C9];simp only[szN] ;omega
def wS:Sm→List Int→List Int
 | .same,w=>w
 | .turn,w=>w.reverse
 | .each k i,w=>sel k i 0 w
 | s,w=>(w.take (hiN s w.length)).drop (loN s w.length)
def wP:Ps→List Int→List Int
 | .nil,w=>w
 | .sm s t,w=>wP t (wS s w)
 | .both l r t,w=>wP t (wP l w++wP r w)
theorem qbA {S:Nat} {r:List S3} (ok:Zx S r):Xo r=((Xk r).length:Int):=(yq ok).symm
theorem Si {S:Nat} {r:List S3} (ok:Zx S r) (s:Sm):Xk (jn r (loS s (Xo r)) (hiS s (Xo r)) 0)=((Xk r).take (hiN s (Xk r).length)).drop (loN s (Xk r).length):=by
 rw[yr ok,qbA ok,C6,C9];simp
theorem qbG {M W S:Nat} {s:Sm} (h:s.ok M W) {r:List S3} (ok:Zx S r):Xk (jy s r)=wS s (Xk r):=by
 cases s with
 | same=>rfl
 | turn=>exact En ok
 | each k i=>exact Eo k (by have:=h.1;omega) ok
 | front b=>exact Si ok _
 | rest b=>exact Si ok _
 | last b=>exact Si ok _
 | but b=>exact Si ok _
 | block k i=>exact Si ok _
theorem H6 {M W:Nat} (hW:W≤9):∀{p:Ps} {S:Nat} {r:List S3},p.wf M W→Zx S r→Xk (Qu p r)=wP p (Xk r)
 | .nil,S,r,_,_=>rfl
 | .sm s t,S,r,h,ok=>by
  show Xk (Qu t (jy s r))=wP t (wS s (Xk r));rw[H6 hW h.2 (jx hW h.1 ok),qbG h.1 ok]
 | .both l r t,S,u,h,ok=>by
  have okl:=K3 hW (p:=l) h.1 ok;have okr:=K3 hW (p:=r) h.2.1 ok;have e3:S*9 ^ l.np≤S*9 ^ (l.np+r.np+1):=Nat.mul_le_mul_left _ (Nat.pow_le_pow_right (by decide) (by omega));have e4:S*9 ^ r.np≤S*9 ^ (l.np+r.np+1):=Nat.mul_le_mul_left _ (Nat.pow_le_pow_right (by decide) (by omega));show Xk (Qu t (Qu l u++Qu r u))=wP t (wP l (Xk u)++wP r (Xk u));rw[H6 hW h.2.2 ((okl.mono e3).app (okr.mono e4)),R9,H6 hW h.1 ok,H6 hW h.2.1 ok]
theorem qf7 {k i:Nat} (hi:i<k) (w:List Int):sel k i 0 w=(List.range ((w.length-i+k-1) / k)).filterMap fun j=>w[i+k*j]?:=
 y7 k (by omega) i 0 w i (by
  rw[Int.sub_zero,Int.fmod_eq_emod_of_nonneg _ (by omega)];exact (Int.emod_eq_of_lt (by omega) (by omega)).symm)
theorem ya {k i N q:Nat} (hi:i<k) (hq:q<(N-i+k-1) / k):i+k*q<N:=by
 have h1:k*(q+1)≤N-i+k-1:=by
  have:=Nat.mul_le_mul_left k (show q+1≤(N-i+k-1) / k by omega);exact Nat.le_trans this (Nat.mul_div_le _ _)
 rw[Nat.mul_add,Nat.mul_one]at h1;omega
theorem jv {k i:Nat} (hi:i<k) (w:List Int):sel k i 0 w=(List.range ((w.length-i+k-1) / k)).map fun j=>w[i+k*j]?.getD 0:=by
 rw[qf7 hi];refine qfp fun j hj=>?_;have hj:j<(w.length-i+k-1) / k:=by simpa using hj
 have:=ya hi hj;rw[List.getElem?_eq_getElem this];rfl
theorem yu {M W:Nat} {s:Sm} (h:s.ok M W) (w:List Int):(wS s w).length=szN s w.length:=by
 have q:=qd8 h w.length;cases s with
 | same=>rfl
 | turn=>exact List.length_reverse
 | each k i=>rw[wS,jv h.2.2];simp[szN]
 | front b=>simp only[wS,szN,List.length_drop,List.length_take];omega
 | rest b=>simp only[wS,szN,List.length_drop,List.length_take];omega
 | last b=>simp only[wS,szN,List.length_drop,List.length_take];omega
 | but b=>simp only[wS,szN,List.length_drop,List.length_take];omega
 | block k i=>simp only[wS,szN,List.length_drop,List.length_take];omega
theorem F4 {lo hi q:Nat} {w:List Int} (h1:lo≤hi) (h2:hi≤w.length) (hq:q<hi-lo):((w.take hi).drop lo)[q]?=w[lo+q]?∧lo+q<w.length:=by
 refine⟨?_,by omega⟩;rw[List.getElem?_drop,List.getElem?_take_of_lt (by omega)]
theorem qh6 {M W:Nat} {s:Sm} (h:s.ok M W) (w:List Int) {q:Nat} (hq:q<szN s w.length):(wS s w)[q]?=w[trS s w.length q]?∧trS s w.length q<w.length:=by
 have b:=qd8 h w.length;cases s with
 | same=>exact⟨rfl,hq⟩
 | turn=>
  have hq:q<w.length:=hq;refine⟨?_,by show w.length-1-q<_;omega⟩;show w.reverse[q]?=w[w.length-1-q]?;rw[List.getElem?_reverse hq]
 | each k i=>
  have hl:=ya h.2.2 hq;have hq:q<(w.length-i+k-1) / k:=hq;refine⟨?_,hl⟩;show (sel k i 0 w)[q]?=w[i+k*q]?;rw[jv h.2.2,List.getElem?_map,List.getElem?_range hq];show some (w[i+k*q]?.getD 0)=_;rw[List.getElem?_eq_getElem hl];rfl
 | front n=>exact F4 b.1 b.2 hq
 | rest n=>exact F4 b.1 b.2 hq
 | last n=>exact F4 b.1 b.2 hq
 | but n=>exact F4 b.1 b.2 hq
 | block k i=>exact F4 b.1 b.2 hq
theorem Ta {M W:Nat}:∀{p:Ps} {w:List Int},p.wf M W→(wP p w).length=szQ p w.length
 | .nil,w,_=>rfl
 | .sm s t,w,h=>by
  show (wP t (wS s w)).length=szQ t (szN s w.length);rw[Ta h.2,yu h.1]
 | .both l r t,w,h=>by
  show (wP t (wP l w++wP r w)).length=szQ t (szQ l w.length+szQ r w.length);rw[Ta h.2.2,List.length_append,Ta h.1,Ta h.2.1]
theorem Et {M W:Nat}:∀{p:Ps} {w:List Int} {q:Nat},p.wf M W→q<szQ p w.length→(wP p w)[q]?=w[trP p w.length q]?∧trP p w.length q<w.length
 | .nil,w,q,_,hq=>⟨rfl,hq⟩
 | .sm s t,w,q,h,hq=>by
  have e:=yu h.1 w;have hq:q<szQ t (szN s w.length):=hq;rw[← e]at hq;obtain⟨a,b⟩:=Et h.2 hq;rw[e]at a b;obtain⟨c,d⟩:=qh6 h.1 w b;exact⟨a.trans c,d⟩
 | .both l r t,w,q,h,hq=>by
  have el:=Ta (p:=l) (w:=w) h.1;have er:=Ta (p:=r) (w:=w) h.2.1;have e:(wP l w++wP r w).length=szQ l w.length+szQ r w.length:=by rw[List.length_append,el,er]
  have hq:q<szQ t (szQ l w.length+szQ r w.length):=hq;rw[← e]at hq;obtain⟨a,b⟩:=Et h.2.2 hq;rw[e]at a b;show (wP t (wP l w++wP r w))[q]?=w[if _ then _ else _]?∧(if _ then _ else _)<_;rw[a];by_cases c:trP t (szQ l w.length+szQ r w.length) q<szQ l w.length
  ·rw[if_pos c,List.getElem?_append_left (by rw[el];exact c)];exact Et h.1 c
  ·rw[if_neg c,List.getElem?_append_right (by rw[el];omega),el];exact Et h.2.1 (by omega)
def Qn (n:Nat):List S3:=if n=0 then [] else [((0:Int),(1:Int),(n:Int))]
theorem D6 {n:Nat} (h:n≤10 ^ 58):Zx 1 (Qn n):=by
 unfold Qn;by_cases h0:n=0
 ·rw[if_pos h0];exact fun x hx=>nomatch hx
 ·rw[if_neg h0];intro x hx;have:x=((0:Int),(1:Int),(n:Int)):=by simpa using hx
  subst this;have hn:n≤10000000000000000000000000000000000000000000000000000000000:=h;exact⟨by simp,by simp only;omega,by simp,by simp only;omega,by simp only;omega,by simp,by simp,by simp only;omega⟩
theorem qaz {n:Nat}:Xk (Qn n)=mem 0 1 n:=by
 unfold Qn;by_cases h0:n=0
 ·rw[if_pos h0,h0];rfl
 ·rw[if_neg h0];simp[Xk]
theorem Es {n:Nat}:(Qn n).length≤1:=by
 unfold Qn;split<;>simp
theorem qfI (n:Nat):Kw [.d (.int n)]=.ok (.d (V5 (Qn n))) [.d (.int n)]:=by
 unfold Kw Gz Qn;have h1:¬(n:Int)<0:=by omega
 by_cases h0:n=0
 ·subst h0;simp
 ·have h2:¬(n:Int)=0:=by omega
  simp[h1,h2,h0]
structure Good (M:Nat) (p:Ps):Prop where
 M1:M≤1000
 wf:p.wf M 9
 nb:p.nb≤4
 np:p.np≤24
theorem Good.dp {M:Nat} {p:Ps} (g:Good M p):Law.dp p≤4:=Nat.le_trans qbb g.nb
theorem Good.lv {M:Nat} {p:Ps} (g:Good M p):Law.lv p≤16:=Nat.le_trans qaZ (Nat.pow_le_pow_right (by decide) g.nb)
theorem Good.pw {M:Nat} {p:Ps} (g:Good M p):1*9 ^ p.np≤10 ^ 60:=by
 rw[Nat.one_mul];exact Nat.le_trans (Nat.pow_le_pow_right (by decide) g.np) (by decide)
theorem Good.rows {M:Nat} {p:Ps} (g:Good M p) {n:Nat} (h:n≤10 ^ 58):Zx (1*9 ^ p.np) (Qu p (Qn n)):=K3 (Nat.le_refl 9) g.wf (D6 h)
def seg (o m:Nat):List D:=(List.range m).map fun (k:Nat)=>D.int ((o+k:Nat):Int)
theorem qbB {n:Nat}:Z4 0 n=seg 0 n:=by
 unfold Z4 seg;simp
def Sub {α:Type} (C:List α) (o:Nat) (xs:List α):Prop:=∀i x,xs[i]?=some x→C[o+i]?=some x
theorem Sub.hd {α:Type} {C:List α} {o:Nat} {x:α} {xs:List α} (h:Sub C o (x::xs)):C[o]?=some x:=h 0 x rfl
theorem Sub.tl {α:Type} {C:List α} {o:Nat} {x:α} {xs:List α} (h:Sub C o (x::xs)):Sub C (o+1) xs:=fun i y e=>by
 have:=h (i+1) y (by simpa using e);rwa [show o+(i+1)=o+1+i by omega]at this
theorem Sub.left {α:Type} {C:List α} {o:Nat} {xs ys:List α} (h:Sub C o (xs++ys)):Sub C o xs:=fun i y e=>h i y (by
 rw[List.getElem?_append_left (List.getElem?_eq_some_iff.mp e).1];exact e)
theorem Sub.right {α:Type} {C:List α} {o:Nat} {xs ys:List α} (h:Sub C o (xs++ys)):Sub C (o+xs.length) ys:=fun i y e=>by
 have:=h (xs.length+i) y (by rw[List.getElem?_append_right (by omega)];simpa using e);rwa [show o+(xs.length+i)=o+xs.length+i by omega]at this
theorem Sub.self {α:Type} {C:List α}:Sub C 0 C:=fun i x e=>by rw[Nat.zero_add];exact e
theorem Wd {l r t:Ps}:(Ps.both l r t).flat=opD::(l.flat++Cj::(r.flat++shD::t.flat)):=rfl
theorem Sub.map {α β:Type} {f:α→β} {C:List α} {o:Nat} {xs:List α} (h:Sub C o xs):Sub (C.map f) o (xs.map f):=fun i x e=>by
 rw[List.getElem?_map]at e ⊢;obtain⟨y,e1,rfl⟩:=Option.map_eq_some_iff.mp e;rw[h i y e1];rfl
structure Fine (M:Nat) (p:Ps):Prop where
 M1:M≤1000
 wf:p.wf M 9
 dp:dp p≤6
 np:p.np≤24
 lv:lv p≤16
theorem Fine.pw {M:Nat} {p:Ps} (g:Fine M p):1*9 ^ p.np≤10 ^ 60:=by
 rw[Nat.one_mul];exact Nat.le_trans (Nat.pow_le_pow_right (by decide) g.np) (by decide)
theorem Fine.rows {M:Nat} {p:Ps} (g:Fine M p) {n:Nat} (h:n≤10 ^ 58):Zx (1*9 ^ p.np) (Qu p (Qn n)):=K3 (Nat.le_refl 9) g.wf (D6 h)
theorem Fine.strs {M:Nat} {p:Ps} (g:Fine M p) {n:Nat} (h:n≤10 ^ 58):Y7 [.d (Wt p),.d (.int n)]=.ok (.d (V5 (Qu p (Qn n)))) [.d (Wt p),.d (.int n)]:=by
 have e:=E5 g.M1 (Nat.le_refl 9) p g.wf (by have:=g.dp;omega) (D6 h) g.pw (Nat.le_trans (Nat.mul_le_mul g.lv Es) (by decide));have e2:=qfI n;unfold Y7 Y9;generalize V5 (Qn n)=y at e e2;generalize V5 (Qu p (Qn n))=z at e ⊢;simp[e,e2]
theorem Fine.rword {M:Nat} {p:Ps} (g:Fine M p) {n:Nat} (h:n≤10 ^ 58):Xk (Qu p (Qn n))=wP p (mem 0 1 n):=by
 rw[H6 (Nat.le_refl 9) g.wf (D6 h),qaz]
theorem Fine.wlen {M:Nat} {p:Ps} (g:Fine M p) {n:Nat}:(wP p (mem 0 1 n)).length=szQ p n:=by rw[Ta g.wf,Xf]
def plV (b s c x:Int):D:=if (x-b).fmod s≠0∨(x-b).fdiv s<0∨c≤(x-b).fdiv s then .non else .int ((x-b).fdiv s)
theorem I7 (b s c x:Int) (m:Rw s):Jt [.d (tr b s c),.d (.int x)]=.ok (.d (plV b s c x)) [.d (tr b s c),.d (.int x)]:=by
 unfold Jt Nj plV;by_cases h1:(x-b).fmod s=0
 ·by_cases h2:(x-b).fdiv s<0
  ·simp[m,h1,h2]
  ·by_cases h3:c≤(x-b).fdiv s
   ·simp[m,h1,h2,h3]
   ·simp[m,h1,h2,h3]
 ·simp[m,h1]
def odD:Option Int→D
 | none=>.non
 | some p=>.int p
def plO (b s c x:Int):Option Int:=if (x-b).fmod s≠0∨(x-b).fdiv s<0∨c≤(x-b).fdiv s then none else some ((x-b).fdiv s)
theorem vc {b s c x:Int}:plV b s c x=odD (plO b s c x):=by
 unfold plV plO;split<;>rfl
theorem I8 {b s c x p:Int} (hs:s≠0):plO b s c x=some p↔x=b+s*p∧0≤p∧p<c:=by
 unfold plO;constructor
 ·intro h;split at h
  ·cases h
  ·rename_i q;cases h;have:=Int.mul_fdiv_add_fmod (x-b) s;have h1:(x-b).fmod s=0:=by
    refine Classical.byContradiction fun z=>q (.inl z)
   rw[h1]at this;exact⟨by omega,by omega,by omega⟩
 ·rintro⟨rfl,h1,h2⟩;have e:b+s*p-b=s*p:=by omega
  rw[e,Int.mul_fmod_right,Int.mul_fdiv_cancel_left _ hs,if_neg (by omega)]
def pls:List S3→Int→Int→List Int
 | [],_,_=>[]
 | t::r,x,a=>((plO t.1 t.2.1 t.2.2 x).map (a + ·)).toList++pls r x (a+t.2.2)
theorem qgg:∀(r:List S3) (x a:Int),(pls r x a).length≤r.length
 | [],_,_=>Nat.le_refl _
 | t::r,x,a=>by
  have:=qgg r x (a+t.2.2);unfold pls;rw[List.length_append,List.length_cons];cases plO t.1 t.2.1 t.2.2 x<;>simp<;>omega
theorem St.div {S:Nat} {b s c:Int} (h:St S b s c) (hS:S≤10 ^ 61):Rw s:=⟨h.s0,qbg (Nat.le_trans h.sB hS)⟩
def hds (r:List S3) (x:Int):List Nat:=(List.range r.length).filter fun i=>match r[i]? with
 | some t=>(plO t.1 t.2.1 t.2.2 x).isSome
 | none=>false
theorem qad {t:S3} {r:List S3} {x:Int}:hds (t::r) x=(if (plO t.1 t.2.1 t.2.2 x).isSome=true then [0] else [])++(hds r x).map (· + 1):=by
 unfold hds;rw[List.length_cons,List.range_succ_eq_map,List.filter_cons,List.filter_map];simp only[List.getElem?_cons_zero];have e:((fun i:Nat=>match (t::r)[i]? with | some t=>(plO t.1 t.2.1 t.2.2 x).isSome | none=>false)∘Nat.succ)=fun i=>match r[i]? with | some t=>(plO t.1 t.2.1 t.2.2 x).isSome | none=>false:=by
  funext i
  simp
 rw[e];split<;>simp
theorem qcC:∀(r:List S3) (x a:Int),(hds r x).length=(pls r x a).length
 | [],_,_=>rfl
 | t::r,x,a=>by
  rw[qad,pls,List.length_append,List.length_append,List.length_map,qcC r x (a+t.2.2)];cases plO t.1 t.2.1 t.2.2 x<;>simp
theorem qjZ {r:List S3} {x:Int}:(hds r x).length≤r.length:=by
 have:=List.length_filter_le (fun i=>match r[i]? with | some t=>(plO t.1 t.2.1 t.2.2 x).isSome | none=>false) (List.range r.length);rw[List.length_range]at this;exact this
abbrev nD' (xs:List Nat):List D:=xs.map fun (n:Nat)=>D.int (n:Int)
theorem qel (a:Int):Q4 [.d (.int a)]=.ok (.d (.bl true)) [.d (.int a)]:=by
 unfold Q4 Vi;simp
def at3 (r:List S3) (i:Nat):S3:=r[i]?.getD (0,0,0)
def hp (r:List S3) (x:Int) (i:Nat):Bool:=(plO (at3 r i).1 (at3 r i).2.1 (at3 r i).2.2 x).isSome
theorem qfi {r:List S3} {x:Int}:hds r x=(List.range r.length).filter (hp r x):=by
 unfold hds;refine List.filter_congr fun i hi=>?_;have hi:i<r.length:=by simpa using hi
 unfold hp at3;rw[List.getElem?_eq_getElem hi];rfl
theorem Ib {S:Nat} {r:List S3} (ok:Zx S r) {i:Nat} (hi:i<r.length):St S (at3 r i).1 (at3 r i).2.1 (at3 r i).2.2:=by
 refine ok _ ?_;unfold at3;rw[List.getElem?_eq_getElem hi];exact List.getElem_mem hi
theorem qfA {r:List S3} {i:Nat} (hi:i<r.length):L2.atI (r.map fun x=>tr x.1 x.2.1 x.2.2) (i:Int)=some (tr (at3 r i).1 (at3 r i).2.1 (at3 r i).2.2):=qdl (by
 unfold at3;rw[List.getElem?_map,List.getElem?_eq_getElem hi];rfl)
theorem qaj:∀(r:List S3) (n:Nat),Ms n (r.map fun x=>tr x.1 x.2.1 x.2.2)=(List.range r.length).map fun i=>D.tup [.int ((n+i:Nat):Int),tr (at3 r i).1 (at3 r i).2.1 (at3 r i).2.2]
 | [],_=>rfl
 | t::r,n=>by
  rw[List.map_cons,Ms,qaj r (n+1),List.length_cons,List.range_succ_eq_map,List.map_cons,List.map_map];congr 1;refine List.map_congr_left fun i _=>?_;have e:at3 (t::r) (i+1)=at3 r i:=by simp[at3]
  show _=D.tup [.int ((n+(i+1):Nat):Int),tr (at3 (t::r) (i+1)).1 (at3 (t::r) (i+1)).2.1 (at3 (t::r) (i+1)).2.2];rw[e,show n+(i+1)=n+1+i by omega]
theorem qcB {S:Nat} {r:List S3} (ok:Zx S r) (hS:S≤10 ^ 61) (hr:r.length≤900) (x:Int):H7 [.d (V5 r),.d (.int x)]=.ok (.m (.lst (nD' (hds r x)))) [.d (V5 r),.d (.int x)]:=by
 have e:fLc (mEn (Qi 0)) [2,3] (P0 2 (Zv (Qg 2) (Zv (Qg 3) Mq))) (tBl (eOp qhT (Q9 2 Jt (Qf (Qi 3) (Qf (Qi 1) Qx))) (eC .non))) (Qi 2) [some (.d (V5 r)),some (.d (.int x)),none,none]=.ok (.lst (nD' (hds r x))) [some (.d (V5 r)),some (.d (.int x)),none,none]:=by
  rw[qfi];refine qcj (xs:=List.range r.length) (fun i=>D.tup [.int ((0+i:Nat):Int),tr (at3 r i).1 (at3 r i).2.1 (at3 r i).2.2]) (fun i=>D.int (i:Int)) (hp r x) (by simp[qaj]) (by simp) (by rw[List.length_range];exact Oc (by omega)) (fun i hi hp1=>?_) (fun i hi hp1=>?_)
  ·have hi:i<r.length:=by simpa using hi
   have ep:=I7 (at3 r i).1 (at3 r i).2.1 (at3 r i).2.2 x ((Ib ok hi).div hS);rw[vc]at ep;unfold hp at hp1;generalize at3 r i=t at ep hp1;cases hq:plO t.1 t.2.1 t.2.2 x with
   | none=>rw[hq]at hp1;cases hp1
   | some p=>
    rw[hq]at ep;simp[ep,odD]
  ·have hi:i<r.length:=by simpa using hi
   have ep:=I7 (at3 r i).1 (at3 r i).2.1 (at3 r i).2.2 x ((Ib ok hi).div hS);rw[vc]at ep;unfold hp at hp1;generalize at3 r i=t at ep hp1;cases hq:plO t.1 t.2.1 t.2.2 x with
   | some p=>rw[hq]at hp1;cases hp1
   | none=>
    rw[hq]at ep;simp[ep,odD]
 unfold H7 Sf;simp[e]
theorem Kn:∀{a b:List Nat},a.Pairwise (· < ·)→b.Pairwise (· < ·)→(∀n,n∈a↔n∈b)→a=b
 | [],[],_,_,_=>rfl
 | [],y::b,_,_,h=>absurd ((h y).mpr List.mem_cons_self) (by simp)
 | x::a,[],_,_,h=>absurd ((h x).mp List.mem_cons_self) (by simp)
 | x::a,y::b,ha,hb,h=>by
  obtain⟨a1,a2⟩:=List.pairwise_cons.mp ha;obtain⟨b1,b2⟩:=List.pairwise_cons.mp hb;have exy:x=y:=by
   have h1:=(h x).mp List.mem_cons_self;have h2:=(h y).mpr List.mem_cons_self;rcases List.mem_cons.mp h1 with q | q
   ·exact q
   ·rcases List.mem_cons.mp h2 with q2 | q2
    ·exact q2.symm
    ·have:=b1 x q;have:=a1 y q2;omega
  subst exy;rw[Kn a2 b2 fun n=>⟨fun hn=>?_,fun hn=>?_⟩]
  ·rcases List.mem_cons.mp ((h n).mp (List.mem_cons_of_mem _ hn)) with q | q
   ·have:=a1 n hn;omega
   ·exact q
  ·rcases List.mem_cons.mp ((h n).mpr (List.mem_cons_of_mem _ hn)) with q | q
   ·have:=b1 n hn;omega
   ·exact q
def pos (x:Int) (w:List Int):List Nat:=(List.range w.length).filter fun q=>decide (w[q]?=some x)
theorem qdM (n:Nat):(List.range n).Pairwise (· < ·):=List.pairwise_lt_range
theorem Xe {x:Int} {w:List Int}:(pos x w).Pairwise (· < ·):=(qdM _).sublist List.filter_sublist
theorem Yn {x:Int} {w:List Int} {q:Nat}:q∈pos x w↔w[q]?=some x:=by
 unfold pos;rw[List.mem_filter,List.mem_range];constructor
 ·rintro⟨_,h⟩;simpa using h
 ·intro h;exact⟨(List.getElem?_eq_some_iff.mp h).1,by simpa using h⟩
theorem B1 {x:Int} {w:List Int} {q:Nat} (h:q∈pos x w):q<w.length:=(List.getElem?_eq_some_iff.mp (Yn.mp h)).1
theorem Cn {f:Nat→Nat} {xs:List Nat} (h:xs.Pairwise (· < ·)) (hf:∀a∈xs,∀b∈xs,a<b→f a<f b):(xs.map f).Pairwise (· < ·):=by
 rw[List.pairwise_map];exact h.imp_of_mem fun ha hb hab=>hf _ ha _ hb hab
theorem I6 {x:Int} {u v:List Int}:pos x (u++v)=pos x u++(pos x v).map (u.length + ·):=by
 refine Kn Xe (List.pairwise_append.mpr ⟨Xe,Cn Xe (fun a _ b _ h=>by omega),fun a ha b hb=>?_⟩) fun q=>?_
 ·obtain⟨c,_,rfl⟩:=List.mem_map.mp hb;have:=B1 ha;omega
 ·rw[Yn,List.mem_append,Yn,List.mem_map];by_cases h:q<u.length
  ·rw[List.getElem?_append_left h];constructor
   ·exact .inl
   ·rintro (h2 | ⟨c,_,rfl⟩)
    ·exact h2
    ·omega
  ·rw[List.getElem?_append_right (by omega)];constructor
   ·exact fun h2=>.inr ⟨q-u.length,Yn.mpr h2,by omega⟩
   ·rintro (h2 | ⟨c,hc,rfl⟩)
    ·have:=(List.getElem?_eq_some_iff.mp h2).1;omega
    ·rw[show u.length+c-u.length=c by omega];exact Yn.mp hc
def mvS:Sm→Nat→List Nat→List Nat
 | .same,_,ps=>ps
 | .turn,N,ps=>ps.reverse.map fun q=>N-1-q
 | .each k i,_,ps=>(ps.filter fun q=>decide (q % k=i)).map fun q=>(q-i) / k
 | s,N,ps=>(ps.filter fun q=>decide (loN s N≤q∧q<hiN s N)).map fun q=>q-loN s N
theorem F3 {x:Int} {w:List Int} {lo hi:Nat} (h1:lo≤hi) (h2:hi≤w.length):((pos x w).filter fun q=>decide (lo≤q∧q<hi)).map (fun q=>q-lo)=pos x ((w.take hi).drop lo):=by
 refine Kn (Cn (Xe.sublist List.filter_sublist) fun a ha b hb h=>?_) Xe fun q=>?_
 ·have a1:=(List.mem_filter.mp ha).2;have b1:=(List.mem_filter.mp hb).2;simp at a1 b1;omega
 ·rw[Yn,List.mem_map,List.getElem?_drop];constructor
  ·rintro⟨p,hp,rfl⟩;obtain⟨p1,p2⟩:=List.mem_filter.mp hp;simp at p2;rw[List.getElem?_take_of_lt (by omega),show lo+(p-lo)=p by omega];exact Yn.mp p1
  ·intro h;have hl:=(List.getElem?_eq_some_iff.mp h).1;rw[List.length_take]at hl;rw[List.getElem?_take_of_lt (by omega)]at h;refine⟨lo+q,List.mem_filter.mpr ⟨Yn.mpr h,?_⟩,by omega⟩;simp;omega
theorem xm {M W:Nat} {s:Sm} (h:s.ok M W) (x:Int) (w:List Int):mvS s w.length (pos x w)=pos x (wS s w):=by
 have b:=qd8 h w.length;cases s with
 | same=>rfl
 | turn=>
  show (pos x w).reverse.map (fun q=>w.length-1-q)=pos x w.reverse;refine Kn ?_ Xe fun q=>?_
  ·rw[List.map_reverse,List.pairwise_reverse,List.pairwise_map];refine Xe.imp_of_mem fun ha hb hab=>?_;have:=B1 ha;have:=B1 hb;omega
  ·rw[Yn,List.mem_map];constructor
   ·rintro⟨p,hp,rfl⟩;have hp:=List.mem_reverse.mp hp;have:=B1 hp;rw[List.getElem?_reverse (by omega),show w.length-1-(w.length-1-p)=p by omega];exact Yn.mp hp
   ·intro h;have hl:=(List.getElem?_eq_some_iff.mp h).1;rw[List.length_reverse]at hl;rw[List.getElem?_reverse hl]at h;exact⟨w.length-1-q,List.mem_reverse.mpr (Yn.mpr h),by omega⟩
 | each k i=>
  have hk:0<k:=by have:=h.1;omega
  have hi:=h.2.2;show ((pos x w).filter fun q=>decide (q % k=i)).map (fun q=>(q-i) / k)=pos x (sel k i 0 w);have back:∀p,p % k=i→i+k*((p-i) / k)=p:=fun p hp=>by
   have e1:=Nat.div_add_mod p k;have e2:p-i=k*(p / k):=by omega
   rw[e2,Nat.mul_div_cancel_left _ hk];omega
  rw[jv hi];refine Kn (Cn (Xe.sublist List.filter_sublist) fun a ha b hb h=>?_) Xe fun q=>?_
  ·have a1:=(List.mem_filter.mp ha).2;have b1:=(List.mem_filter.mp hb).2;simp at a1 b1;have e1:=back a a1;have e2:=back b b1;refine Nat.lt_of_mul_lt_mul_left (a:=k) ?_;omega
  ·rw[Yn,List.mem_map];constructor
   ·rintro⟨p,hp,rfl⟩;obtain⟨p1,p2⟩:=List.mem_filter.mp hp;simp at p2;have e1:=back p p2;have hl:=B1 p1;have hq:(p-i) / k<(w.length-i+k-1) / k:=by
     have:(p-i) / k+1≤(w.length-i+k-1) / k:=by
      rw[Nat.le_div_iff_mul_le hk,Nat.add_mul,Nat.mul_comm ((p-i) / k) k,Nat.one_mul];omega
     omega
    rw[List.getElem?_map,List.getElem?_range hq];show some (w[i+k*((p-i) / k)]?.getD 0)=_;rw[e1,Yn.mp p1];rfl
   ·intro h;have hl:=(List.getElem?_eq_some_iff.mp h).1;rw[List.length_map,List.length_range]at hl;have hw:=ya hi hl;rw[List.getElem?_map,List.getElem?_range hl]at h;have h:some (w[i+k*q]?.getD 0)=some x:=h;rw[List.getElem?_eq_getElem hw]at h;refine⟨i+k*q,List.mem_filter.mpr ⟨Yn.mpr (by rw[List.getElem?_eq_getElem hw];exact h),?_⟩,?_⟩
    ·simp[Nat.add_mul_mod_self_left,Nat.mod_eq_of_lt hi]
    ·rw[show i+k*q-i=k*q by omega,Nat.mul_div_cancel_left _ hk]
 | front n=>exact F3 b.1 b.2
 | rest n=>exact F3 b.1 b.2
 | last n=>exact F3 b.1 b.2
 | but n=>exact F3 b.1 b.2
 | block k i=>exact F3 b.1 b.2
theorem qgd {b s c x:Int} (hs:s≠0) (hc:0≤c):(pos x (mem b s c.toNat)).map (fun (n:Nat)=>(n:Int))=(plO b s c x).toList:=by
 cases hp:plO b s c x with
 | none=>
  have:pos x (mem b s c.toNat)=[]:=by
   refine List.eq_nil_iff_forall_not_mem.mpr fun q hq=>?_;have h1:=Yn.mp hq;have h2:=B1 hq;rw[Xf]at h2;rw[Wk h2]at h1;have:=(I8 (b:=b) (c:=c) (x:=x) (p:=(q:Int)) hs).mpr ⟨(Option.some.inj h1).symm,by omega,by omega⟩;rw[hp]at this;cases this
  rw[this];rfl
 | some p=>
  obtain⟨e1,e2,e3⟩:=(I8 hs).mp hp;have:pos x (mem b s c.toNat)=[p.toNat]:=by
   refine Kn Xe (by simp) fun q=>?_;rw[Yn,List.mem_singleton];constructor
   ·intro h1;have h2:=(List.getElem?_eq_some_iff.mp h1).1;rw[Xf]at h2;rw[Wk h2]at h1;have:=(I8 (b:=b) (c:=c) (x:=x) (p:=(q:Int)) hs).mpr ⟨(Option.some.inj h1).symm,by omega,by omega⟩;rw[hp]at this;have:=Option.some.inj this;omega
   ·rintro rfl;rw[Wk (by omega),e1,show ((p.toNat:Nat):Int)=p by omega]
  rw[this];show [((p.toNat:Nat):Int)]=[p];rw[show ((p.toNat:Nat):Int)=p by omega]
theorem qbO {S:Nat} {x:Int}:∀{r:List S3} {a:Int},Zx S r→pls r x a=(pos x (Xk r)).map fun (n:Nat)=>a+(n:Int)
 | [],_,_=>rfl
 | t::r,a,ok=>by
  have c1:=ok.hd.c1;have e:=qgd (b:=t.1) (c:=t.2.2) (x:=x) ok.hd.s0 (by omega);rw[pls,qbO ok.tl,Xk,I6,List.map_append,List.map_map,Xf];congr 1
  ·cases hp:plO t.1 t.2.1 t.2.2 x with
   | none=>
    rw[hp]at e;have:pos x (mem t.1 t.2.1 t.2.2.toNat)=[]:=List.map_eq_nil_iff.mp e;rw[this];rfl
   | some p=>
    rw[hp]at e;obtain⟨q,hq⟩:∃q,pos x (mem t.1 t.2.1 t.2.2.toNat)=[q]:=by
     generalize pos x (mem t.1 t.2.1 t.2.2.toNat)=ys at e;match ys,e with
     | [q],_=>exact⟨q,rfl⟩
    rw[hq]at e ⊢;have:(q:Int)=p:=List.head_eq_of_cons_eq e;simp[this]
  ·refine List.map_congr_left fun q _=>?_;show a+t.2.2+(q:Int)=a+((t.2.2.toNat+q:Nat):Int);omega
theorem vk {f:Nat→Nat} {xs:List Nat}:nD' (xs.map f)=xs.map fun q=>D.int ((f q:Nat):Int):=by
 show (xs.map f).map _=_;rw[List.map_map];rfl
section
variable {o0 o1 o4 o5 o6:Option L} {ps:List Nat} {N:Nat}
theorem qfL (hl:ps.length≤1000) (hq:∀q∈ps,q<N):fLc (Ge (qft (Qi 2) (Fc (eUn Ro (eC (.int 1)))))) [3] (Qg 3) qt (eOp Gn (eOp Gn (Qi 1) (eC (.int 1))) (Qi 3)) [o0,some (.d (.int N)),some (.d (.lst (nD' ps))),none,o4,o5,o6]=.ok (.lst (nD' (ps.reverse.map fun q=>N-1-q))) [o0,some (.d (.int N)),some (.d (.lst (nD' ps))),none,o4,o5,o6]:=by
 rw[vk];refine qci (xs:=ps.reverse) (fun (n:Nat)=>D.int (n:Int)) _ (by simp) (by simp) (by rw[List.length_reverse];exact Oc (by omega)) fun q hq1=>?_;have:=hq q (by simpa using hq1);have e:(N:Int)-1-(q:Int)=((N-1-q:Nat):Int):=by omega
 simp[e]
theorem qhe (k i:Nat) (hk:0<k) (hk2:k≤1000) (hl:ps.length≤1000) (s:D) (hs:s=.tup [.str "each",.int k,.int i]) :
  fLc (Ge (Qi 2)) [3] (Qg 3) (tBl (eOp eqD (eOp qbk (eCB intD (Qf (Qi 3) Qx)) (eOp ixD (Qi 0) (eC (.int 1)))) (eOp ixD (Qi 0) (eC (.int 2))))) (eOp Np (eOp Gn (Qi 3) (eOp ixD (Qi 0) (eC (.int 2)))) (eOp ixD (Qi 0) (eC (.int 1)))) [some (.d s),some (.d (.int N)),some (.d (.lst (nD' ps))),none,none,none,none] =
   .ok (.lst (nD' ((ps.filter fun q=>decide (q % k=i)).map fun q=>(q-i) / k))) [some (.d s),some (.d (.int N)),some (.d (.lst (nD' ps))),none,none,none,none]:=by
 have d1:=qhg (k:=k) (by omega) (by omega);have k0:¬k=0:=by omega
 rw[vk];refine qcj (xs:=ps) (fun (q:Nat)=>D.int (q:Int)) _ (fun q=>decide (q % k=i)) (by simp) (by simp) (Oc (by omega)) (fun q hq hp=>?_) (fun q hq hp=>?_)
 ·have h1:q % k=i:=by simpa using hp
  have e:(q:Int).fmod k=(i:Int):=by rw[Int.fmod_eq_emod_of_nonneg _ (by omega)];omega
  have hqi:i≤q:=by rw[← h1];exact Nat.mod_le q k
  have e2:((q:Int)-(i:Int)).fdiv k=(((q-i) / k:Nat):Int):=by
   rw[show (q:Int)-(i:Int)=((q-i:Nat):Int) by omega,Int.fdiv_eq_ediv_of_nonneg _ (by omega)];rfl
  simp[hs,d1,e,k0,e2]
 ·have e:¬(q:Int).fmod k=(i:Int):=fun z=>absurd (show q % k=i by rw[Int.fmod_eq_emod_of_nonneg _ (by omega)]at z;omega) (by simpa using hp);simp[hs,d1,e,k0]
theorem qkM (lo hi:Nat) (hl:ps.length≤1000):fLc (Ge (Qi 2)) [3] (Qg 3) (qd6 (tBl (eOp leD (Qi 5) (Qi 3))) (tBl (eOp ltD (Qi 3) (Qi 6)))) (eOp Gn (Qi 3) (Qi 5)) [o0,o1,some (.d (.lst (nD' ps))),none,o4,some (.d (.int lo)),some (.d (.int hi))] =
  .ok (.lst (nD' ((ps.filter fun q=>decide (lo≤q∧q<hi)).map fun q=>q-lo))) [o0,o1,some (.d (.lst (nD' ps))),none,o4,some (.d (.int lo)),some (.d (.int hi))]:=by
 rw[vk];refine qcj (xs:=ps) (fun (q:Nat)=>D.int (q:Int)) _ (fun q=>decide (lo≤q∧q<hi)) (by simp) (by simp) (Oc (by omega)) (fun q hq hp=>?_) (fun q hq hp=>?_)
 ·have h1:lo≤q∧q<hi:=by simpa using hp
  have e:(q:Int)-(lo:Int)=((q-lo:Nat):Int):=by omega
  simp[h1.1,h1.2,e]
 ·have h1:¬(lo≤q∧q<hi):=by simpa using hp
  by_cases h2:lo≤q
  ·have h3:¬q<hi:=fun z=>h1 ⟨h2,z⟩;simp[h2,h3]
  ·simp[h2]
end
theorem qgC {M W:Nat} (hM:M≤1000) (hW:W≤1000) {s:Sm} (h:s.ok M W) (N:Nat) (ps:List Nat) (hl:ps.length≤1000) (hq:∀q∈ps,q<N):Vx [.d s.d,.d (.int N),.d (.lst (nD' ps))]=.ok (.d (.tup [.int (szN s N),.lst (nD' (mvS s N ps))])) [.d s.d,.d (.int N),.d (.lst (nD' ps))]:=by
 have z1:=qij h N;have z2:=C6 (s:=s) (N:=N);have z3:=C9 (s:=s) (N:=N);have ec:=qkM (o0:=some (.d s.d)) (o1:=some (.d (.int N))) (o4:=none) (loN s N) (hiN s N) hl;unfold Vx Hh;cases s with
 | same=>simp[Sm.d,mvS,szN]
 | turn=>
  have e:=qfL (o0:=some (.d (Sm.turn).d)) (o4:=none) (o5:=none) (o6:=none) hl hq;simp only[Sm.d]at e ⊢;simp[e,mvS,szN]
 | each k i=>
  have d1:=qhg (k:=k) h.1 (show k≤1000000 by have:=h.2.1;omega);have k0:¬k=0:=by have:=h.1;omega
  have e:=qhe (N:=N) k i (by have:=h.1;omega) (by have:=h.2.1;omega) hl (Sm.each k i).d rfl;simp only[szS]at z1;simp only[Sm.d]at e ⊢;simp[e,mvS,d1,k0,z1]
 | front b=>
  simp only[szS,loS,hiS]at z1 z2 z3;rw[← z2,← z3]at ec;rw[Int.sub_zero]at z1;simp only[Sm.d]at ec ⊢;simp[ec,mvS];exact z1
 | rest b=>
  simp only[szS,loS,hiS]at z1 z2 z3;rw[← z2,← z3]at ec;simp only[Sm.d]at ec ⊢;simp[ec,mvS,z1]
 | last b=>
  simp only[szS,loS,hiS]at z1 z2 z3;rw[← z2,← z3]at ec;have e4:max 0 ((N:Int)-(b:Int))=(N:Int)-min (b:Int) (N:Int):=by omega
  simp only[Sm.d]at ec ⊢;simp[ec,mvS,e4,z1]
 | but b=>
  simp only[szS,loS,hiS]at z1 z2 z3;rw[← z2,← z3]at ec;rw[Int.sub_zero]at z1;have e4:max 0 ((N:Int)-(b:Int))=(N:Int)-min (b:Int) (N:Int):=by omega
  simp only[Sm.d]at ec ⊢;simp[ec,mvS,e4];exact z1
 | block k i=>
  have m1:J9 (i:Int) (N:Int):=.inl (by have:=h.2.1;have:=h.2.2;omega);have m2:J9 ((i:Int)+1) (N:Int):=.inl (by have:=h.2.1;have:=h.2.2;omega);have d1:=qhg h.1 (show k≤1000000 by have:=h.2.1;omega);simp only[szS,loS,hiS]at z1 z2 z3;rw[← z2,← z3]at ec;simp only[Sm.d]at ec ⊢;simp[ec,mvS,m1,m2,d1,z1]
abbrev spD (n:Nat) (ps:List Nat):D:=.tup [.int n,.lst (nD' ps)]
def spP:Ps→Nat→List Nat→List Nat
 | .nil,_,ps=>ps
 | .sm s t,N,ps=>spP t (szN s N) (mvS s N ps)
 | .both l r t,N,ps=>spP t (szQ l N+szQ r N) (spP l N ps++(spP r N ps).map (szQ l N + ·))
theorem Cd {M W:Nat} (x:Int):∀{p:Ps} {w:List Int},p.wf M W→spP p w.length (pos x w)=pos x (wP p w)
 | .nil,w,_=>rfl
 | .sm s t,w,h=>by
  show spP t (szN s w.length) (mvS s w.length (pos x w))=pos x (wP t (wS s w));rw[xm h.1,← yu h.1,Cd x h.2]
 | .both l r t,w,h=>by
  show spP t (szQ l w.length+szQ r w.length) (spP l w.length (pos x w)++(spP r w.length (pos x w)).map (szQ l w.length + ·))=pos x (wP t (wP l w++wP r w));rw[Cd x h.1,Cd x h.2.1,← Ta h.1,← Ta h.2.1,← I6,← List.length_append,Cd x h.2.2]
theorem qb5 {s:Sm} {N:Nat} {ps:List Nat}:(mvS s N ps).length≤ps.length:=by
 cases s<;>simp[mvS]<;>exact List.length_filter_le ..
theorem Ce:∀{p:Ps} {N:Nat} {ps:List Nat},(spP p N ps).length≤lv p*ps.length
 | .nil,_,ps=>by simp[spP,lv]
 | .sm s t,N,ps=>Nat.le_trans (Ce (p:=t)) (Nat.mul_le_mul_left _ qb5)
 | .both l r t,N,ps=>by
  have a:=Ce (p:=l) (N:=N) (ps:=ps);have b:=Ce (p:=r) (N:=N) (ps:=ps);refine Nat.le_trans (Ce (p:=t)) ?_;show lv t*(spP l N ps++(spP r N ps).map (szQ l N + ·)).length≤(lv l+lv r)*lv t*ps.length;rw[Nat.mul_comm (lv l+lv r) (lv t),Nat.mul_assoc];refine Nat.mul_le_mul_left _ ?_;rw[List.length_append,List.length_map,Nat.add_mul];omega
abbrev qbY (C T I:Option L) (S:List D):DL.Env:=[C,T,I,some (.m (.lst S)),none,none,none,none]
section
variable {C T I:Option L} {S:List D} {n a b:Nat} {ps qs rs:List Nat}
theorem qiR (hS:S.length≤1000):bdE (Qg 4) Zp opD (qbY C T I (S++[spD n ps]))=.ok .nx (qbY C T I (S++[spD n ps]++[spD n ps])):=by
 have z1:L2.atI (S++[spD n ps]) (-1)=some (spD n ps):=Mw;have z2:(S++[spD n ps]).length≤100000:=by simp;omega
 generalize S++[spD n ps]=Z at z1 z2 ⊢;simp[Zp,z1,z2]
theorem qiS (hS:S.length≤1000):bdE (Qg 4) Zp Cj (qbY C T I (S++[spD n ps]++[spD a qs]))=.ok .nx (qbY C T I (S++[spD n ps]++[spD a qs]++[spD n ps])):=by
 have z3:L2.atI (S++[spD n ps]++[spD a qs]) (-2)=some (spD n ps):=by rw[List.append_assoc];exact qfz
 have z2:(S++[spD n ps]++[spD a qs]).length≤100000:=by simp;omega
 generalize S++[spD n ps]++[spD a qs]=Z at z2 z3 ⊢;simp[Zp,z2,z3]
theorem qiX {o0 o1 o2 o3 o4:Option L} (hr:rs.length≤1000):fLc (Ge (eOp ixD (Qi 5) (eC (.int 1)))) [7] (Qg 7) qt (eOp Kk (eOp ixD (Qi 6) (eC (.int 0))) (Qi 7)) [o0,o1,o2,o3,o4,some (.d (spD b rs)),some (.d (spD a qs)),none]=.ok (.lst (nD' (rs.map (a + ·)))) [o0,o1,o2,o3,o4,some (.d (spD b rs)),some (.d (spD a qs)),none]:=by
 rw[vk];exact qci (xs:=rs) (fun (n:Nat)=>D.int (n:Int)) _ (by simp) (by simp) (Oc (by omega)) fun q hq=>by simp
theorem qiQ (hS:S.length≤1000) (hq:qs.length≤1000) (hr:rs.length≤1000):bdE (Qg 4) Zp shD (qbY C T I (S++[spD n ps]++[spD a qs]++[spD b rs]))=.ok .nx (qbY C T I (S++[spD (a+b) (qs++rs.map (a + ·))])):=by
 have z2:(S++[spD n ps]++[spD a qs]++[spD b rs]).length≤100000:=by simp;omega
 have z3:(S++[spD n ps]++[spD a qs]++[spD b rs]).getLast?=some (spD b rs):=by simp
 have z4:(S++[spD n ps]++[spD a qs]++[spD b rs]).dropLast=S++[spD n ps]++[spD a qs]:=by simp
 have y3:(S++[spD n ps]++[spD a qs]).getLast?=some (spD a qs):=by simp
 have y4:(S++[spD n ps]++[spD a qs]).dropLast=S++[spD n ps]:=by simp
 generalize S++[spD n ps]++[spD a qs]++[spD b rs]=Z at z2 z3 z4 ⊢;generalize S++[spD n ps]++[spD a qs]=Y at z4 y3 y4 ⊢;have e:=qiX (o0:=C) (o1:=T) (o2:=I) (o3:=some (.m (.lst (S++[spD n ps])))) (o4:=some (.d shD)) (a:=a) (b:=b) (qs:=qs) hr;have hm:qs.length+rs.length≤mx:=Oc (by omega);have e2:nD' (qs++rs.map (a + ·))=nD' qs++nD' (rs.map (a + ·)):=List.map_append ..;have l1:(nD' qs).length=qs.length:=List.length_map ..;have l2:(nD' (rs.map (a + ·))).length=rs.length:=by simp
 unfold spD at z3 y3 y4 e ⊢;rw[e2];generalize nD' (rs.map (a + ·))=V at e l2 ⊢;generalize nD' qs=U at e l1 y3 ⊢;have hm2:U.length+V.length≤mx:=by omega
 simp[Zp,z2,z3,z4,y3,y4,hm2,e]
theorem qto {M W:Nat} (hM:M≤1000) (hW:W≤1000) {s:Sm} (h:s.ok M W) (hS:S.length≤1000) (hl:ps.length≤1000) (hq:∀q∈ps,q<n):bdE (Qg 4) Zp s.d (qbY C T I (S++[spD n ps]))=.ok .nx (qbY C T I (S++[spD (szN s n) (mvS s n ps)])):=by
 have e:=qgC hM hW h n ps hl hq;obtain⟨v,ds,hd,n1,n2,n3,n4⟩:=Ue s;have z1:L2.atI (S++[spD n ps]) (-1)=some (spD n ps):=Mw;rw[hd]at e ⊢;rw[spD,spD];generalize nD' (mvS s n ps)=Y at e ⊢;generalize nD' ps=X at e z1 ⊢;simp[Zp,n1,n2,n3,z1,e]
end
theorem Td {M W:Nat} (hM:M≤1000) (hW:W≤1000) {C T I:Option L} (x:Int):∀(p:Ps) (w:List Int) (S rest:List D),p.wf M W→lv p*(pos x w).length≤1000→S.length+p.flat.length≤900→
  Zy (Qg 4) Zp (p.flat++rest) (qbY C T I (S++[spD w.length (pos x w)]))=Zy (Qg 4) Zp rest (qbY C T I (S++[spD (wP p w).length (pos x (wP p w))]))
 | .nil,w,S,rest,_,_,_=>rfl
 | .sm s t,w,S,rest,h,hl,hS=>by
  have hw:(pos x w).length≤1000:=Nat.le_trans (Nat.le_mul_of_pos_left _ (Fi (p:=t))) hl;have e0:(Ps.sm s t).flat=s.d::t.flat:=rfl;rw[e0]at hS ⊢;simp only[List.length_cons]at hS;rw[List.cons_append,Qs (qto hM hW h.1 (by omega) hw (fun q=>B1)),xm h.1,← yu h.1];refine (Td hM hW x t (wS s w) S rest h.2 ?_ (by omega)).trans rfl;refine Nat.le_trans (Nat.mul_le_mul_left _ ?_) hl;rw[← xm h.1];exact qb5
 | .both l r t,w,S,rest,h,hl,hS=>by
  have hl2:(lv l+lv r)*lv t*(pos x w).length≤1000:=hl;have t1:=Fi (p:=t);have hlr:(lv l+lv r)*(pos x w).length≤1000:=by
   refine Nat.le_trans ?_ hl2;rw[Nat.mul_assoc];exact Nat.mul_le_mul_left _ (Nat.le_mul_of_pos_left _ t1)
  have hll:lv l*(pos x w).length≤1000:=Nat.le_trans (Nat.mul_le_mul_right _ (by omega)) hlr;have hrr:lv r*(pos x w).length≤1000:=Nat.le_trans (Nat.mul_le_mul_right _ (by omega)) hlr;have al:(pos x (wP l w)).length≤lv l*(pos x w).length:=by rw[← Cd x h.1];exact Ce
  have ar:(pos x (wP r w)).length≤lv r*(pos x w).length:=by rw[← Cd x h.2.1];exact Ce
  rw[Wd]at hS ⊢;simp only[List.length_cons,List.length_append]at hS;rw[List.cons_append,Qs (qiR (by omega)),List.append_assoc,List.cons_append,List.append_assoc,List.cons_append];rw[Td hM hW x l w (S++[spD w.length (pos x w)]) _ h.1 hll (by simp;omega),Qs (qiS (by omega))];rw[Td hM hW x r w (S++[spD w.length (pos x w)]++[spD (wP l w).length (pos x (wP l w))]) _ h.2.1 hrr (by simp;omega),Qs (qiQ (by omega) (by omega) (by omega)),← I6,← List.length_append];refine (Td hM hW x t (wP l w++wP r w) S rest h.2.2 ?_ (by omega)).trans rfl;refine Nat.le_trans (Nat.mul_le_mul_left _ ?_) (show lv t*((lv l+lv r)*(pos x w).length)≤1000 from ?_)
  ·rw[I6,List.length_append,List.length_map,Nat.add_mul];omega
  ·rw[← Nat.mul_assoc,Nat.mul_comm (lv t)];exact hl2
theorem qf2 {M:Nat} {p:Ps} (f:Fine M p) {n q:Nat} (hq:q<n):Vu [.d (.lst p.flat),.d (.int n),.d (.int q)]=.ok (.d (spD (wP p (mem 0 1 n)).length (pos q (wP p (mem 0 1 n))))) [.d (.lst p.flat),.d (.int n),.d (.int q)]:=by
 have hf:=Gy (p:=p);have hnp:=f.np;have hp:pos (q:Int) (mem 0 1 n)=[q]:=by
  refine Kn Xe (by simp) fun a=>?_;rw[Yn,List.mem_singleton];constructor
  ·intro h;have h2:=(List.getElem?_eq_some_iff.mp h).1;rw[Xf]at h2;rw[Wk h2]at h;have:=Option.some.inj h;omega
  ·rintro rfl;rw[Wk hq];simp
 have e:=Td f.M1 (show 9≤1000 by decide) (C:=some (.d (.lst p.flat))) (T:=some (.d (.int n))) (I:=some (.d (.int q))) (q:Int) p (mem 0 1 n) [] [] f.wf (by rw[hp];have:=f.lv;simp;omega) (by simp;omega);simp only[List.append_nil,List.nil_append,Fz,Xf,hp]at e;unfold Vu Hf;generalize spD (wP p (mem 0 1 n)).length (pos q (wP p (mem 0 1 n)))=z at e ⊢;have e':spD n [q]=.tup [.int n,.lst [.int q]]:=rfl;simp[qbY]at e;rw[e']at e;simp[e]
abbrev wd (p:Ps) (n:Nat):List Int:=wP p (mem 0 1 n)
theorem Fine.rlen {M:Nat} {p:Ps} (f:Fine M p) {n:Nat}:(Qu p (Qn n)).length≤16:=Nat.le_trans (Uk (p:=p) (r:=Qn n)) (Nat.mul_le_mul f.lv Es)
theorem Fine.pls {M:Nat} {p:Ps} (f:Fine M p) {n:Nat} (h:n≤10 ^ 58) (x:Int):Law.pls (Qu p (Qn n)) x 0=(pos x (wd p n)).map fun (k:Nat)=>(k:Int):=by
 rw[qbO (f.rows h),f.rword h];exact List.map_congr_left fun k _=>Int.zero_add _
theorem Fine.hlen {M:Nat} {p:Ps} (f:Fine M p) {n:Nat} (h:n≤10 ^ 58) (x:Int):(hds (Qu p (Qn n)) x).length=(pos x (wd p n)).length:=by
 rw[qcC _ _ 0,f.pls h,List.length_map]
theorem qmy {M:Nat} {p:Ps} (f:Fine M p) {n:Nat}:∀x∈wd p n,0≤x∧x<(n:Int):=fun x hx=>by
 obtain⟨q,hq,e⟩:=List.getElem_of_mem hx;have hq2:q<szQ p n:=by rw[← f.wlen];exact hq
 obtain⟨h1,h2⟩:=Et (w:=mem 0 1 n) f.wf (q:=q) (by rw[Xf];exact hq2);rw[Xf]at h1 h2;rw[Wk h2,List.getElem?_eq_getElem hq,e]at h1;have:=Option.some.inj h1;omega
theorem qek {o0 o1:Option L} (b s c:Int):Zy (Qg 2) Ke [.int b,.int s,.int c] [o0,o1,none]=.ok .nx [o0,o1,none]:=by
 have e:∀x:Int,bdE (Qg 2) Ke (.int x) [o0,o1,none]=.ok .nx [o0,o1,none]:=fun x=>by
  have en:=qel x;simp[Ke,en]
 rw[Qs (e b),Qs (e s),Qs (e c),Fz]
theorem qaa {S:Nat} {o0:Option L}:∀{r:List S3},Zx S r→Zy (Qg 1) Kd (r.map fun x=>tr x.1 x.2.1 x.2.2) [o0,none,none]=.ok .nx [o0,none,none]
 | [],_=>rfl
 | t::r,ok=>by
  have s0:=ok.hd.s0;have c1:=ok.hd.c1;have hc:¬t.2.2<1:=by omega
  have e0:=qek (o0:=o0) (o1:=some (.d (tr t.1 t.2.1 t.2.2))) t.1 t.2.1 t.2.2;have e:bdE (Qg 1) Kd (tr t.1 t.2.1 t.2.2) [o0,none,none]=.ok .nx [o0,none,none]:=by
   simp[Kd,e0,s0,hc]
  rw[List.map_cons,Qs e];exact qaa ok.tl
theorem xw {S:Nat} {r:List S3} (ok:Zx S r):Z8 [.d (V5 r)]=.ok (.d (.bl true)) [.d (V5 r)]:=by
 have e:=qaa (o0:=some (.d (V5 r))) ok;unfold Z8 W0;try simp at e
 simp[e]
abbrev L8 (a b:Int) (h l:Nat) (r:Option L):DL.Env:=[some (.d (.int a)),some (.d (.int b)),some (.d (.int h)),some (.d (.int l)),none,r]
theorem qb7 {a b:Int} {h l:Nat} {d:D} (hl:0<l) (hl2:l<2 ^ 64):bdE (Qg 4) Zw d (L8 a b h l none)=.ok .nx (L8 a b l (h % l) none):=by
 have d1:Rw (l:Int):=⟨by omega,qbg (Nat.le_trans (show ((l:Nat):Int).natAbs≤2 ^ 64 by omega) (by decide))⟩;have l0:¬l=0:=by omega
 have e:(h:Int).fmod l=((h % l:Nat):Int):=by rw[Int.fmod_eq_emod_of_nonneg _ (by omega)];rfl
 simp[Zw,d1,l0,e]
theorem qb6 {a b:Int} {h:Nat} {d:D}:bdE (Qg 4) Zw d (L8 a b h 0 none)=.ok .bk (L8 a b h 0 none):=by
 simp[Zw]
theorem qaf {h l:Nat}:Nat.gcd l (h % l)=Nat.gcd h l:=by
 rw[Nat.gcd_comm h l,Nat.gcd_rec l h,Nat.gcd_comm]
theorem qja {a b:Int}:∀(j h l:Nat) (ds:List D),l≤h→h*l<2 ^ j→l<2 ^ 64→j<ds.length→Zy (Qg 4) Zw ds (L8 a b h l none)=.ok .nx (L8 a b (Nat.gcd h l) 0 none)
 | j,h,l,[],_,_,_,hd=>by simp at hd
 | j,h,l,d::ds,hlh,hp,hl,hd=>by
  by_cases h0:l=0
  ·subst h0;rw[T9 qb6,Nat.gcd_zero_right]
  ·have hl0:0<l:=by omega
   rw[Qs (qb7 hl0 hl)];have hm:h % l<l:=Nat.mod_lt _ hl0;have hm2:2*(h % l)≤h:=by
    have:=Nat.div_add_mod h l;have hq:1≤h / l:=(Nat.le_div_iff_mul_le hl0).mpr (by omega);have:l*1≤l*(h / l):=Nat.mul_le_mul_left _ hq;omega
   cases j with
   | zero=>
    have:0<h*l:=Nat.mul_pos (by omega) hl0;omega
   | succ j=>
    rw[qja j l (h % l) ds (by omega) ?_ (by omega) (by simp at hd;omega),qaf]
    ·have:2*(l*(h % l))≤h*l:=by
      rw[Nat.mul_left_comm,Nat.mul_comm h l];exact Nat.mul_le_mul_left _ hm2
     rw[Nat.pow_succ]at hp;omega
theorem qjb {a b:Int} {h l:Nat} {d:D} {ds:List D} (hh:h<2 ^ 64) (hl:l<2 ^ 64) (hd:200≤ds.length):Zy (Qg 4) Zw (d::ds) (L8 a b h l none)=.ok .nx (L8 a b (Nat.gcd h l) 0 none):=by
 by_cases h0:l=0
 ·subst h0;rw[T9 qb6,Nat.gcd_zero_right]
 ·have hl0:0<l:=by omega
  have hm:h % l<l:=Nat.mod_lt _ hl0;rw[Qs (qb7 hl0 hl),qja 128 l (h % l) ds (by omega) ?_ (by omega) (by omega)]
  ·rw[qaf]
  ·rw[show (2:Nat) ^ 128=2 ^ 64*2 ^ 64 by decide];exact Nat.lt_of_le_of_lt (Nat.mul_le_mul_left _ (Nat.le_of_lt (Nat.lt_trans hm hl))) (Nat.mul_lt_mul_of_pos_right hl (by decide))
theorem Gb (a b:Nat) (ha:0<a) (ha2:a<2 ^ 64) (hb2:b<2 ^ 64):Q6 [.d (.int a),.d (.int b)]=.ok (.d (.int (Nat.lcm a b:Nat))) [.d (.int a),.d (.int b)]:=by
 have hg:0<Nat.gcd a b:=Nat.gcd_pos_of_pos_left _ ha;have hga:Nat.gcd a b≤a:=Nat.le_of_dvd ha (Nat.gcd_dvd_left a b);have e:Zy (Qg 4) Zw (Z4 0 300) (L8 a b a b none)=.ok .nx (L8 a b (Nat.gcd a b) 0 none):=by
  cases hr:Z4 0 300 with
  | nil=>exact absurd (congrArg List.length hr) (by rw[B0];decide)
  | cons d ds=>
   have hn:=congrArg List.length hr;rw[B0,List.length_cons]at hn;exact qjb ha2 hb2 (by omega)
 have d1:Rw (Nat.gcd a b:Nat):=⟨by omega,qbg (Nat.le_trans (show ((Nat.gcd a b:Nat):Int).natAbs≤2 ^ 64 by omega) (by decide))⟩;have m1:J9 ((a / Nat.gcd a b:Nat):Int) (b:Int):=Rp (Nat.le_trans (show ((a / Nat.gcd a b:Nat):Int).natAbs≤2 ^ 64 from by have:=Nat.div_le_self a (Nat.gcd a b);rw[Int.natAbs_natCast];omega) (by decide)) (Nat.le_trans (show (b:Int).natAbs≤2 ^ 64 by omega) (by decide));have e2:(a:Int).fdiv ((Nat.gcd a b:Nat):Int)=((a / Nat.gcd a b:Nat):Int):=by rw[Int.fdiv_eq_ediv_of_nonneg _ (by omega)];rfl
 have e3:a / Nat.gcd a b*b=Nat.lcm a b:=by
  rw[Nat.lcm,Nat.mul_comm a b,Nat.mul_div_assoc _ (Nat.gcd_dvd_left a b),Nat.mul_comm]
 have e4:((a / Nat.gcd a b:Nat):Int)*(b:Int)=((Nat.lcm a b:Nat):Int):=by rw[← e3];exact (Int.natCast_mul ..).symm
 rw[← e2]at m1 e4;unfold Q6 Ka;simp[e,d1,m1,e4]
structure Nm where
 d:Nat
 m:Nat
 w:Nat
 h:Nat
 u:Nat
abbrev nmT (n:Nm):D:=.tup [.int n.d,.int n.m,.int n.w,.int n.h,.int n.u]
abbrev nmI (n:Nm):D:=.ins "Numbers" [("divisor",.int n.d),("modulus",.int n.m),("spread",.int n.w),("stride",.int n.h),("reach",.int n.u)]
def nC (b:Nat) (n:Nm):Nm:=⟨n.d,n.m,n.w+b,n.h,n.u+2*n.h*(n.w+b+1)⟩
def nE (k:Nat) (n:Nm):Nm:=⟨n.d*k,Nat.lcm n.m (n.d*k),(n.w+2*k-2) / k,n.h*k,n.u+2*n.h*(k-1)⟩
def nB (k:Nat) (n:Nm):Nm:=⟨n.d*k,Nat.lcm n.m (n.d*k),n.w+1,n.h,n.u+2*n.h*(n.w+2)⟩
def nS:Sm→Nm→Nm
 | .same,n=>n
 | .turn,n=>n
 | .each k _,n=>nE k n
 | .block k _,n=>nB k n
 | .front b,n=>nC b n
 | .rest b,n=>nC b n
 | .last b,n=>nC b n
 | .but b,n=>nC b n
def nJ (a b:Nm):Nm:=⟨Nat.lcm a.d b.d,Nat.lcm a.m b.m,a.w+b.w,Nat.lcm a.h b.h,a.u+b.u⟩
def nP:Ps→Nm→Nm
 | .nil,n=>n
 | .sm s t,n=>nP t (nS s n)
 | .both l r t,n=>nP t (nJ (nP l n) (nP r n))
def kSm:Sm→Nat
 | .each k _=>k
 | .block k _=>k
 | _=>1
def kP:Ps→Nat
 | .nil=>1
 | .sm s t=>kSm s*kP t
 | .both l r t=>kP l*kP r*kP t
structure NO (D Y:Nat) (n:Nm):Prop where
 D0:0<D
 d:n.d ∣ D
 m:n.m ∣ D
 h:n.h ∣ D
 w:n.w+1001≤Y
theorem NO.d1 {D Y:Nat} {n:Nm} (o:NO D Y n):0<n.d∧n.d≤D:=⟨Nat.pos_of_dvd_of_pos o.d o.D0,Nat.le_of_dvd o.D0 o.d⟩
theorem NO.m1 {D Y:Nat} {n:Nm} (o:NO D Y n):0<n.m∧n.m≤D:=⟨Nat.pos_of_dvd_of_pos o.m o.D0,Nat.le_of_dvd o.D0 o.m⟩
theorem NO.h1 {D Y:Nat} {n:Nm} (o:NO D Y n):0<n.h∧n.h≤D:=⟨Nat.pos_of_dvd_of_pos o.h o.D0,Nat.le_of_dvd o.D0 o.h⟩
theorem NO.mono {D Y D' Y':Nat} {n:Nm} (o:NO D Y n) (hd:D ∣ D') (h0:0<D') (hy:Y≤Y'):NO D' Y' n:=⟨h0,Nat.dvd_trans o.d hd,Nat.dvd_trans o.m hd,Nat.dvd_trans o.h hd,Nat.le_trans o.w hy⟩
theorem qgA {M W D Y:Nat} (hM:M≤1000) {s:Sm} (hs:s.ok M W) {n:Nm} (o:NO D Y n):NO (D*kSm s) (Y*2) (nS s n):=by
 have hw:=o.w;have cut:∀b,b≤M→NO (D*1) (Y*2) (nC b n):=fun b hb=>by
  rw[Nat.mul_one];exact⟨o.D0,o.d,o.m,o.h,by show n.w+b+1001≤_;omega⟩
 cases s with
 | same=>exact o.mono (Nat.dvd_mul_right ..) (by have:=o.D0;simp[kSm];omega) (by omega)
 | turn=>exact o.mono (Nat.dvd_mul_right ..) (by have:=o.D0;simp[kSm];omega) (by omega)
 | front b=>exact cut b hs
 | rest b=>exact cut b hs
 | last b=>exact cut b hs
 | but b=>exact cut b hs
 | each k i=>
  have hk:=hs.1;have hd:n.d*k ∣ D*k:=Nat.mul_dvd_mul_right o.d k;refine⟨Nat.mul_pos o.D0 hk,hd,Nat.lcm_dvd (Nat.dvd_trans o.m (Nat.dvd_mul_right ..)) hd,Nat.mul_dvd_mul_right o.h k,?_⟩;show (n.w+2*k-2) / k+1001≤Y*2;have:(n.w+2*k-2) / k≤n.w+2:=by
   refine Nat.div_le_of_le_mul ?_;rw[Nat.mul_add];have:n.w≤k*n.w:=Nat.le_mul_of_pos_left _ hk;omega
  omega
 | block k i=>
  have hk:=hs.1;have hd:n.d*k ∣ D*k:=Nat.mul_dvd_mul_right o.d k;exact⟨Nat.mul_pos o.D0 hk,hd,Nat.lcm_dvd (Nat.dvd_trans o.m (Nat.dvd_mul_right ..)) hd,Nat.dvd_trans o.h (Nat.dvd_mul_right ..),by show n.w+1+1001≤_;omega⟩
theorem qi3 {D Y Z:Nat} {a b:Nm} (o:NO D Y a) (q:NO D Z b):NO D (Y+Z) (nJ a b):=⟨o.D0,Nat.lcm_dvd o.d q.d,Nat.lcm_dvd o.m q.m,Nat.lcm_dvd o.h q.h,by have:=o.w;have:=q.w;show a.w+b.w+1001≤_;omega⟩
theorem Pq {M W:Nat}:∀{p:Ps},p.wf M W→0<kP p
 | .nil,_=>Nat.one_pos
 | .sm s t,h=>Nat.mul_pos (by cases s<;>first | exact Nat.one_pos | exact h.1.1) (Pq h.2)
 | .both l r t,h=>Nat.mul_pos (Nat.mul_pos (Pq h.1) (Pq h.2.1)) (Pq h.2.2)
theorem qo {M W:Nat} (hM:M≤1000):∀{p:Ps} {D Y:Nat} {n:Nm},p.wf M W→NO D Y n→NO (D*kP p) (Y*2 ^ p.np) (nP p n)
 | .nil,D,Y,n,_,o=>by
  show NO (D*1) (Y*1) n;rw[Nat.mul_one,Nat.mul_one];exact o
 | .sm s t,D,Y,n,h,o=>by
  have:=qo hM h.2 (qgA hM h.1 o);show NO (D*(kSm s*kP t)) (Y*2 ^ (t.np+1)) (nP t (nS s n));rw[← Nat.mul_assoc,Nat.pow_succ,Nat.mul_comm (2 ^ t.np),← Nat.mul_assoc];exact this
 | .both l r t,D,Y,n,h,o=>by
  have ol:=qo hM h.1 o;have or:=qo hM h.2.1 o;have pl:=Pq h.1;have pr:=Pq h.2.1;have D1:0<D*(kP l*kP r):=Nat.mul_pos o.D0 (Nat.mul_pos pl pr);have ol':=ol.mono (D':=D*(kP l*kP r)) (Nat.mul_dvd_mul_left _ (Nat.dvd_mul_right ..)) D1 (Nat.le_refl _);have or':=or.mono (D':=D*(kP l*kP r)) (Nat.mul_dvd_mul_left _ (Nat.dvd_mul_left ..)) D1 (Nat.le_refl _);have oj:=(qi3 ol' or').mono (Nat.dvd_refl _) D1 (show _≤Y*2 ^ (l.np+r.np+1) from by
   rw[← Nat.mul_add];refine Nat.mul_le_mul_left _ ?_;have e1:2 ^ l.np≤2 ^ (l.np+r.np):=Nat.pow_le_pow_right (by decide) (by omega);have e2:2 ^ r.np≤2 ^ (l.np+r.np):=Nat.pow_le_pow_right (by decide) (by omega);rw[Nat.pow_succ];omega)
  have:=qo hM h.2.2 oj;show NO (D*(kP l*kP r*kP t)) (Y*2 ^ (l.np+r.np+t.np+1)) (nP t (nJ (nP l n) (nP r n)));rw[show l.np+r.np+t.np+1=(l.np+r.np+1)+t.np by omega,Nat.pow_add,← Nat.mul_assoc Y,← Nat.mul_assoc D (kP l*kP r)];exact this
theorem qa0 {M W:Nat} (hW:1≤W):∀{p:Ps},p.wf M W→kP p≤W ^ p.np
 | .nil,_=>Nat.le_refl _
 | .sm s t,h=>by
  show kSm s*kP t≤W ^ (t.np+1);rw[Nat.pow_succ,Nat.mul_comm (W ^ t.np)];exact Nat.mul_le_mul (by cases s<;>first | exact hW | exact h.1.2.1) (qa0 hW h.2)
 | .both l r t,h=>by
  show kP l*kP r*kP t≤W ^ (l.np+r.np+t.np+1);refine Nat.le_trans (Nat.mul_le_mul (Nat.mul_le_mul (qa0 hW h.1) (qa0 hW h.2.1)) (qa0 hW h.2.2)) ?_;rw[← Nat.pow_add,← Nat.pow_add];exact Nat.pow_le_pow_right hW (by omega)
theorem Ff (a b c d e:Int):Qm [.r (.ins "Numbers" []),.d (.int a),.d (.int b),.d (.int c),.d (.int d),.d (.int e)]=.ok (.d .non) [.r (.ins "Numbers" [("divisor",.int a),("modulus",.int b),("spread",.int c),("stride",.int d),("reach",.int e)]),.d (.int a),.d (.int b),.d (.int c),.d (.int d),.d (.int e)]:=by
 unfold Qm Yg;simp
theorem m61 {a X:Nat} (h:a≤X) (hX:X≤10 ^ 18):((a:Nat):Int).natAbs≤10 ^ 61:=by
 rw[Int.natAbs_natCast];exact Nat.le_trans (Nat.le_trans h hX) (by decide)
theorem qdw {a X:Nat} (h:a≤X) (hX:X≤10 ^ 18):a<18446744073709551616:=Nat.lt_of_le_of_lt (Nat.le_trans h hX) (by decide)
theorem mk2 (z:Int):J9 2 z:=.inl (by decide)
theorem qhX {a b P:Nat} (h:P=a*b):(a:Int)*(b:Int)=(P:Int):=by rw[h];exact (Int.natCast_mul ..).symm
theorem Na {u h k:Nat} {z:Int} (hz:z=(k:Int)):(u:Int)+2*(h:Int)*z=((u+2*h*k:Nat):Int):=by
 rw[hz,Int.natCast_add,Int.natCast_mul,Int.natCast_mul];rfl
theorem qde {D Y k:Nat} (hk:1≤k) (hk2:k≤1000) {n:Nm} (o:NO D Y n) (hD:D*k≤10 ^ 18) (hY:Y≤10 ^ 18):Y3 [.d (.int k),.d (nmI n)]=.ok (.d (nmI (nE k n))) [.d (.int k),.d (nmI n)]:=by
 have k0:(k:Int).natAbs≤10 ^ 61:=m61 (Nat.le_trans hk2 (by decide)) (Nat.le_refl _);have hDk:D≤D*k:=Nat.le_mul_of_pos_right _ hk;have hd:=o.d1;have hm:=o.m1;have hh:=o.h1;have m1:J9 (n.d:Int) (k:Int):=Rp (m61 (Nat.le_trans hd.2 hDk) hD) k0;have m2:J9 (n.h:Int) (k:Int):=Rp (m61 (Nat.le_trans hh.2 hDk) hD) k0;have d1:=qhg hk (show k≤1000000 by omega);have l1:=qdw (Nat.le_trans hm.2 hDk) hD;have l2:=qdw (Nat.mul_le_mul_right k hd.2) hD;have m3:J9 (2*(n.h:Int)) ((k:Int)-1):=Rp (by have:=hh.2;omega) (by omega);have e2:((n.w:Int)+2*(k:Int)-2).fdiv k=(((n.w+2*k-2) / k:Nat):Int):=by
  rw[show (n.w:Int)+2*(k:Int)-2=((n.w+2*k-2:Nat):Int) by omega,Int.fdiv_eq_ediv_of_nonneg _ (by omega)];rfl
 have e3:=Na (u:=n.u) (h:=n.h) (k:=k-1) (z:=(k:Int)-1) (by omega);unfold Y3 Ww nE nmI;have ei:=Ff;simp only;rw[← e2,← e3];obtain⟨P,hP⟩:∃P,P=n.d*k:=⟨_,rfl⟩;obtain⟨Q,hQ⟩:∃Q,Q=n.h*k:=⟨_,rfl⟩;rw[← hP]at l2 ⊢;rw[← hQ];have eP:=qhX hP;have eQ:=qhX hQ;simp[m1,m2,d1,l1,l2,mk2,m3,ei,eP,eQ]
theorem qdg {D Y k:Nat} (hk:1≤k) (hk2:k≤1000) {n:Nm} (o:NO D Y n) (hD:D*k≤10 ^ 18) (hY:Y≤10 ^ 18):X6 [.d (.int k),.d (nmI n)]=.ok (.d (nmI (nB k n))) [.d (.int k),.d (nmI n)]:=by
 have k0:(k:Int).natAbs≤10 ^ 61:=m61 (Nat.le_trans hk2 (by decide)) (Nat.le_refl _);have hDk:D≤D*k:=Nat.le_mul_of_pos_right _ hk;have hd:=o.d1;have hm:=o.m1;have hh:=o.h1;have hw:=o.w;have m1:J9 (n.d:Int) (k:Int):=Rp (m61 (Nat.le_trans hd.2 hDk) hD) k0;have l1:=qdw (Nat.le_trans hm.2 hDk) hD;have l2:=qdw (Nat.mul_le_mul_right k hd.2) hD;have m3:J9 (2*(n.h:Int)) ((n.w:Int)+1+1):=Rp (by have:=hh.2;omega) (by omega);have e3:=Na (u:=n.u) (h:=n.h) (k:=n.w+2) (z:=(n.w:Int)+1+1) (by omega);unfold X6 K5 nB nmI;have ei:=Ff;simp only;rw[← e3];obtain⟨P,hP⟩:∃P,P=n.d*k:=⟨_,rfl⟩;rw[← hP]at l2 ⊢;have eP:=qhX hP;simp[m1,l1,l2,mk2,m3,ei,eP]
theorem qdf {D Y b:Nat} (hb:b≤1000) {n:Nm} (o:NO D Y n) (hD:D≤10 ^ 18) (hY:Y≤10 ^ 18):Ym [.d (.int b),.d (nmI n)]=.ok (.d (nmI (nC b n))) [.d (.int b),.d (nmI n)]:=by
 have hh:=o.h1;have hw:=o.w;have m3:J9 (2*(n.h:Int)) ((n.w:Int)+(b:Int)+1):=Rp (by have:=hh.2;omega) (by omega);have e3:=Na (u:=n.u) (h:=n.h) (k:=n.w+b+1) (z:=(n.w:Int)+(b:Int)+1) (by omega);unfold Ym Hc nC nmI;have ei:=Ff;simp only;rw[← e3];simp[mk2,m3,ei]
theorem qtr {D Y Z:Nat} {a b:Nm} (o:NO D Y a) (q:NO D Z b) (hD:D≤10 ^ 18):Vf [.d (nmI a),.d (nmI b)]=.ok (.d (nmI (nJ a b))) [.d (nmI a),.d (nmI b)]:=by
 have l1:=qdw o.d1.2 hD;have l2:=qdw o.m1.2 hD;have l3:=qdw o.h1.2 hD;have l4:=qdw q.d1.2 hD;have l5:=qdw q.m1.2 hD;have l6:=qdw q.h1.2 hD;unfold Vf Vj nJ nmI;have ei:=Ff;simp[l1,l2,l3,l4,l5,l6,ei,Gx]
theorem qck {M W D Y:Nat} (hM:M≤1000) (hW:W≤1000) {s:Sm} (hs:s.ok M W) {n:Nm} (o:NO D Y n) (hD:D*kSm s≤10 ^ 18) (hY:Y≤10 ^ 18):Y6 [.d s.d,.d (nmT n)]=.ok (.d (nmT (nS s n))) [.d s.d,.d (nmT n)]:=by
 have hd:=o.d1;have hm:=o.m1;have hh:=o.h1;have hw:=o.w;unfold Y6 W2;have cut:∀b,b≤M→D≤10 ^ 18→J9 (2*(n.h:Int)) ((n.w:Int)+(b:Int)+1)∧((n.u:Int)+2*(n.h:Int)*((n.w:Int)+(b:Int)+1)=((n.u+2*n.h*(n.w+b+1):Nat):Int)):=fun b hb hD=>
  ⟨Rp (by have:=hh.2;omega) (by omega),Na (by omega)⟩
 cases s with
 | same=>simp[Sm.d,nS]
 | turn=>simp[Sm.d,nS]
 | front b=>
  obtain⟨m3,e3⟩:=cut b hs (by simp only[kSm]at hD;omega);simp only[nS,nC,nmT];rw[← e3];simp[Sm.d,mk2,m3]
 | rest b=>
  obtain⟨m3,e3⟩:=cut b hs (by simp only[kSm]at hD;omega);simp only[nS,nC,nmT];rw[← e3];simp[Sm.d,mk2,m3]
 | last b=>
  obtain⟨m3,e3⟩:=cut b hs (by simp only[kSm]at hD;omega);simp only[nS,nC,nmT];rw[← e3];simp[Sm.d,mk2,m3]
 | but b=>
  obtain⟨m3,e3⟩:=cut b hs (by simp only[kSm]at hD;omega);simp only[nS,nC,nmT];rw[← e3];simp[Sm.d,mk2,m3]
 | each k i=>
  have hk:=hs.1;have hk2:=hs.2.1;simp only[kSm]at hD;have k0:(k:Int).natAbs≤10 ^ 61:=m61 (show k≤1000 by omega) (by decide);have hDk:D≤D*k:=Nat.le_mul_of_pos_right _ hk;have m1:J9 (n.d:Int) (k:Int):=Rp (m61 (Nat.le_trans hd.2 hDk) hD) k0;have m2:J9 (n.h:Int) (k:Int):=Rp (m61 (Nat.le_trans hh.2 hDk) hD) k0;have d1:=qhg hk (show k≤1000000 by omega);have m3:J9 (2*(n.h:Int)) ((k:Int)-1):=Rp (by have:=hh.2;omega) (by omega);have e2:((n.w:Int)+2*(k:Int)-2).fdiv k=(((n.w+2*k-2) / k:Nat):Int):=by
   rw[show (n.w:Int)+2*(k:Int)-2=((n.w+2*k-2:Nat):Int) by omega,Int.fdiv_eq_ediv_of_nonneg _ (by omega)];rfl
  have e3:=Na (u:=n.u) (h:=n.h) (k:=k-1) (z:=(k:Int)-1) (by omega);have em:=Gb n.m (n.d*k) hm.1 (Nat.lt_of_le_of_lt (Nat.le_trans hm.2 (Nat.le_trans hDk hD)) (by decide)) (Nat.lt_of_le_of_lt (Nat.le_trans (Nat.mul_le_mul_right k hd.2) hD) (by decide));simp only[nS,nE,nmT];rw[← e2,← e3];obtain⟨P,hP⟩:∃P,P=n.d*k:=⟨_,rfl⟩;obtain⟨Q,hQ⟩:∃Q,Q=n.h*k:=⟨_,rfl⟩;rw[← hP]at em ⊢;rw[← hQ];have eP:=qhX hP;have eQ:=qhX hQ;simp[Sm.d,m1,m2,d1,mk2,m3,em,eP,eQ]
 | block k i=>
  have hk:=hs.1;have hk2:=hs.2.1;simp only[kSm]at hD;have k0:(k:Int).natAbs≤10 ^ 61:=m61 (show k≤1000 by omega) (by decide);have hDk:D≤D*k:=Nat.le_mul_of_pos_right _ hk;have m1:J9 (n.d:Int) (k:Int):=Rp (m61 (Nat.le_trans hd.2 hDk) hD) k0;have m3:J9 (2*(n.h:Int)) ((n.w:Int)+2):=Rp (by have:=hh.2;omega) (by omega);have e3:=Na (u:=n.u) (h:=n.h) (k:=n.w+2) (z:=(n.w:Int)+2) (by omega);have em:=Gb n.m (n.d*k) hm.1 (Nat.lt_of_le_of_lt (Nat.le_trans hm.2 (Nat.le_trans hDk hD)) (by decide)) (Nat.lt_of_le_of_lt (Nat.le_trans (Nat.mul_le_mul_right k hd.2) hD) (by decide));simp only[nS,nB,nmT];rw[← e3];obtain⟨P,hP⟩:∃P,P=n.d*k:=⟨_,rfl⟩;rw[← hP]at em ⊢;have eP:=qhX hP;simp[Sm.d,m1,mk2,m3,em,eP]
theorem qhv {M W D Y:Nat} (hM:M≤1000) (hW:W≤1000) {s:Sm} (h:s.ok M W) {n:Nm} (o:NO D Y n) (hD:D*kSm s≤10 ^ 18) (hY:Y≤10 ^ 18) (m:Nat):(Qp (m+1)).1 [.d s.d,.d (nmI n)]=.ok (.d (nmI (nS s n))) [.d s.d,.d (nmI n)]:=by
 show Q7 2 (Jy (Qp m).1 (Qp m).2) _=_;unfold Jy;have cut:∀b,b≤M→D≤10 ^ 18→Ym [.d (.int b),.d (nmI n)]=.ok (.d (nmI (nC b n))) [.d (.int b),.d (nmI n)]:=fun b hb hD=>qdf (Nat.le_trans hb hM) o hD hY;cases s with
 | same=>simp[Sm.d,nS]
 | turn=>simp[Sm.d,nS]
 | each k i=>
  have e:=qde h.1 (Nat.le_trans h.2.1 hW) o hD hY;unfold nS Sm.d;unfold nmI at e ⊢;simp[e]
 | block k i=>
  have e:=qdg h.1 (Nat.le_trans h.2.1 hW) o hD hY;unfold nS Sm.d;unfold nmI at e ⊢;simp[e]
 | front b=>
  have e:=cut b h (by simp only[kSm]at hD;omega);unfold nS Sm.d;unfold nmI at e ⊢;simp[e]
 | rest b=>
  have e:=cut b h (by simp only[kSm]at hD;omega);unfold nS Sm.d;unfold nmI at e ⊢;simp[e]
 | last b=>
  have e:=cut b h (by simp only[kSm]at hD;omega);unfold nS Sm.d;unfold nmI at e ⊢;simp[e]
 | but b=>
  have e:=cut b h (by simp only[kSm]at hD;omega);unfold nS Sm.d;unfold nmI at e ⊢;simp[e]
theorem F7 {p:Ps} {m:Nat} {n:Nm} (h:∀P,Zy (Qg 2) (Jf (Qp m).1 (Qp m).2) p.ds [P,some (.d (nmI n)),none]=.ok .nx [P,some (.d (nmI (nP p n))),none]) :
  (Qp (m+1)).2 [.d (.tup p.ds),.d (nmI n)]=.ok (.d (nmI (nP p n))) [.d (.tup p.ds),.d (nmI n)]:=by
 show Q7 3 (Ya (Qp m).1 (Qp m).2) _=_;unfold Ya;have e:=h (some (.d (.tup p.ds)));simp only[D7];generalize nmI (nP p n)=z at e ⊢;generalize nmI n=y at e ⊢;simp[e]
theorem qdc {M W D Y:Nat} (hM:M≤1000) {l r t:Ps} {n:Nm} (h:(Ps.both l r t).wf M W) (o:NO D Y n) :
  NO (D*(kP l*kP r)) (Y*2 ^ l.np) (nP l n)∧NO (D*(kP l*kP r)) (Y*2 ^ r.np) (nP r n)∧NO (D*(kP l*kP r)) (Y*2 ^ (l.np+r.np+1)) (nJ (nP l n) (nP r n)):=by
 have ol:=qo hM h.1 o;have or:=qo hM h.2.1 o;have pl:=Pq h.1;have pr:=Pq h.2.1;have D1:0<D*(kP l*kP r):=Nat.mul_pos o.D0 (Nat.mul_pos pl pr);have ol':=ol.mono (D':=D*(kP l*kP r)) (Nat.mul_dvd_mul_left _ (Nat.dvd_mul_right ..)) D1 (Nat.le_refl _);have or':=or.mono (D':=D*(kP l*kP r)) (Nat.mul_dvd_mul_left _ (Nat.dvd_mul_left ..)) D1 (Nat.le_refl _);refine⟨ol',or',(qi3 ol' or').mono (Nat.dvd_refl _) D1 ?_⟩;rw[← Nat.mul_add];refine Nat.mul_le_mul_left _ ?_;have e1:2 ^ l.np≤2 ^ (l.np+r.np):=Nat.pow_le_pow_right (by decide) (by omega);have e2:2 ^ r.np≤2 ^ (l.np+r.np):=Nat.pow_le_pow_right (by decide) (by omega);rw[Nat.pow_succ];omega
theorem qdd {M W D Y:Nat} {l r t:Ps} (h:(Ps.both l r t).wf M W) (hD:D*kP (.both l r t)≤10 ^ 18) (hY:Y*2 ^ (Ps.both l r t).np≤10 ^ 18) :
  D*kP l≤10 ^ 18∧D*kP r≤10 ^ 18∧D*(kP l*kP r)≤10 ^ 18∧D*(kP l*kP r)*kP t≤10 ^ 18∧Y*2 ^ l.np≤10 ^ 18∧Y*2 ^ r.np≤10 ^ 18∧Y*2 ^ (l.np+r.np+1)*2 ^ t.np≤10 ^ 18:=by
 have pl:=Pq h.1;have pr:=Pq h.2.1;have pt:=Pq h.2.2;have a:D*(kP l*kP r)*kP t≤10 ^ 18:=by rw[Nat.mul_assoc];exact hD
 have b:D*(kP l*kP r)≤10 ^ 18:=Nat.le_trans (Nat.le_mul_of_pos_right _ pt) a;have hY':Y*2 ^ (l.np+r.np+t.np+1)≤10 ^ 18:=hY;have y:∀k,k≤l.np+r.np+t.np+1→Y*2 ^ k≤10 ^ 18:=fun k hk=>Nat.le_trans (Nat.mul_le_mul_left _ (Nat.pow_le_pow_right (by decide) hk)) hY';refine⟨Nat.le_trans (Nat.mul_le_mul_left _ (Nat.le_mul_of_pos_right _ pr)) b,Nat.le_trans (Nat.mul_le_mul_left _ (Nat.le_mul_of_pos_left _ pl)) b,b,a,y _ (by omega),y _ (by omega),?_⟩;rw[Nat.mul_assoc,← Nat.pow_add,show l.np+r.np+1+t.np=l.np+r.np+t.np+1 by omega];exact hY'
theorem qir {M W D Y:Nat} {s:Sm} {t:Ps} (h:(Ps.sm s t).wf M W) (hD:D*kP (.sm s t)≤10 ^ 18) (hY:Y*2 ^ (Ps.sm s t).np≤10 ^ 18) :
  D*kSm s≤10 ^ 18∧D*kSm s*kP t≤10 ^ 18∧Y≤10 ^ 18∧Y*2*2 ^ t.np≤10 ^ 18:=by
 have pt:=Pq h.2;have a:D*kSm s*kP t≤10 ^ 18:=by rw[Nat.mul_assoc];exact hD
 have b:Y*2*2 ^ t.np≤10 ^ 18:=by
  have:Y*2 ^ (t.np+1)≤10 ^ 18:=hY;rw[Nat.mul_assoc,Nat.mul_comm 2,← Nat.pow_succ];exact this
 have p2:1≤2 ^ t.np:=Nat.pos_of_ne_zero (by simp);have c:=Nat.le_trans (Nat.le_mul_of_pos_right (Y*2) p2) b;exact⟨Nat.le_trans (Nat.le_mul_of_pos_right _ pt) a,a,by omega,b⟩
theorem F8 {M W:Nat} (hM:M≤1000) (hW:W≤1000):∀(p:Ps) (m D Y:Nat) (n:Nm) (P:Option L),p.wf M W→NO D Y n→D*kP p≤10 ^ 18→Y*2 ^ p.np≤10 ^ 18→2*dp p+1≤m→
  Zy (Qg 2) (Jf (Qp m).1 (Qp m).2) p.ds [P,some (.d (nmI n)),none]=.ok .nx [P,some (.d (nmI (nP p n))),none]
 | .nil,m,D,Y,n,P,_,_,_,_,_=>by simp[Ps.ds,nP]
 | .sm s t,m,D,Y,n,P,h,o,hD,hY,hm=>by
  obtain⟨m,rfl⟩:∃k,m=k+1:=⟨m-1,by omega⟩;obtain⟨a1,a2,a3,a4⟩:=qir h hD hY;have e:=qhv hM hW h.1 o a1 a3 m;have e2:bdE (Qg 2) (Jf (Qp (m+1)).1 (Qp (m+1)).2) s.d [P,some (.d (nmI n)),none]=.ok .nx [P,some (.d (nmI (nS s n))),none]:=by
   generalize nmI (nS s n)=z at e ⊢;generalize nmI n=y at e ⊢;simp[Jf,e]
  rw[Ps.ds,Qs e2,F8 hM hW t (m+1) (D*kSm s) (Y*2) _ P h.2 (qgA hM h.1 o) a2 a4 hm];rfl
 | .both l r t,m,D,Y,n,P,h,o,hD,hY,hm=>by
  simp only[dp]at hm;obtain⟨m,rfl⟩:∃k,m=k+1+1:=⟨m-2,by omega⟩;obtain⟨a1,a2,a3,a4,a5,a6,a7⟩:=qdd h hD hY;obtain⟨ol,or,oj⟩:=qdc hM h o;have el:=F7 (p:=l) (m:=m) (n:=n) fun P=>F8 hM hW l m D Y n P h.1 o a1 a5 (by omega);have er:=F7 (p:=r) (m:=m) (n:=n) fun P=>F8 hM hW r m D Y n P h.2.1 o a2 a6 (by omega);have ej:=qtr ol or a3;have e:(Qp (m+1+1)).1 [.d (boD l r),.d (nmI n)]=.ok (.d (nmI (nJ (nP l n) (nP r n)))) [.d (boD l r),.d (nmI n)]:=by
   show Q7 2 (Jy (Qp (m+1)).1 (Qp (m+1)).2) _=_;unfold Jy;generalize nJ (nP l n) (nP r n)=z at ej ⊢;generalize nP l n=x at el ej ⊢;generalize nP r n=y at er ej ⊢;unfold nmI boD at *;simp[el,er,ej,Wb]
  have e2:bdE (Qg 2) (Jf (Qp (m+1+1)).1 (Qp (m+1+1)).2) (boD l r) [P,some (.d (nmI n)),none]=.ok .nx [P,some (.d (nmI (nJ (nP l n) (nP r n)))),none]:=by
   generalize nmI (nJ (nP l n) (nP r n))=z at e ⊢;generalize nmI n=y at e ⊢;simp[Jf,e]
  rw[Ps.ds,Qs e2,F8 hM hW t (m+1+1) _ _ _ P h.2.2 oj a4 a7 (by omega)];rfl
abbrev nm1:Nm:=⟨1,1,0,1,1⟩
theorem NO1:NO 1 1001 nm1:=⟨Nat.one_pos,Nat.dvd_refl _,Nat.dvd_refl _,Nat.dvd_refl _,Nat.le_refl _⟩
theorem qb2 {M W:Nat} (hM:M≤1000) (hW:W≤1000) (p:Ps) (h:p.wf M W) (hd:dp p≤19) (hD:1*kP p≤10 ^ 18) (hY:1001*2 ^ p.np≤10 ^ 18):Xn [.d (Wt p)]=.ok (.d (nmI (nP p nm1))) [.d (Wt p)]:=by
 have e:=F7 (p:=p) (m:=39) (n:=nm1) fun P=>F8 hM hW p 39 1 1001 nm1 P h NO1 hD hY (by omega);have e:Vd [.d (.tup p.ds),.d (nmI nm1)]=_:=e;have ei:=Ff;unfold Xn Hb;have e0:nmI nm1=.ins "Numbers" [("divisor",.int 1),("modulus",.int 1),("spread",.int 0),("stride",.int 1),("reach",.int 1)]:=rfl;rw[e0]at e;generalize nmI (nP p nm1)=z at e ⊢;simp[e,ei,Tc,Mm,Hi]
abbrev qbK (C:Option L) (S:List D):DL.Env:=[C,some (.m (.lst S)),none,none,none]
section
variable {C:Option L} {S:List D} {n a b:Nm}
theorem qiC (hS:S.length≤1000):bdE (Qg 2) Ze opD (qbK C (S++[nmT n]))=.ok .nx (qbK C (S++[nmT n]++[nmT n])):=by
 have z1:L2.atI (S++[nmT n]) (-1)=some (nmT n):=Mw;have z2:(S++[nmT n]).length≤100000:=by simp;omega
 generalize S++[nmT n]=Z at z1 z2 ⊢;generalize nmT n=y at z1 ⊢;simp[Ze,z1,z2]
theorem qiD (hS:S.length≤1000):bdE (Qg 2) Ze Cj (qbK C (S++[nmT n]++[nmT a]))=.ok .nx (qbK C (S++[nmT n]++[nmT a]++[nmT n])):=by
 have z3:L2.atI (S++[nmT n]++[nmT a]) (-2)=some (nmT n):=by rw[List.append_assoc];exact qfz
 have z2:(S++[nmT n]++[nmT a]).length≤100000:=by simp;omega
 generalize S++[nmT n]++[nmT a]=Z at z2 z3 ⊢;generalize nmT n=y at z3 ⊢;simp[Ze,z2,z3]
theorem qiB {D Y Z:Nat} (o:NO D Y a) (q:NO D Z b) (hD:D≤10 ^ 18) (hS:S.length≤1000):bdE (Qg 2) Ze shD (qbK C (S++[nmT n]++[nmT a]++[nmT b]))=.ok .nx (qbK C (S++[nmT (nJ a b)])):=by
 have z3:(S++[nmT n]++[nmT a]++[nmT b]).getLast?=some (nmT b):=by simp
 have z4:(S++[nmT n]++[nmT a]++[nmT b]).dropLast=S++[nmT n]++[nmT a]:=by simp
 have y3:(S++[nmT n]++[nmT a]).getLast?=some (nmT a):=by simp
 have y4:(S++[nmT n]++[nmT a]).dropLast=S++[nmT n]:=by simp
 generalize S++[nmT n]++[nmT a]++[nmT b]=Z at z3 z4 ⊢;generalize S++[nmT n]++[nmT a]=Y at z4 y3 y4 ⊢;have lt:∀{x:Nat},x≤D→x<2 ^ 64:=fun h=>Nat.lt_of_le_of_lt (Nat.le_trans h hD) (by decide);have m1:=Gb b.d a.d q.d1.1 (lt q.d1.2) (lt o.d1.2);have m2:=Gb b.m a.m q.m1.1 (lt q.m1.2) (lt o.m1.2);have m3:=Gb b.h a.h q.h1.1 (lt q.h1.2) (lt o.h1.2);have e1:(b.w:Int)+(a.w:Int)=((a.w+b.w:Nat):Int):=by omega
 have e2:(b.u:Int)+(a.u:Int)=((a.u+b.u:Nat):Int):=by omega
 rw[Nat.lcm_comm]at m1 m2 m3;unfold nmT nJ at *;simp only;rw[← e1,← e2];simp[Ze,z3,z4,y3,y4,m1,m2,m3]
theorem qti {M W D Y:Nat} (hM:M≤1000) (hW:W≤1000) {s:Sm} (h:s.ok M W) (o:NO D Y n) (hD:D*kSm s≤10 ^ 18) (hY:Y≤10 ^ 18):bdE (Qg 2) Ze s.d (qbK C (S++[nmT n]))=.ok .nx (qbK C (S++[nmT (nS s n)])):=by
 have e:=qck hM hW h o hD hY;obtain⟨v,ds,hd,n1,n2,n3,n4⟩:=Ue s;have z1:L2.atI (S++[nmT n]) (-1)=some (nmT n):=Mw;rw[hd]at e ⊢;generalize nmT (nS s n)=Y at e ⊢;generalize nmT n=X at e z1 ⊢;simp[Ze,n1,n2,n3,z1,e]
end
theorem Fe {M W:Nat} (hM:M≤1000) (hW:W≤1000) {C:Option L}:∀(p:Ps) (E Y:Nat) (n:Nm) (S rest:List D),p.wf M W→NO E Y n→E*kP p≤10 ^ 18→Y*2 ^ p.np≤10 ^ 18→S.length+p.flat.length≤900→
  Zy (Qg 2) Ze (p.flat++rest) (qbK C (S++[nmT n]))=Zy (Qg 2) Ze rest (qbK C (S++[nmT (nP p n)]))
 | .nil,D,Y,n,S,rest,_,_,_,_,_=>rfl
 | .sm s t,D,Y,n,S,rest,h,o,hD,hY,hS=>by
  obtain⟨a1,a2,a3,a4⟩:=qir h hD hY;have e0:(Ps.sm s t).flat=s.d::t.flat:=rfl;rw[e0]at hS ⊢;simp only[List.length_cons]at hS;rw[List.cons_append,Qs (qti hM hW h.1 o a1 a3)];exact (Fe hM hW t (D*kSm s) (Y*2) (nS s n) S rest h.2 (qgA hM h.1 o) a2 a4 (by omega)).trans rfl
 | .both l r t,D,Y,n,S,rest,h,o,hD,hY,hS=>by
  obtain⟨a1,a2,a3,a4,a5,a6,a7⟩:=qdd h hD hY;obtain⟨ol,or,oj⟩:=qdc hM h o;rw[Wd]at hS ⊢;simp only[List.length_cons,List.length_append]at hS;rw[List.cons_append,Qs (qiC (by omega)),List.append_assoc,List.cons_append,List.append_assoc,List.cons_append];rw[Fe hM hW l D Y n (S++[nmT n]) _ h.1 o a1 a5 (by simp;omega),Qs (qiD (by omega))];rw[Fe hM hW r D Y n (S++[nmT n]++[nmT (nP l n)]) _ h.2.1 o a2 a6 (by simp;omega),Qs (qiB ol or a3 (by omega))];exact (Fe hM hW t _ _ _ S rest h.2.2 oj a4 a7 (by omega)).trans rfl
theorem qgL {M W:Nat} (hM:M≤1000) (hW:W≤1000) (p:Ps) (h:p.wf M W) (hD:1*kP p≤10 ^ 18) (hY:1001*2 ^ p.np≤10 ^ 18) (hn:p.np≤100):X7 [.d (.lst p.flat)]=.ok (.d (nmT (nP p nm1))) [.d (.lst p.flat)]:=by
 have hf:=Gy (p:=p);have e:=Fe hM hW (C:=some (.d (.lst p.flat))) p 1 1001 nm1 [] [] h NO1 hD hY (by simp;omega);simp only[List.append_nil,List.nil_append,Fz]at e;unfold X7 K7;have e0:nmT nm1=.tup [.int 1,.int 1,.int 0,.int 1,.int 1]:=rfl;rw[e0]at e;generalize nmT (nP p nm1)=z at e ⊢;have z0:L2.atI [z] 0=some z:=rfl;simp[qbK]at e;simp[e,z0]
def hdE (d:D) (s:Str):Bool:=match d with
 | .tup (x::_)=>(eqB x (.str s)).getD false
 | _=>false
def isO (d:D):Bool:=hdE d "open"
def Em (d:D):Bool:=hdE d "shut"
def nO (xs:List D):Nat:=(xs.filter isO).length
def nSh (xs:List D):Nat:=(xs.filter Em).length
@[simp] theorem qqX:nO []=0:=rfl
@[simp] theorem qno:nSh []=0:=rfl
theorem zf:isO opD=true∧Em opD=false:=by simp[isO,Em,hdE,opD]
theorem zg:isO Cj=false∧Em Cj=false:=by simp[isO,Em,hdE,Cj]
theorem ze:isO shD=false∧Em shD=true:=by simp[isO,Em,hdE,shD]
theorem zd (s:Sm):isO s.d=false∧Em s.d=false:=by
 obtain⟨w,ds,e,h1,h2,h3,h4⟩:=Ue s;rw[e];simp[isO,Em,hdE,h1,h3]
theorem Wj {d:D} {xs:List D}:nO (d::xs)=(if isO d=true then 1 else 0)+nO xs:=by
 unfold nO;rw[List.filter_cons];split<;>simp[Nat.add_comm]
theorem Vh {d:D} {xs:List D}:nSh (d::xs)=(if Em d=true then 1 else 0)+nSh xs:=by
 unfold nSh;rw[List.filter_cons];split<;>simp[Nat.add_comm]
theorem Ox {xs ys:List D}:nO (xs++ys)=nO xs+nO ys:=by unfold nO;rw[List.filter_append,List.length_append]
theorem Ck {xs ys:List D}:nSh (xs++ys)=nSh xs+nSh ys:=by unfold nSh;rw[List.filter_append,List.length_append]
theorem U7:∀{p:Ps},nO p.flat=nSh p.flat
 | .nil=>rfl
 | .sm s t=>by
  show nO (s.d::t.flat)=nSh (s.d::t.flat);rw[Wj,Vh,(zd s).1,(zd s).2,U7]
 | .both l r t=>by
  rw[Wd,Wj,Vh,Ox,Ck,Wj,Vh,Ox,Ck,Wj,Vh,zf.1,zf.2,zg.1,zg.2,ze.1,ze.2,U7 (p:=l),U7 (p:=r),U7 (p:=t)];simp;omega
theorem Ri:∀{p:Ps} (k:Nat),nSh (p.flat.take k)≤nO (p.flat.take k)
 | .nil,k=>by simp[Ps.flat]
 | .sm s t,0=>by simp
 | .sm s t,k+1=>by
  have e:(Ps.sm s t).flat.take (k+1)=s.d::t.flat.take k:=rfl;rw[e,Wj,Vh,(zd s).1,(zd s).2];have:=Ri (p:=t) k;simp;omega
 | .both l r t,0=>by simp
 | .both l r t,k+1=>by
  rw[Wd,List.take_succ_cons,Wj,Vh,zf.1,zf.2];have bl:=U7 (p:=l);have br:=U7 (p:=r);have h1:=Ri (p:=l) k;rw[List.take_append,Ox,Ck];rcases Nat.lt_or_ge l.flat.length k with hk | hk
  ·rw[List.take_of_length_le (Nat.le_of_lt hk)];obtain⟨j,hj⟩:∃j,k-l.flat.length=j+1:=⟨k-l.flat.length-1,by omega⟩;rw[hj,List.take_succ_cons,Wj,Vh,zg.1,zg.2,List.take_append,Ox,Ck];have h2:=Ri (p:=r) j;rcases Nat.lt_or_ge r.flat.length j with hr | hr
   ·rw[List.take_of_length_le (Nat.le_of_lt hr)];obtain⟨i,hi⟩:∃i,j-r.flat.length=i+1:=⟨j-r.flat.length-1,by omega⟩;rw[hi,List.take_succ_cons,Wj,Vh,ze.1,ze.2];have h3:=Ri (p:=t) i;simp;omega
   ·rw[show j-r.flat.length=0 by omega];simp;omega
  ·rw[show k-l.flat.length=0 by omega];simp;omega
theorem Ir {M W:Nat}:∀{p:Ps} (k:Nat),p.wf M W→nO (p.flat.take k)=nSh (p.flat.take k)→∃q:Ps,q.flat=p.flat.take k∧q.wf M W∧q.nb≤p.nb∧q.np≤p.np
 | .nil,k,h,_=>⟨.nil,by simp[Ps.flat],trivial,Nat.le_refl _,Nat.le_refl _⟩
 | .sm s t,0,h,_=>⟨.nil,by simp[Ps.flat],trivial,Nat.zero_le _,Nat.zero_le _⟩
 | .sm s t,k+1,h,hb=>by
  have e:(Ps.sm s t).flat.take (k+1)=s.d::t.flat.take k:=rfl;rw[e,Wj,Vh,(zd s).1,(zd s).2]at hb;obtain⟨q,q1,q2,q3,q4⟩:=Ir (p:=t) k h.2 (by simpa using hb);refine⟨.sm s q,?_,⟨h.1,q2⟩,q3,Nat.succ_le_succ q4⟩;rw[e,← q1];rfl
 | .both l r t,0,h,_=>⟨.nil,by simp[Ps.flat],trivial,Nat.zero_le _,Nat.zero_le _⟩
 | .both l r t,k+1,h,hb=>by
  rw[Wd,List.take_succ_cons,Wj,Vh,zf.1,zf.2]at hb;have bl:=U7 (p:=l);have br:=U7 (p:=r);have h1:=Ri (p:=l) k;rw[List.take_append,Ox,Ck]at hb;rcases Nat.lt_or_ge l.flat.length k with hk | hk
  ·rw[List.take_of_length_le (Nat.le_of_lt hk)]at hb;obtain⟨j,hj⟩:∃j,k-l.flat.length=j+1:=⟨k-l.flat.length-1,by omega⟩;rw[hj,List.take_succ_cons,Wj,Vh,zg.1,zg.2,List.take_append,Ox,Ck]at hb;have h2:=Ri (p:=r) j;rcases Nat.lt_or_ge r.flat.length j with hr | hr
   ·rw[List.take_of_length_le (Nat.le_of_lt hr)]at hb;obtain⟨i,hi⟩:∃i,j-r.flat.length=i+1:=⟨j-r.flat.length-1,by omega⟩;rw[hi,List.take_succ_cons,Wj,Vh,ze.1,ze.2]at hb;have h3:=Ri (p:=t) i;obtain⟨q,q1,q2,q3,q4⟩:=Ir (p:=t) i h.2.2 (by simp at hb;omega);refine⟨.both l r q,?_,⟨h.1,h.2.1,q2⟩,?_,?_⟩
    ·rw[Wd,Wd,List.take_succ_cons,List.take_append,List.take_of_length_le (Nat.le_of_lt hk),hj,List.take_succ_cons,List.take_append,List.take_of_length_le (Nat.le_of_lt hr),hi,List.take_succ_cons,← q1]
    ·show l.nb+r.nb+q.nb+1≤l.nb+r.nb+t.nb+1;omega
    ·show l.np+r.np+q.np+1≤l.np+r.np+t.np+1;omega
   ·rw[show j-r.flat.length=0 by omega]at hb;simp at hb;omega
  ·rw[show k-l.flat.length=0 by omega]at hb;simp at hb;omega
theorem Md:∀{p:Ps} {d:D},d∈p.flat→d=opD∨d=Cj∨d=shD∨∃s:Sm,d=s.d
 | .nil,d,h=>by cases h
 | .sm s t,d,h=>by
  rcases List.mem_cons.mp (show d∈s.d::t.flat from h) with h | h
  ·exact .inr (.inr (.inr ⟨s,h⟩))
  ·exact Md h
 | .both l r t,d,h=>by
  rw[Wd,List.mem_cons,List.mem_append,List.mem_cons,List.mem_append,List.mem_cons]at h;rcases h with h | h | h | h | h | h
  ·exact .inl h
  ·exact Md h
  ·exact .inr (.inl h)
  ·exact Md h
  ·exact .inr (.inr (.inl h))
  ·exact Md h
abbrev Tok (xs:List D):Prop:=∀d∈xs,d=opD∨d=Cj∨d=shD∨∃s:Sm,d=s.d
theorem qnh {o0 o1 o2 o4:Option L} {xs:List D} (h:Tok xs) (hl:xs.length≤1000) :
  fLc (Ge (Qi 3)) [5] (Qg 5) (tBl (eOp eqD (eOp ixD (Qi 5) (eC (.int 0))) (eC (.str "open")))) (Qi 5) [o0,o1,o2,some (.d (.lst xs)),o4,none]=.ok (.lst (xs.filter isO)) [o0,o1,o2,some (.d (.lst xs)),o4,none]:=by
 have e:(xs.filter isO).map (fun d=>d)=xs.filter isO:=List.map_id' _;rw[← e];refine qcj (xs:=xs) (fun d=>d) (fun d=>d) isO (by simp) (by simp) (Oc (by omega)) (fun d hd hp=>?_) (fun d hd hp=>?_)
 ·rcases h d hd with rfl | rfl | rfl | ⟨s,rfl⟩
  ·simp
  ·rw[zg.1]at hp;cases hp
  ·rw[ze.1]at hp;cases hp
  ·rw[(zd s).1]at hp;cases hp
 ·rcases h d hd with rfl | rfl | rfl | ⟨s,rfl⟩
  ·rw[zf.1]at hp;cases hp
  ·simp
  ·simp
  ·obtain⟨w,ds,e,h1,h2,h3,h4⟩:=Ue s;rw[e];simp[h1]
theorem qmP {o0 o1 o2 o4:Option L} {xs:List D} (h:Tok xs) (hl:xs.length≤1000) :
  fLc (Ge (Qi 3)) [5] (Qg 5) (tBl (eOp eqD (eOp ixD (Qi 5) (eC (.int 0))) (eC (.str "shut")))) (Qi 5) [o0,o1,o2,some (.d (.lst xs)),o4,none]=.ok (.lst (xs.filter Em)) [o0,o1,o2,some (.d (.lst xs)),o4,none]:=by
 have e:(xs.filter Em).map (fun d=>d)=xs.filter Em:=List.map_id' _;rw[← e];refine qcj (xs:=xs) (fun d=>d) (fun d=>d) Em (by simp) (by simp) (Oc (by omega)) (fun d hd hp=>?_) (fun d hd hp=>?_)
 ·rcases h d hd with rfl | rfl | rfl | ⟨s,rfl⟩
  ·rw[zf.2]at hp;cases hp
  ·rw[zg.2]at hp;cases hp
  ·simp
  ·rw[(zd s).2]at hp;cases hp
 ·rcases h d hd with rfl | rfl | rfl | ⟨s,rfl⟩
  ·simp
  ·simp
  ·rw[ze.2]at hp;cases hp
  ·obtain⟨w,ds,e,h1,h2,h3,h4⟩:=Ue s;rw[e];simp[h3]
theorem qeI {xs:List D} {c:Nat} (hc:c≤xs.length):cutD xs none (some ((xs.length:Int)-(c:Int)))=xs.take (xs.length-c):=by
 unfold cutD;rw[show (xs.length:Int)-(c:Int)=((xs.length-c:Nat):Int) by omega,HT.sIx_nat,HT.sIx_none,List.drop_zero,Nat.sub_zero,Nat.min_eq_left (by omega)]
structure Nar (M W B T lim:Nat) (q:Ps):Prop where
 wf:q.wf M W
 nb:q.nb≤B
 np:q.np≤T
 h:(nP q nm1).h≤lim
abbrev qdB (p:Ps) (lim:Nat):DL.Env:=[some (.d (.lst p.flat)),some (.d (.int lim)),none,none,none,none]
theorem qi1 {M W lim:Nat} (hM:M≤1000) (hW:W≤1000) (hW1:1≤W) {p:Ps} (h:p.wf M W) (hD:W ^ p.np≤10 ^ 18) (hY:1001*2 ^ p.np≤10 ^ 18) (hn:p.np≤100) {c:Nat} (hc:c≤p.flat.length) :
  bdE (Qg 2) Jc (.int c) (qdB p lim)=.ok .nx (qdB p lim)∨∃(q:Ps) (ρ:DL.Env),Nar M W p.nb p.np lim q∧bdE (Qg 2) Jc (.int c) (qdB p lim)=.ok (.rt (.d (.lst q.flat))) ρ:=by
 have hf:=Gy (p:=p);have e0:=qeI hc;have ht:Tok (p.flat.take (p.flat.length-c)):=fun d hd=>Md (List.mem_of_mem_take hd);have hl:(p.flat.take (p.flat.length-c)).length≤1000:=by rw[List.length_take];omega
 have e1:=fun o4=>qnh (o0:=some (.d (.lst p.flat))) (o1:=some (.d (.int lim))) (o2:=some (.d (.int c))) (o4:=o4) ht hl;have e2:=fun o4=>qmP (o0:=some (.d (.lst p.flat))) (o1:=some (.d (.int lim))) (o2:=some (.d (.int c))) (o4:=o4) ht hl;have b1:((p.flat.take (p.flat.length-c)).filter isO).length=nO (p.flat.take (p.flat.length-c)):=rfl;have b2:((p.flat.take (p.flat.length-c)).filter Em).length=nSh (p.flat.take (p.flat.length-c)):=rfl;unfold qdB;by_cases hb:nO (p.flat.take (p.flat.length-c))=nSh (p.flat.take (p.flat.length-c))
 ·obtain⟨q,q1,q2,q3,q4⟩:=Ir _ h hb;have hq:=qgL hM hW q q2 (by rw[Nat.one_mul];exact Nat.le_trans (qa0 hW1 q2) (Nat.le_trans (Nat.pow_le_pow_right hW1 q4) hD)) (Nat.le_trans (Nat.mul_le_mul_left _ (Nat.pow_le_pow_right (by decide) q4)) hY) (by omega);by_cases hh:(nP q nm1).h≤lim
  ·right;refine⟨q,[some (.d (.lst p.flat)),some (.d (.int lim)),some (.d (.int c)),some (.d (.lst q.flat)),some (.d (.int (nSh q.flat))),none],⟨q2,q3,q4,hh⟩,?_⟩;rw[← q1]at e0 e1 e2 hb b1 b2;generalize p.flat=C at *;generalize q.flat=H at *;generalize H.filter isO=X at *;generalize H.filter Em=Y at *;simp[Jc,e0,e1,e2,b1,b2,hb,hq,hh]
  ·left;rw[← q1]at e0 e1 e2 hb b1 b2;generalize p.flat=C at *;generalize q.flat=H at *;generalize H.filter isO=X at *;generalize H.filter Em=Y at *;simp[Jc,e0,e1,e2,b1,b2,hb,hq,hh]
 ·left;have hb':¬((nO (p.flat.take (p.flat.length-c)):Nat):Int)=((nSh (p.flat.take (p.flat.length-c)):Nat):Int):=by omega
  generalize p.flat.take (p.flat.length-c)=H at *;generalize p.flat=C at *;generalize H.filter isO=X at *;generalize H.filter Em=Y at *;simp[Jc,e0,e1,e2,b1,b2,hb']
theorem qe4 {M W lim:Nat} (hM:M≤1000) (hW:W≤1000) (hW1:1≤W) {p:Ps} (h:p.wf M W) (hD:W ^ p.np≤10 ^ 18) (hY:1001*2 ^ p.np≤10 ^ 18) (hn:p.np≤100):∀(cs:List Nat),(∀c∈cs,c≤p.flat.length)→
  Zy (Qg 2) Jc (cs.map fun (c:Nat)=>D.int (c:Int)) (qdB p lim)=.ok .nx (qdB p lim)∨∃(q:Ps) (ρ:DL.Env),Nar M W p.nb p.np lim q∧Zy (Qg 2) Jc (cs.map fun (c:Nat)=>D.int (c:Int)) (qdB p lim)=.ok (.rt (.d (.lst q.flat))) ρ
 | [],_=>.inl rfl
 | c::cs,hc=>by
  rw[List.map_cons];rcases qi1 (lim:=lim) hM hW hW1 h hD hY hn (hc c List.mem_cons_self) with e | ⟨q,ρ,hq,e⟩
  ·rw[Qs e];exact qe4 hM hW hW1 h hD hY hn cs fun c' hc'=>hc c' (List.mem_cons_of_mem _ hc')
  ·exact .inr ⟨q,ρ,hq,Ea e⟩
theorem Bz {n:Nat}:Z4 0 n=(List.range n).map fun (c:Nat)=>D.int (c:Int):=by
 rw[qbB];unfold seg;refine List.map_congr_left fun c _=>?_;rw[Nat.zero_add]
theorem qd1 {M W lim:Nat} (hM:M≤1000) (hW:W≤1000) (hW1:1≤W) (hl:1≤lim) {p:Ps} (h:p.wf M W) (hD:W ^ p.np≤10 ^ 18) (hY:1001*2 ^ p.np≤10 ^ 18) (hn:p.np≤100) :
  ∃q:Ps,Nar M W p.nb (max p.np 1) lim q∧(Xs [.d (.lst p.flat),.d (.int lim)]=.ok (.d (.lst q.flat)) [.d (.lst p.flat),.d (.int lim)]∨Xs [.d (.lst p.flat),.d (.int lim)]=.ok (.m (.lst q.flat)) [.d (.lst p.flat),.d (.int lim)]):=by
 have hf:=Gy (p:=p);have hlen:p.flat.length≤1000:=by omega
 unfold Xs Wz;rcases qe4 (lim:=lim) hM hW hW1 h hD hY hn (List.range p.flat.length) (fun c hc=>by have:=List.mem_range.mp hc;omega) with e | ⟨q,ρ,hq,e⟩
 ·rw[← Bz]at e;refine⟨.sm .same .nil,⟨⟨trivial,trivial⟩,Nat.zero_le _,by show 0+1≤_;omega,hl⟩,.inr ?_⟩;have e2:(Ps.sm .same .nil).flat=[.tup [.str "same"]]:=rfl;rw[e2];unfold qdB at e;generalize p.flat=C at *;simp[e]
 ·rw[← Bz]at e;refine⟨q,⟨hq.wf,hq.nb,by have:=hq.np;omega,hq.h⟩,.inl ?_⟩;unfold qdB at e;generalize p.flat=C at *;generalize q.flat=H at *;simp[e]
def D9 (ks:List Int) (z:Int):List Int:=if z∈ks then ks else ks++[z]
theorem Ap {ks:List Int} {z x:Int}:x∈D9 ks z↔x∈ks∨x=z:=by
 unfold D9;split
 ·exact⟨.inl,fun h=>h.elim id fun e=>e▸‹_›⟩
 ·rw[List.mem_append,List.mem_singleton]
theorem xq {ks:List Int} {z:Int} (h:ks.Nodup):(D9 ks z).Nodup:=by
 unfold D9;split
 ·exact h
 ·rw[List.nodup_append];exact⟨h,by simp,fun a ha b hb e=>by rw[List.mem_singleton]at hb;subst hb;subst e;contradiction⟩
theorem Gv {ks:List Int} {z:Int}:(D9 ks z).length≤ks.length+1:=by
 unfold D9;split<;>simp
def kQ (ks:List Int):List (Key×D):=ks.map fun z=>((.inl z:Key),D.bl true)
theorem qe8 {ks:List Int}:(kQ ks).length=ks.length:=List.length_map ..
theorem qeZ {ks:List Int} {z:Int}:qaN (kQ ks) (.inl z) (.bl true)=kQ (D9 ks z):=by
 have e1:((kQ ks).any fun kv=>decide (kv.1=(.inl z:Key)))=decide (z∈ks):=by
  unfold kQ;rw[List.any_map];induction ks with
  | nil=>rfl
  | cons a ks ih=>
   rw[List.any_cons,ih];by_cases h:a=z<;>by_cases h2:z∈ks<;>simp[h,h2,eq_comm]<;>intro h3<;>exact absurd h3.symm h
 unfold qaN D9;rw[e1];by_cases h:z∈ks
 ·rw[if_pos (by simpa using h),if_pos h];unfold kQ;rw[List.map_map];refine List.map_congr_left fun x _=>?_;show (if ((.inl x:Key)=.inl z) then _ else _)=_;split<;>rfl
 ·rw[if_neg (by simpa using h),if_neg h];unfold kQ;rw[List.map_append];rfl
def qcZ (ks:List Int) (t:S3):List Int:=D9 (D9 ks t.1) (t.1+t.2.1*(t.2.2-1))
def qbo (ks:List Int) (r:List S3):List Int:=r.foldl qcZ ks
theorem qjl (b s c:Int) (m:J9 s (c-1)):Y2 [.d (tr b s c)]=.ok (.d (.int (b+s*(c-1)))) [.d (tr b s c)]:=by
 unfold Y2 Wv;simp[m]
theorem qkB {o0 o1 o3:Option L} {ks:List Int} {b s c:Int} (m:J9 s (c-1)) (hk:ks.length≤9000):bdE (Qg 4) Pb (tr b s c) [o0,o1,some (.m (.dct (kQ ks))),o3,none]=.ok .nx [o0,o1,some (.m (.dct (kQ (qcZ ks (b,s,c))))),o3,none]:=by
 have e:=qjl b s c m;have h1:(kQ ks).length<mx:=by rw[qe8];exact Nat.lt_of_lt_of_le (show ks.length<9001 by omega) (by decide)
 have h2:(kQ (D9 ks b)).length<mx:=by rw[qe8];exact Nat.lt_of_lt_of_le (show (D9 ks b).length<9002 by have:=Gv (ks:=ks) (z:=b);omega) (by decide)
 simp[Pb,e,h1,qeZ,h2,qcZ]
theorem qez {ks:List Int} {t:S3}:(qcZ ks t).length≤ks.length+2:=by
 have h1:=Gv (ks:=ks) (z:=t.1);have h2:=Gv (ks:=D9 ks t.1) (z:=t.1+t.2.1*(t.2.2-1));unfold qcZ;omega
theorem qfs {S:Nat} (hS:S≤10 ^ 61) {o0 o1 o3:Option L}:∀{r:List S3} {ks:List Int},Zx S r→ks.length+2*r.length≤9000→Zy (Qg 4) Pb (r.map fun x=>tr x.1 x.2.1 x.2.2) [o0,o1,some (.m (.dct (kQ ks))),o3,none]=.ok .nx [o0,o1,some (.m (.dct (kQ (qbo ks r)))),o3,none]
 | [],ks,_,_=>rfl
 | t::r,ks,ok,hl=>by
  simp only[List.length_cons]at hl;rw[List.map_cons,Qs (qkB (ok.hd.mc hS) (by omega)),qfs hS ok.tl ?_]
  ·rfl
  ·have h:(qcZ ks (t.1,t.2.1,t.2.2)).length≤ks.length+2:=qez;omega
theorem Ed:∀{r:List S3} {ks:List Int},(qbo ks r).length≤ks.length+2*r.length
 | [],ks=>Nat.le_refl _
 | t::r,ks=>by
  have h1:=Gv (ks:=ks) (z:=t.1);have h2:=Gv (ks:=D9 ks t.1) (z:=t.1+t.2.1*(t.2.2-1));have h3:=Ed (r:=r) (ks:=qcZ ks t);show (qbo (qcZ ks t) r).length≤_;unfold qcZ at h3 ⊢;rw[List.length_cons];omega
theorem qcX:∀{r:List S3} {ks:List Int},ks.Nodup→(qbo ks r).Nodup
 | [],ks,h=>h
 | t::r,ks,h=>qcX (r:=r) (xq (xq h))
theorem vo {x:Int}:∀{r:List S3} {ks:List Int},x∈qbo ks r↔x∈ks∨∃t∈r,x=t.1∨x=t.1+t.2.1*(t.2.2-1)
 | [],ks=>by simp[qbo]
 | t::r,ks=>by
  show x∈qbo (qcZ ks t) r↔_;rw[vo,qcZ,Ap,Ap];simp[or_assoc]
def endF (L:Nat) (fs:List Ps) (ks:List Int):List Int:=fs.foldl (fun ks p=>qbo ks (Qu p (Qn L))) ks
def ends (L:Nat) (fs:List Ps):List Int:=qdK (endF L fs (D9 [0] ((L:Int)-1)))
theorem Ee {M L:Nat}:∀{fs:List Ps} {ks:List Int},(∀p∈fs,Fine M p)→(endF L fs ks).length≤ks.length+32*fs.length
 | [],ks,_=>Nat.le_refl _
 | p::fs,ks,h=>by
  have h1:=Ee (L:=L) (fs:=fs) (ks:=qbo ks (Qu p (Qn L))) fun q hq=>h q (List.mem_cons_of_mem _ hq);have h2:=Ed (r:=Qu p (Qn L)) (ks:=ks);have h3:=(h p List.mem_cons_self).rlen (n:=L);show (endF L fs (qbo ks (Qu p (Qn L)))).length≤_;rw[List.length_cons];omega
theorem qcY {L:Nat}:∀{fs:List Ps} {ks:List Int},ks.Nodup→(endF L fs ks).Nodup
 | [],ks,h=>h
 | p::fs,ks,h=>qcY (fs:=fs) (qcX h)
theorem vp {L:Nat} {x:Int}:∀{fs:List Ps} {ks:List Int},x∈endF L fs ks↔x∈ks∨∃p∈fs,∃t∈Qu p (Qn L),x=t.1∨x=t.1+t.2.1*(t.2.2-1)
 | [],ks=>by simp[endF]
 | p::fs,ks=>by
  show x∈endF L fs (qbo ks (Qu p (Qn L)))↔_;rw[vp,vo];simp[or_assoc]
theorem qah {M L:Nat} (hL:L≤10 ^ 58) {o:Option DL.L}:∀{fs:List Ps} {ks:List Int},(∀p∈fs,Fine M p)→ks.length+32*fs.length≤9000→Zy (Qg 3) Pa (fs.map Wt) [some (.d (.int L)),o,some (.m (.dct (kQ ks))),none,none]=.ok .nx [some (.d (.int L)),o,some (.m (.dct (kQ (endF L fs ks)))),none,none]
 | [],ks,_,_=>rfl
 | p::fs,ks,h,hl=>by
  simp only[List.length_cons]at hl;have f:=h p List.mem_cons_self;have h3:=f.rlen (n:=L);have es:=f.strs hL;have eg:=qfs (S:=1*9 ^ p.np) (Nat.le_trans f.pw (by decide)) (o0:=some (.d (.int L))) (o1:=o) (o3:=some (.d (Wt p))) (f.rows hL) (ks:=ks) (by omega);have h2:=Ed (r:=Qu p (Qn L)) (ks:=ks);have e2:bdE (Qg 3) Pa (Wt p) [some (.d (.int L)),o,some (.m (.dct (kQ ks))),none,none]=.ok .nx [some (.d (.int L)),o,some (.m (.dct (kQ (qbo ks (Qu p (Qn L)))))),none,none]:=by
   unfold V5 at es;generalize (Qu p (Qn L)).map (fun x=>tr x.1 x.2.1 x.2.2)=R at es eg;unfold Wt at *;simp[Pa,Zr,es,eg]
  rw[List.map_cons,Qs e2];exact qah hL (fs:=fs) (fun q hq=>h q (List.mem_cons_of_mem _ hq)) (by omega)
theorem qkA {M L:Nat} (hL0:1≤L) (hL:L≤10 ^ 58) {fs:List Ps} (h:∀p∈fs,Fine M p) (hl:fs.length≤200):H8 [.d (.int L),.d (.tup (fs.map Wt))]=.ok (.m (.lst ((ends L fs).map .int))) [.d (.int L),.d (.tup (fs.map Wt))]:=by
 have k0:=Gv (ks:=[0]) (z:=(L:Int)-1);simp only[List.length_cons,List.length_nil]at k0;have eg:=qah hL (o:=some (.d (.tup (fs.map Wt)))) (ks:=D9 [0] ((L:Int)-1)) h (by omega);have ep:qaN (qaN [] (.inl (0:Int)) (.bl true)) (.inl ((L:Int)-1)) (.bl true)=kQ (D9 [0] ((L:Int)-1)):=by
  rw[← qeZ];rfl
 have el:=Ee (L:=L) (ks:=D9 [0] ((L:Int)-1)) h;have L1:¬(L:Int)<0:=by omega
 have L2:¬(L:Int)=0:=by omega
 have L3:¬L=0:=by omega
 unfold H8 Sh ends;generalize fs.map Wt=F at *;have ek:(kQ (endF L fs (D9 [0] ((L:Int)-1)))).map (fun kv=>qlR kv.1)=(endF L fs (D9 [0] ((L:Int)-1))).map .int:=by
  unfold kQ;rw[List.map_map];rfl
 generalize endF L fs (D9 [0] ((L:Int)-1))=E at *;generalize D9 [0] ((L:Int)-1)=K at *;have em:(qdK E).length≤mx:=by rw[(Hx E).length_eq];exact Nat.le_trans (show E.length≤9000 by omega) (by decide)
 have em2:E.length≤mx:=Nat.le_trans (show E.length≤9000 by omega) (by decide);simp[L1,L2,L3,ep,eg,ek,em,em2]
theorem qaC {M W:Nat} (hM:M≤1000) (hW:W≤1000) (p:Ps) (h:p.wf M W) (hd:dp p≤19) (hD:1*kP p≤10 ^ 18) (hY:1001*2 ^ p.np≤10 ^ 18):W8 [.d (.tup [Wt p])]=.ok (.d (nmI (nP p nm1))) [.d (.tup [Wt p])]:=by
 have e:=qb2 hM hW p h hd hD hY;have e0:L2.atI [Wt p] 0=some (Wt p):=rfl;have e1:cutD [Wt p] (some 1) none=[]:=rfl;unfold W8 Ng;generalize nmI (nP p nm1)=z at *;generalize Wt p=F at *;simp[e,e0,e1]
def btw (h:Nat) (e f:Int) (as:List Int):List S3:=as.map fun a=>(e+a,(h:Int),(f-e-1-a).fdiv h+1)
def bas (h:Nat) (g:Int):List Int:=(List.range (min (h:Int) g).toNat).map fun (i:Nat)=>1+(i:Int)
def Yo (h:Nat):List Int→List S3
 | []=>[]
 | [e]=>[(e,(h:Int),1)]
 | e::f::es=>(e,(h:Int),1)::(btw h e f (bas h (f-e-1))++Yo h (f::es))
theorem yi {h:Nat} {g:Int}:(bas h g).length≤h:=by
 unfold bas;rw[List.length_map,List.length_range];omega
theorem O9 {h:Nat}:∀{es:List Int},(Yo h es).length≤es.length*(h+1)
 | []=>by simp[Yo]
 | [e]=>by simp[Yo]
 | e::f::es=>by
  have h1:=O9 (h:=h) (es:=f::es);have h2:=yi (h:=h) (g:=f-e-1);simp only[Yo,btw,List.length_cons,List.length_append,List.length_map,Nat.add_mul,Nat.one_mul]at h1 ⊢;omega
abbrev rD (r:List S3):List D:=r.map fun x=>tr x.1 x.2.1 x.2.2
abbrev qeN (L F:Option DL.L) (E:List Int) (h:Nat) (acc:List S3):DL.Env:=[L,F,some (.d (.lst (E.map .int))),some (.d (.int h)),some (.m (.lst (rD acc))),none,none,none,none]
theorem E6 {a b:List S3}:rD (a++b)=rD a++rD b:=List.map_append ..
theorem qfy {L F o5:Option DL.L} {E:List Int} {h:Nat} (h0:1≤h) (h1:h≤1000) {e f:Int}:∀(as:List Int) (acc:List S3),acc.length+as.length≤90000→Zy (Qg 8) Hk (as.map .int) [L,F,some (.d (.lst (E.map .int))),some (.d (.int h)),some (.m (.lst (rD acc))),o5,some (.d (.int e)),some (.d (.int (f-e-1))),none]=.ok .nx [L,F,some (.d (.lst (E.map .int))),some (.d (.int h)),some (.m (.lst (rD (acc++btw h e f as)))),o5,some (.d (.int e)),some (.d (.int (f-e-1))),none]
 | [],acc,_=>by simp[btw]
 | a::as,acc,hl=>by
  have d1:=qhg h0 (show h≤1000000 by omega);have hn:¬h=0:=by omega
  simp only[List.length_cons]at hl;have hz:(rD acc).length≤100000:=by rw[List.length_map];omega
  have e2:bdE (Qg 8) Hk (.int a) [L,F,some (.d (.lst (E.map .int))),some (.d (.int h)),some (.m (.lst (rD acc))),o5,some (.d (.int e)),some (.d (.int (f-e-1))),none]=.ok .nx [L,F,some (.d (.lst (E.map .int))),some (.d (.int h)),some (.m (.lst (rD (acc++[(e+a,(h:Int),(f-e-1-a).fdiv h+1)])))),o5,some (.d (.int e)),some (.d (.int (f-e-1))),none]:=by
   rw[E6];generalize rD acc=R at *;generalize f-e-1=g;generalize E.map D.int=EE;simp[Hk,d1,hz,hn,rD]
  rw[List.map_cons,Qs e2,qfy h0 h1 as _ (by rw[List.length_append];simp;omega),List.append_assoc];rfl
theorem qdh {h:Nat} {g:Int}:Z4 1 (min (h:Int) g).toNat=(bas h g).map .int:=by
 unfold Z4 bas;rw[List.map_map];rfl
theorem qhs {L F:Option DL.L} {E:List Int} {h:Nat} (h0:1≤h) (h1:h≤1000) {k:Nat} {e f:Int} {es:List Int} {acc:List S3} (hE:E.drop k=e::f::es) (hl:acc.length+h+1≤80000) :
  bdE (P0 2 (Zv (Qg 5) (Zv (Qg 6) Mq))) V2 (.tup [.int k,.int e]) (qeN L F E h acc)=.ok .nx (qeN L F E h (acc++(e,(h:Int),1)::btw h e f (bas h (f-e-1)))):=by
 have hz:(rD acc).length≤100000:=by rw[List.length_map];omega
 have hk:k+1<E.length:=by
  have:=congrArg List.length hE;rw[List.length_drop]at this;simp at this;omega
 have hf:E[k+1]?=some f:=by
  have:=congrArg (fun l=>l[1]?) hE;simp only[List.getElem?_drop]at this;exact this
 have ha:L2.atI (E.map D.int) ((k:Int)+1)=some (.int f):=by
  rw[show (k:Int)+1=((k+1:Nat):Int) by omega];exact qdl (by rw[List.getElem?_map,hf];rfl)
 have hk2:(k:Int)+1<(E.length:Int):=by omega
 have eg:=qfy (L:=L) (F:=F) (o5:=some (.d (.int k))) (E:=E) h0 h1 (e:=e) (f:=f) (bas h (f-e-1)) (acc++[(e,(h:Int),1)]) (by have:=yi (h:=h) (g:=f-e-1);rw[List.length_append];simp;omega);rw[← qdh,List.append_assoc,List.singleton_append,E6]at eg;have er:rD [(e,(h:Int),1)]=[.tup [.int e,.int h,.int 1]]:=rfl;rw[er]at eg;have el:(E.map D.int).length=E.length:=List.length_map ..;unfold qeN;generalize acc++(e,(h:Int),1)::btw h e f (bas h (f-e-1))=Z at *;generalize rD Z=ZZ at *;generalize rD acc=R at *;generalize E.map D.int=EE at *;simp[V2,hz,ha,el,hk2,eg]
theorem qc9 {L F:Option DL.L} {E:List Int} {h:Nat} {k:Nat} {e:Int} {acc:List S3} (hE:E.drop k=[e]) (hl:acc.length≤80000) :
  bdE (P0 2 (Zv (Qg 5) (Zv (Qg 6) Mq))) V2 (.tup [.int k,.int e]) (qeN L F E h acc)=.ok .nx (qeN L F E h (acc++[(e,(h:Int),1)])):=by
 have hz:(rD acc).length≤100000:=by rw[List.length_map];omega
 have hk:k+1=E.length:=by
  have:=congrArg List.length hE;rw[List.length_drop]at this;simp at this;omega
 have hk2:¬(k:Int)+1<(E.length:Int):=by omega
 have el:(E.map D.int).length=E.length:=List.length_map ..;have er:rD [(e,(h:Int),1)]=[.tup [.int e,.int h,.int 1]]:=rfl;unfold qeN;rw[E6,er];generalize rD acc=R at *;generalize E.map D.int=EE at *;simp[V2,hz,el,hk2]
theorem qas {L F:Option DL.L} {E:List Int} {h:Nat} (h0:1≤h) (h1:h≤1000):∀{es:List Int} {k:Nat} {acc:List S3},E.drop k=es→acc.length+es.length*(h+1)≤80000→
  Zy (P0 2 (Zv (Qg 5) (Zv (Qg 6) Mq))) V2 (Ms k (es.map .int)) (qeN L F E h acc)=.ok .nx (qeN L F E h (acc++Yo h es))
 | [],k,acc,_,_=>by simp[Yo,Ms]
 | [e],k,acc,hE,hl=>by
  simp only[List.length_cons,List.length_nil]at hl;rw[List.map_cons,Ms,Qs (qc9 hE (by omega))];rfl
 | e::f::es,k,acc,hE,hl=>by
  simp only[List.length_cons,Nat.add_mul,Nat.one_mul]at hl;have hE2:E.drop (k+1)=f::es:=by
   have:=congrArg List.tail hE;rw[List.tail_drop]at this;exact this
  have hb:=yi (h:=h) (g:=f-e-1);rw[List.map_cons,Ms,Qs (qhs h0 h1 hE (by omega))];rw[qas h0 h1 (es:=f::es) hE2 (by
   simp only[List.length_append,List.length_cons,btw,List.length_map,Nat.add_mul,Nat.one_mul];omega),List.append_assoc]
  rfl
def Pr (p:Ps) (L:Nat):List S3:=Yo (nP p nm1).h (ends L [p])
theorem qak {M L:Nat} {p:Ps} (f:Fine M p):(ends L [p]).length≤34:=by
 have k0:=Gv (ks:=[0]) (z:=(L:Int)-1);simp only[List.length_cons,List.length_nil]at k0;have el:=Ee (L:=L) (fs:=[p]) (ks:=D9 [0] ((L:Int)-1)) (M:=M) (fun q hq=>by rw[List.mem_singleton]at hq;subst hq;exact f);unfold ends;rw[(Hx _).length_eq];simp only[List.length_cons,List.length_nil]at el;omega
theorem qhr {M W B T lim L:Nat} (hM:M≤1000) (hW:W≤1000) (hlim:lim≤1000) {p:Ps} (n:Nar M W B T lim p) (f:Fine M p) (hd:dp p≤19) (hD:1*kP p≤10 ^ 18) (hY:1001*2 ^ p.np≤10 ^ 18) (hL0:1≤L) (hL:L≤10 ^ 58) :
  Ua [.d (.int L),.d (.tup [Wt p])]=.ok (.m (.lst (rD (Pr p L)))) [.d (.int L),.d (.tup [Wt p])]:=by
 have e1:=qkA hL0 hL (fs:=[p]) (M:=M) (fun q hq=>by rw[List.mem_singleton]at hq;subst hq;exact f) (by simp);have e2:=qaC hM hW p n.wf hd hD hY;have ok:=qo hM n.wf NO1;have hl:=qak (L:=L) f;have e3:=qas (L:=some (.d (.int L))) (F:=some (.d (.tup [Wt p]))) (E:=ends L [p]) (h:=(nP p nm1).h) ok.h1.1 (Nat.le_trans n.h hlim) (es:=ends L [p]) (k:=0) (acc:=[]) rfl (by
  have:=Nat.mul_le_mul hl (show (nP p nm1).h+1≤1001 by have:=n.h;omega);simp;omega)
 rw[List.nil_append]at e3;simp only[List.map_cons,List.map_nil]at e1;unfold Ua Nk Pr;unfold qeN at e3;unfold nmI at e2;have er:rD []=[]:=rfl;rw[er]at e3;generalize rD (Yo (nP p nm1).h (ends L [p]))=Z at *;generalize (ends L [p]).map D.int=E at *;generalize Wt p=F at *;simp[e1,e2,e3]
def R7 (t:S3):List Int:=t.1::(if 1<t.2.2 then [t.1+t.2.1*(t.2.2-1)] else [])
theorem qjf {o0:Option DL.L} {b s c:Int} {acc:List Int} (m:J9 s (c-1)) (hl:acc.length≤90000):bdE (Qg 2) Xx (tr b s c) [o0,some (.m (.lst (acc.map .int))),none]=.ok .nx [o0,some (.m (.lst ((acc++R7 (b,s,c)).map .int))),none]:=by
 have h1:(acc.map D.int).length≤100000:=by rw[List.length_map];omega
 have h2:(acc.map D.int++[D.int b]).length≤100000:=by simp;omega
 have e:(acc++R7 (b,s,c)).map D.int=acc.map D.int++(R7 (b,s,c)).map D.int:=List.map_append ..;rw[e];generalize acc.map D.int=A at *;have h3:A.length<100000∨True:=.inr trivial;unfold R7;simp at h2;by_cases hc:1<c
 ·simp[Xx,h1,h2,hc,m]
 ·simp[Xx,h1,hc]
theorem qcc {S:Nat} (hS:S≤10 ^ 61) {o0:Option DL.L}:∀{r:List S3} {acc:List Int},Zx S r→acc.length+2*r.length≤90000→Zy (Qg 2) Xx (rD r) [o0,some (.m (.lst (acc.map .int))),none]=.ok .nx [o0,some (.m (.lst ((acc++r.flatMap R7).map .int))),none]
 | [],acc,_,_=>by simp
 | t::r,acc,ok,hl=>by
  simp only[List.length_cons]at hl;have hm:(R7 (t.1,t.2.1,t.2.2)).length≤2:=by unfold R7;split<;>simp
  rw[rD,List.map_cons,Qs (qjf (ok.hd.mc hS) (by omega)),qcc hS ok.tl (by rw[List.length_append];omega),List.flatMap_cons,List.append_assoc]
theorem qcd {S:Nat} (hS:S≤10 ^ 61) {r:List S3} (ok:Zx S r) (hl:r.length≤40000):X8 [.d (.lst (rD r))]=.ok (.m (.lst ((r.flatMap R7).map D.int))) [.d (.lst (rD r))]:=by
 have e:=qcc hS (o0:=some (.d (.lst (rD r)))) ok (acc:=[]) (by simp;omega);rw[List.nil_append]at e;unfold X8 K8;generalize (r.flatMap R7).map D.int=Z at *;simp at e;simp[e]
theorem Bk {S:Nat}:∀{r:List S3} {t:S3},Zx S r→t∈r→∀i:Int,0≤i→i<t.2.2→t.1+t.2.1*i∈Xk r
 | [],t,_,h,_,_,_=>by cases h
 | u::r,t,ok,h,i,h0,h1=>by
  show _∈mem u.1 u.2.1 u.2.2.toNat++Xk r;rw[List.mem_append];rcases List.mem_cons.mp h with rfl | h
  ·left;unfold mem;rw[List.mem_map];exact⟨i.toNat,List.mem_range.mpr (by omega),by rw[Int.toNat_of_nonneg h0]⟩
  ·exact .inr (Bk ok.tl h i h0 h1)
theorem qhc {M L:Nat} {p:Ps} (f:Fine M p) (hL0:1≤L) (hL:L≤10 ^ 58):∀x∈ends L [p],0≤x∧x<(L:Int):=fun x hx0=>by
 have hx:=(Hx _).subset hx0;clear hx0;rw[vp,Ap,List.mem_singleton]at hx;rcases hx with (rfl | rfl) | ⟨q,hq,t,ht,hx⟩
 ·omega
 ·omega
 ·rw[List.mem_singleton]at hq;subst hq;have ok:=f.rows hL;have hw:=f.rword hL;have c1:=(ok t ht).c1;have m:∀i:Int,0≤i→i<t.2.2→0≤t.1+t.2.1*i∧t.1+t.2.1*i<(L:Int):=fun i h0 h1=>by
   have:=Bk ok ht i h0 h1;rw[hw]at this;exact qmy f _ this
  rcases hx with rfl | rfl
  ·have:=m 0 (by omega) (by omega);rw[Int.mul_zero,Int.add_zero]at this;exact this
  ·exact m _ (by omega) (by omega)
theorem qey {L:Nat} {fs:List Ps}:(ends L fs).Pairwise (· < ·):=by
 have h1:=Iv (endF L fs (D9 [0] ((L:Int)-1)));have h2:(ends L fs).Nodup:=(Hx _).nodup_iff.mpr (qcY (xq (by simp)));exact (List.pairwise_and_iff.mpr ⟨h1,h2⟩).imp fun⟨a,b⟩=>by omega
theorem F9 {h:Nat} {g a:Int} (ha:a∈bas h g):1≤a∧a≤h∧a≤g:=by
 unfold bas at ha;obtain⟨i,hi,rfl⟩:=List.mem_map.mp ha;have:=List.mem_range.mp hi;omega
theorem qhx {h:Nat} {g:Int}:(bas h g).Pairwise (· < ·):=by
 unfold bas;rw[List.pairwise_map];exact List.pairwise_lt_range.imp fun h=>by omega
theorem qkc {h:Nat} (h0:1≤h) {g:Int} (g0:0≤g):0≤g.fdiv h∧(h:Int)*g.fdiv h≤g:=by
 have e:=Int.mul_fdiv_add_fmod g (h:Int);have m:=Int.fmod_nonneg_of_pos g (show (0:Int)<h by omega);refine⟨Int.fdiv_nonneg g0 (by omega),by omega⟩
theorem zy {h:Nat} (h0:1≤h):∀{es:List Int},es.Pairwise (· < ·)→(∀e∈es,0≤e∧e≤10 ^ 58)→Zx h (Yo h es)
 | [],_,_=>fun x hx=>by cases hx
 | [e],_,hb=>fun x hx=>by
  rw[Yo,List.mem_singleton]at hx;subst hx;have:=hb e List.mem_cons_self;exact⟨by show (h:Int)≠0;omega,by show (1:Int)≤1;omega,this.1,by show 0≤e+(h:Int)*(1-1);simp;exact this.1,by show (1:Int)≤_;omega,by show (h:Int).natAbs≤h;omega,by show e≤_;omega,by show e+(h:Int)*(1-1)≤_;simp;omega⟩
 | e::f::es,ha,hb=>fun x hx=>by
  have he:=hb e List.mem_cons_self;have hf:=hb f (List.mem_cons_of_mem _ List.mem_cons_self);rw[Yo,List.mem_cons,List.mem_append]at hx;rcases hx with rfl | hx | hx
  ·exact⟨by show (h:Int)≠0;omega,by show (1:Int)≤1;omega,he.1,by show 0≤e+(h:Int)*(1-1);simp;exact he.1,by show (1:Int)≤_;omega,by show (h:Int).natAbs≤h;omega,by show e≤_;omega,by show e+(h:Int)*(1-1)≤_;simp;omega⟩
  ·obtain⟨a,ha,rfl⟩:=List.mem_map.mp hx;obtain⟨a1,a2,a3⟩:=F9 ha;obtain⟨d1,d2⟩:=qkc h0 (show 0≤f-e-1-a by omega);have e3:(f-e-1-a).fdiv h≤f-e-1-a:=by
    have:1*(f-e-1-a).fdiv h≤(h:Int)*(f-e-1-a).fdiv h:=Int.mul_le_mul_of_nonneg_right (by omega) d1;omega
   refine⟨by show (h:Int)≠0;omega,by show (1:Int)≤_+1;omega,by show 0≤e+a;omega,?_,by show (f-e-1-a).fdiv h+1≤_;omega,by show (h:Int).natAbs≤h;omega,by show e+a≤_;omega,?_⟩
   ·show 0≤e+a+(h:Int)*((f-e-1-a).fdiv h+1-1);rw[Int.add_sub_cancel];have:=Int.mul_nonneg (show (0:Int)≤h by omega) d1;omega
   ·show e+a+(h:Int)*((f-e-1-a).fdiv h+1-1)≤_;rw[Int.add_sub_cancel];omega
  ·exact zy h0 (List.Pairwise.of_cons ha) (fun z hz=>hb z (List.mem_cons_of_mem _ hz)) x hx
theorem Fh {h:Nat} (h0:1≤h) {e g a x:Int} (a1:a≤g) (hx:x∈R7 (e+a,(h:Int),(g-a).fdiv h+1)):∃i:Int,x=e+a+h*i∧e+a≤x∧x≤e+g:=by
 obtain⟨d1,d2⟩:=qkc h0 (show 0≤g-a by omega);have d3:=Int.mul_nonneg (show (0:Int)≤h by omega) d1;unfold R7 at hx;rcases List.mem_cons.mp hx with rfl | hx
 ·exact⟨0,by show e+a=_;rw[Int.mul_zero,Int.add_zero],Int.le_refl _,by show e+a≤_;omega⟩
 ·split at hx
  ·rw[List.mem_singleton]at hx;have hx:x=e+a+(h:Int)*((g-a).fdiv h+1-1):=hx;rw[Int.add_sub_cancel]at hx;exact⟨_,hx,by omega,by omega⟩
  ·cases hx
theorem xo {h:Nat} (h0:1≤h) {b c:Int}:(R7 (b,(h:Int),c)).Nodup:=by
 unfold R7;split
 ·rename_i hc;have hc:1<c:=hc;have:0<(h:Int)*(c-1):=Int.mul_pos (by omega) (by omega);show ([b,b+(h:Int)*(c-1)]:List Int).Nodup;simp;omega
 ·simp
theorem qfx {h:Nat} (h0:1≤h) {e f:Int}:∀{as:List Int},as.Pairwise (· < ·)→(∀a∈as,1≤a∧a≤h∧a≤f-e-1)→((btw h e f as).flatMap R7).Nodup
 | [],_,_=>by simp[btw]
 | a::as,hp,ha=>by
  rw[btw,List.map_cons,List.flatMap_cons,List.nodup_append];refine⟨xo h0,qfx h0 (List.Pairwise.of_cons hp) (fun z hz=>ha z (List.mem_cons_of_mem _ hz)),fun x hx y hy=>?_⟩;rintro rfl;obtain⟨a1,a2,a3⟩:=ha a List.mem_cons_self;obtain⟨i,hi,_,_⟩:=Fh h0 a3 hx;obtain⟨t,ht,hy⟩:=List.mem_flatMap.mp hy;obtain⟨a',ha',rfl⟩:=List.mem_map.mp ht;obtain⟨b1,b2,b3⟩:=ha a' (List.mem_cons_of_mem _ ha');obtain⟨j,hj,_,_⟩:=Fh h0 b3 hy;have lt:a<a':=List.rel_of_pairwise_cons hp ha';have e1:a'-a=(h:Int)*(i-j):=by rw[Int.mul_sub];omega
  have e2:0<i-j:=by
   refine Int.lt_of_not_ge fun hn=>?_;have:=Int.mul_nonneg (show (0:Int)≤h by omega) (show 0≤-(i-j) by omega);rw[Int.mul_neg]at this;omega
  have e3:(h:Int)*1≤(h:Int)*(i-j):=Int.mul_le_mul_of_nonneg_left (by omega) (by omega);omega
theorem qaq {h:Nat} (h0:1≤h):∀{es:List Int} {e:Int},(e::es).Pairwise (· < ·)→∀x∈(Yo h (e::es)).flatMap R7,e≤x
 | [],e,_=>fun x hx=>by
  rw[Yo]at hx;have:x=e:=by simpa [R7] using hx
  omega
 | f::es,e,hp=>fun x hx=>by
  have lt:e<f:=List.rel_of_pairwise_cons hp List.mem_cons_self;rw[Yo,List.flatMap_cons,List.flatMap_append,List.mem_append,List.mem_append]at hx;rcases hx with hx | hx | hx
  ·have:x=e:=by simpa [R7] using hx
   omega
  ·obtain⟨t,ht,hx⟩:=List.mem_flatMap.mp hx;obtain⟨a,ha,rfl⟩:=List.mem_map.mp ht;obtain⟨a1,a2,a3⟩:=F9 ha;obtain⟨i,_,h1,_⟩:=Fh h0 a3 hx;omega
  ·have:=qaq h0 (List.Pairwise.of_cons hp) x hx;omega
theorem qap {h:Nat} (h0:1≤h):∀{es:List Int},es.Pairwise (· < ·)→((Yo h es).flatMap R7).Nodup
 | [],_=>by simp[Yo]
 | [e],_=>by
  rw[Yo,List.flatMap_cons,List.flatMap_nil,List.append_nil];exact xo h0
 | e::f::es,hp=>by
  have lt:e<f:=List.rel_of_pairwise_cons hp List.mem_cons_self;have hi:∀x∈(btw h e f (bas h (f-e-1))).flatMap R7,e<x∧x<f:=fun x hx=>by
   obtain⟨t,ht,hx⟩:=List.mem_flatMap.mp hx;obtain⟨a,ha,rfl⟩:=List.mem_map.mp ht;obtain⟨a1,a2,a3⟩:=F9 ha;obtain⟨i,_,h1,h2⟩:=Fh h0 a3 hx;omega
  have lo:=qaq h0 (List.Pairwise.of_cons hp);rw[Yo,List.flatMap_cons,List.flatMap_append,List.nodup_append,List.nodup_append];refine⟨xo h0,⟨qfx h0 qhx fun a ha=>F9 ha,qap h0 (List.Pairwise.of_cons hp),fun x hx y hy=>?_⟩,fun x hx y hy=>?_⟩
  ·have:=hi x hx;have:=lo y hy;omega
  ·have hx:x=e:=by simpa [R7] using hx
   rcases List.mem_append.mp hy with hy | hy
   ·have:=hi y hy;omega
   ·have:=lo y hy;omega
theorem qar {h:Nat} (h0:1≤h) {L:Int}:∀{es:List Int},es.Pairwise (· < ·)→(∀e∈es,0≤e∧e<L)→∀x∈(Yo h es).flatMap R7,0≤x∧x<L
 | [],_,_=>fun x hx=>by simp[Yo]at hx
 | [e],_,hb=>fun x hx=>by
  have hx:x=e:=by simpa [Yo,R7] using hx
  rw[hx];exact hb e List.mem_cons_self
 | e::f::es,hp,hb=>fun x hx=>by
  have he:=hb e List.mem_cons_self;have hf:=hb f (List.mem_cons_of_mem _ List.mem_cons_self);rw[Yo,List.flatMap_cons,List.flatMap_append,List.mem_append,List.mem_append]at hx;rcases hx with hx | hx | hx
  ·have:x=e:=by simpa [R7] using hx
   omega
  ·obtain⟨t,ht,hx⟩:=List.mem_flatMap.mp hx;obtain⟨a,ha,rfl⟩:=List.mem_map.mp ht;obtain⟨a1,a2,a3⟩:=F9 ha;obtain⟨i,_,h1,h2⟩:=Fh h0 a3 hx;omega
  ·exact qar h0 (List.Pairwise.of_cons hp) (fun z hz=>hb z (List.mem_cons_of_mem _ hz)) x hx
def E2 (x:S3):List Int:=[x.1,x.2.1,x.2.2]
def unT:List Int→S3
 | [b,n,s]=>(b,n,s)
 | _=>(0,0,0)
theorem qh8 {x:S3}:unT (E2 x)=x:=rfl
theorem qiq (ts:List S3):∃Q:List S3,Q.Perm ts∧Q.Pairwise (fun a b=>a.1<b.1∨a.1=b.1∧a.2.1≤b.2.1)∧Bm [.lst (rD ts)]=some (rD Q):=by
 have e1:rD ts=(ts.map E2).map tupQ:=by rw[List.map_map];rfl
 have hp:=Bl (ts.map E2);have hs:=Iu (ts.map E2);have eq:((qbx (ts.map E2)).map unT).map E2=qbx (ts.map E2):=by
  rw[List.map_map];conv=>rhs;rw[← List.map_id (qbx (ts.map E2))]
  refine List.map_congr_left fun y hy=>?_;obtain⟨z,_,rfl⟩:=List.mem_map.mp (hp.subset hy);show E2 (unT (E2 z))=E2 z;rw[qh8]
 refine⟨(qbx (ts.map E2)).map unT,?_,?_,?_⟩
 ·have:=hp.map unT;rw[List.map_map]at this;rw[show unT∘E2=id from funext fun y=>qh8,List.map_id]at this;exact this
 ·rw[← eq,List.pairwise_map]at hs;refine hs.imp fun {a b} h=>?_;have lx:D8 (E2 b) (E2 a)=if b.1=a.1 then (if b.2.1=a.2.1 then (if b.2.2=a.2.2 then false else decide (b.2.2<a.2.2)) else decide (b.2.1<a.2.1)) else decide (b.1<a.1):=rfl
  have h:D8 (E2 b) (E2 a)=false:=h;rw[lx]at h;split at h
  ·split at h
   ·omega
   ·have:=of_decide_eq_false h;omega
  ·have:=of_decide_eq_false h;omega
 ·rw[e1,qaD (fun k hk=>by obtain⟨z,_,rfl⟩:=List.mem_map.mp hk;rfl)];conv=>lhs;rw[← eq]
  rw[List.map_map];rfl
theorem asc_go {o0 o2:Option DL.L} {Z:List Int} (hZ:Z.Pairwise (· < ·)):∀(n k:Nat),1≤k→k+n≤Z.length→Zy (Qg 3) Vk ((List.range' k n).map fun (i:Nat)=>D.int (i:Int)) [o0,some (.d (.lst (Z.map .int))),o2,none]=.ok .nx [o0,some (.d (.lst (Z.map .int))),o2,none]
 | 0,k,_,_=>rfl
 | n+1,k,h1,h2=>by
  have i1:k-1<Z.length:=by omega
  have i2:k<Z.length:=by omega
  have a1:L2.atI (Z.map D.int) ((k:Int)-1)=some (.int Z[k-1]):=by
   rw[show (k:Int)-1=((k-1:Nat):Int) by omega];exact qdl (by rw[List.getElem?_map,List.getElem?_eq_getElem i1];rfl)
  have a2:L2.atI (Z.map D.int) (k:Int)=some (.int Z[k]):=qdl (by rw[List.getElem?_map,List.getElem?_eq_getElem i2];rfl);have lt:Z[k-1]<Z[k]:=List.pairwise_iff_getElem.mp hZ (k-1) k i1 i2 (by omega);have nl:¬Z[k]≤Z[k-1]:=by omega
  have e:bdE (Qg 3) Vk (.int k) [o0,some (.d (.lst (Z.map .int))),o2,none]=.ok .nx [o0,some (.d (.lst (Z.map .int))),o2,none]:=by
   generalize Z[k-1]=x at *;generalize Z[k]=y at *;generalize Z.map D.int=ZZ at *;simp[Vk,a1,a2,nl]
  rw[List.range'_succ,List.map_cons,Qs e];exact asc_go hZ n (k+1) (by omega) (by omega)
theorem qtg {n:Nat}:Z4 1 n=(List.range' 1 n).map fun (i:Nat)=>D.int (i:Int):=by
 unfold Z4;rw[List.range'_eq_map_range,List.map_map];refine List.map_congr_left fun i _=>?_;show D.int (1+(i:Int))=D.int ((1+i:Nat):Int);congr 1
theorem jf {ts:List S3} (hl:ts.length≤5000) (h:∀Q:List S3,Q.Perm ts→Q.Pairwise (fun a b=>a.1<b.1∨a.1=b.1∧a.2.1≤b.2.1)→Q.Pairwise fun a b=>a.2.2<b.2.2):Jm [.r (.lst (rD ts))]=.ok (.d (.bl true)) [.r (.lst (rD ts))]:=by
 obtain⟨Q,q1,q2,q3⟩:=qiq ts;have hQ:=h Q q1 q2;have ql:Q.length=ts.length:=q1.length_eq;have hm:(rD Q).length≤mx:=by rw[List.length_map,ql];exact Nat.le_trans hl (by decide)
 have em:Ge (eF (fCB Bm (Qf (Qi 0) Qx))) [some (.r (.lst (rD ts))),none,none,none]=.ok (rD Q) [some (.r (.lst (rD ts))),none,none,none]:=by
  generalize rD Q=R at *;simp[q3,hm]
 have lc:fLc (Ge (eF (fCB Bm (Qf (Qi 0) Qx)))) [2] (Qg 2) qt (eOp ixD (Qi 2) (eC (.int 2))) [some (.r (.lst (rD ts))),none,none,none]=.ok (.lst (Q.map fun t=>D.int t.2.2)) [some (.r (.lst (rD ts))),none,none,none]:=
  qci (xs:=Q) (fun t=>tr t.1 t.2.1 t.2.2) (fun t=>D.int t.2.2) em (by simp) (by rw[ql];exact Nat.le_trans hl (by decide)) fun t _=>by simp
 have eZ:(Q.map fun t=>D.int t.2.2)=(Q.map fun t=>t.2.2).map .int:=by rw[List.map_map];rfl
 have hZ:(Q.map fun t=>t.2.2).Pairwise (· < ·):=List.pairwise_map.mpr hQ;have eg:=asc_go (o0:=some (.r (.lst (rD ts)))) (o2:=none) hZ ((Q.map fun t=>t.2.2).length-1) 1 (Nat.le_refl _);rw[← qtg]at eg;rw[eZ]at lc;have el:((Q.map fun t=>t.2.2).map D.int).length=(Q.map fun t=>t.2.2).length:=List.length_map ..;generalize (Q.map fun t=>t.2.2)=Z at *;unfold Jm K9;have en:((Z.length:Int)-1).toNat=Z.length-1:=by omega
 have hz1:Z.map D.int=[]∨1+(Z.length-1)≤Z.length:=by
  cases Z with
  | nil=>exact .inl rfl
  | cons a Z=>right;simp;omega
 rcases hz1 with h0 | h1
 ·rw[h0]at lc el;simp[lc]
 ·have eg:=eg h1;generalize Z.map D.int=ZZ at *;simp[lc,el,en,eg]
def L7:List S3→Nat→Int
 | _,0=>0
 | [],_=>0
 | t::r,i+1=>t.2.2+L7 r i
def plc (r:List S3) (x:Int) (i:Nat):Int:=(plO (at3 r i).1 (at3 r i).2.1 (at3 r i).2.2 x).getD 0
theorem vh {r:List S3}:L7 r 0=0:=by cases r<;>rfl
theorem qbP {x:Int}:∀{r:List S3} {a:Int},pls r x a=(hds r x).map fun i=>a+(L7 r i+plc r x i)
 | [],a=>rfl
 | t::r,a=>by
  rw[qad,pls,qbP (r:=r),List.map_append,List.map_map];congr 1
  ·have e:plc (t::r) x 0=(plO t.1 t.2.1 t.2.2 x).getD 0:=rfl;cases h:plO t.1 t.2.1 t.2.2 x with
   | none=>simp
   | some q=>simp[vh,e,h]
  ·refine List.map_congr_left fun i _=>?_;have e:plc (t::r) x (i+1)=plc r x i:=rfl;show a+t.2.2+(L7 r i+plc r x i)=a+(t.2.2+L7 r i+plc (t::r) x (i+1));rw[e];omega
theorem O3 {S:Nat} {r:List S3} (ok:Zx S r) {x:Int} {i:Nat} (h:i∈hds r x):i<r.length∧plO (at3 r i).1 (at3 r i).2.1 (at3 r i).2.2 x=some (plc r x i)∧x=(at3 r i).1+(at3 r i).2.1*plc r x i∧0≤plc r x i∧plc r x i<(at3 r i).2.2:=by
 rw[qfi,List.mem_filter,List.mem_range]at h;obtain⟨hi,hh⟩:=h;have e:plO (at3 r i).1 (at3 r i).2.1 (at3 r i).2.2 x=some (plc r x i):=by
  unfold hp at hh;unfold plc;obtain⟨v,hv⟩:=Option.isSome_iff_exists.mp hh;rw[hv];rfl
 exact⟨hi,e,(I8 (Ib ok hi).s0).mp e⟩
theorem Fb {S:Nat}:∀{r:List S3} {i j:Nat},Zx S r→i<j→j<r.length→L7 r i+(at3 r i).2.2≤L7 r j
 | [],i,j,_,_,h=>by cases h
 | t::r,i,0,_,h,_=>by cases h
 | t::r,0,j+1,ok,_,hj=>by
  rw[vh];show 0+t.2.2≤t.2.2+L7 r j;have:0≤L7 r j:=by
   have hj:j<r.length:=by simpa using hj
   cases j with
   | zero=>rw[vh];omega
   | succ j=>
    have h1:=Fb (i:=0) (j:=j+1) ok.tl (by omega) hj;have h2:=(Ib ok.tl (show 0<r.length by omega)).c1;rw[vh]at h1;omega
  omega
 | t::r,i+1,j+1,ok,h,hj=>by
  have h1:=Fb (i:=i) (j:=j) ok.tl (by omega) (by simpa using hj);have e:at3 (t::r) (i+1)=at3 r i:=by simp[at3]
  rw[e];show t.2.2+L7 r i+(at3 r i).2.2≤t.2.2+L7 r j;omega
def tT (r:List S3) (x:Int) (i:Nat):S3:=((i:Int),plc r x i,L7 r i+plc r x i)
def qeq (r:List S3) (x:Int):Option S3:=(hds r x).head?.map (tT r x)
def qd7 (r:List S3) (x:Int):Option S3:=(hds r x).getLast?.map (tT r x)
structure Ent (r:List S3) (t:S3):Prop where
 i0:0≤t.1
 i1:t.1.toNat<r.length
 p0:0≤t.2.1
 p1:t.2.1<(at3 r t.1.toNat).2.2
 s:t.2.2=L7 r t.1.toNat+t.2.1
theorem qig {S:Nat} {r:List S3} (ok:Zx S r) {x:Int} {i:Nat} (h:i∈hds r x):Ent r (tT r x i):=by
 obtain⟨h1,h2,h3,h4,h5⟩:=O3 ok h;have e:(tT r x i).1.toNat=i:=by show ((i:Int)).toNat=i;omega
 exact⟨by show (0:Int)≤i;omega,by rw[e];exact h1,h4,by rw[e];exact h5,by rw[e];rfl⟩
theorem qkz {S:Nat} {r:List S3} (ok:Zx S r) {a b:S3} (ha:Ent r a) (hb:Ent r b) (hl:a.1<b.1∨a.1=b.1∧a.2.1≤b.2.1) (hn:¬(a.1=b.1∧a.2.1=b.2.1)):a.2.2<b.2.2:=by
 rw[ha.s,hb.s];rcases hl with h | ⟨h1,h2⟩
 ·have:=Fb ok (i:=a.1.toNat) (j:=b.1.toNat) (by have:=ha.i0;have:=hb.i0;omega) hb.i1;have:=ha.p1;have:=hb.p0;omega
 ·rw[h1];have:a.2.1≠b.2.1:=fun e=>hn ⟨h1,e⟩;omega
theorem qcW {S:Nat} {r:List S3} (ok:Zx S r) {g:Int→Option S3} (hg:∀x t,g x=some t→∃i∈hds r x,t=tT r x i) {zs:List Int} (hn:zs.Nodup) :
  ∀Q:List S3,Q.Perm (zs.filterMap g)→Q.Pairwise (fun a b=>a.1<b.1∨a.1=b.1∧a.2.1≤b.2.1)→Q.Pairwise fun a b=>a.2.2<b.2.2:=fun Q q1 q2=>by
 have hR:(zs.filterMap g).Pairwise fun a b=>¬(a.1=b.1∧a.2.1=b.2.1):=by
  rw[List.pairwise_filterMap];refine hn.imp fun {x y} hxy a ha b hb e=>hxy ?_;obtain⟨i,hi,rfl⟩:=hg x a ha;obtain⟨j,hj,rfl⟩:=hg y b hb;have h1:=O3 ok hi;have h2:=O3 ok hj;have e1:(i:Int)=(j:Int):=e.1;have e2:plc r x i=plc r y j:=e.2;have e3:i=j:=by omega
  subst e3;rw[h1.2.2.1,h2.2.2.1,e2]
 have hR2:Q.Pairwise fun a b=>¬(a.1=b.1∧a.2.1=b.2.1):=(q1.pairwise_iff (fun {a b} h e=>h ⟨e.1.symm,e.2.symm⟩)).mpr hR;have hE:∀t∈Q,Ent r t:=fun t ht=>by
  obtain⟨x,_,hx⟩:=List.mem_filterMap.mp (q1.subset ht);obtain⟨i,hi,rfl⟩:=hg x t hx;exact qig ok hi
 have:=List.pairwise_and_iff.mpr ⟨q2,hR2⟩;refine this.imp_of_mem fun {a b} ha hb h=>qkz ok (hE a ha) (hE b hb) h.1 h.2
theorem qg5 {r:List S3} {x:Int} {t:S3} (h:qeq r x=some t):∃i∈hds r x,t=tT r x i:=by
 obtain⟨i,hi,rfl⟩:=Option.map_eq_some_iff.mp h;exact⟨i,List.mem_of_mem_head? hi,rfl⟩
theorem qgI {r:List S3} {x:Int} {t:S3} (h:qd7 r x=some t):∃i∈hds r x,t=tT r x i:=by
 obtain⟨i,hi,rfl⟩:=Option.map_eq_some_iff.mp h;exact⟨i,List.mem_of_getLast? hi,rfl⟩
theorem Ic {o0:Option DL.L} {n:Nat}:∀{hs:List Nat},(∀h∈hs,h<n)→Zy (Qg 2) Xb (nD' hs) [o0,some (.d (.int n)),none]=.ok .nx [o0,some (.d (.int n)),none]
 | [],_=>rfl
 | h::hs,hh=>by
  have h1:=hh h List.mem_cons_self;have e0:=qel (h:Int);have n1:¬(h:Int)<0:=by omega
  have n2:¬(n:Int)≤(h:Int):=by omega
  have n3:¬n≤h:=by omega
  have e:bdE (Qg 2) Xb (.int h) [o0,some (.d (.int n)),none]=.ok .nx [o0,some (.d (.int n)),none]:=by
   simp[Xb,e0,n1,n2,n3]
  rw[nD',List.map_cons,Qs e];exact Ic fun z hz=>hh z (List.mem_cons_of_mem _ hz)
theorem qdn {n:Nat} {hs:List Nat} (hh:∀h∈hs,h<n):Je [.d (.lst (nD' hs)),.d (.int n)]=.ok (.d (.bl true)) [.d (.lst (nD' hs)),.d (.int n)]:=by
 have e:=Ic (o0:=some (.d (.lst (nD' hs)))) hh;unfold Je Yf;generalize nD' hs=X at *;simp[e]
theorem atI_last {ns:List Nat} {l:Nat} (h:ns.getLast?=some l):L2.atI (nD' ns) (-1)=some (.int l):=by
 have e:ns=ns.dropLast++[l]:=by
  obtain⟨ys,rfl⟩:=List.getLast?_eq_some_iff.mp h;simp
 rw[e,nD',List.map_append];exact Mw
theorem qax {ns:List Nat} {l:Nat} (h:ns.head?=some l):L2.atI (nD' ns) 0=some (.int l):=by
 cases ns with
 | nil=>cases h
 | cons a ns=>cases h;exact L2.atI_nat (xs:=nD' (l::ns)) (j:=0) rfl
abbrev qaR (p:Ps) (L:Nat) (r:List S3) (I:Option DL.L) (A B:List S3):DL.Env:=[some (.d (.lst p.flat)),some (.d (.int L)),some (.d (V5 r)),I,some (.m (.lst (rD A))),some (.m (.lst (rD B))),none,none,none,none,none]
theorem qiU {M L z:Nat} {p:Ps} (f:Fine M p) (hL:L≤10 ^ 58) (hz:z<L) {I:Option DL.L} {A B:List S3} (hA:A.length≤4000) (hB:B.length≤4000) :
  bdE (Qg 6) Xw (.int z) (qaR p L (Qu p (Qn L)) I A B)=.ok .nx (qaR p L (Qu p (Qn L)) I (A++(qeq (Qu p (Qn L)) z).toList) (B++(qd7 (Qu p (Qn L)) z).toList)):=by
 have ok:=f.rows hL;have hS:1*9 ^ p.np≤10 ^ 61:=Nat.le_trans f.pw (by decide);have hlen:=f.rlen (n:=L);have eh:=qcB ok hS (by omega) (z:Int);have es:=qf2 f hz;have hp:=qbP (x:=(z:Int)) (r:=Qu p (Qn L)) (a:=0);rw[f.pls hL]at hp;have hh:∀h∈hds (Qu p (Qn L)) z,h<(Qu p (Qn L)).length:=fun h hh=>(O3 ok hh).1;have ea:=qdn hh;have hle:=qjZ (r:=Qu p (Qn L)) (x:=(z:Int));have el:((Qu p (Qn L)).map fun x=>tr x.1 x.2.1 x.2.2).length=(Qu p (Qn L)).length:=List.length_map ..;have eH:(nD' (hds (Qu p (Qn L)) z)).length=(hds (Qu p (Qn L)) z).length:=List.length_map ..;have eP:(nD' (pos z (wd p L))).length=(hds (Qu p (Qn L)) z).length:=by rw[List.length_map,f.hlen hL]
 have ez:wP p (mem 0 1 L)=wd p L:=rfl;rw[ez]at es;have hz1:(rD A).length≤100000:=by rw[List.length_map];omega
 have hz2:(rD B).length≤100000:=by rw[List.length_map];omega
 unfold qeq qd7 qaR;cases hc:hds (Qu p (Qn L)) z with
 | nil=>
  rw[hc]at eh ea eH eP hp;have e0:nD' []=[]:=rfl;have hp0:pos z (wd p L)=[]:=by
   rw[List.map_nil]at hp;exact List.map_eq_nil_iff.mp hp
  rw[hp0]at es eP;rw[e0]at eh ea;simp only[List.head?_nil,List.getLast?_nil,Option.map_none,Option.toList_none,List.append_nil];unfold spD at es;rw[e0]at es;unfold V5 at *;generalize (Qu p (Qn L)).map (fun x=>tr x.1 x.2.1 x.2.2)=R at *;generalize p.flat=C at *;generalize rD A=AA at *;generalize rD B=BB at *;rw[← el]at ea;simp[Xw,eh,es,ea]
 | cons i hs=>
  obtain⟨j,hj⟩:∃j,(hds (Qu p (Qn L)) z).getLast?=some j:=by rw[hc];exact⟨_,List.getLast?_eq_some_getLast (by simp)⟩
  have hi:(hds (Qu p (Qn L)) z).head?=some i:=by rw[hc];rfl
  have m1:i∈hds (Qu p (Qn L)) z:=List.mem_of_mem_head? hi;have m2:j∈hds (Qu p (Qn L)) z:=List.mem_of_getLast? hj;have a1:=O3 ok m1;have a2:=O3 ok m2;have p1:=I7 (at3 (Qu p (Qn L)) i).1 (at3 (Qu p (Qn L)) i).2.1 (at3 (Qu p (Qn L)) i).2.2 z ((Ib ok a1.1).div hS);have p2:=I7 (at3 (Qu p (Qn L)) j).1 (at3 (Qu p (Qn L)) j).2.1 (at3 (Qu p (Qn L)) j).2.2 z ((Ib ok a2.1).div hS);rw[vc,a1.2.1]at p1;rw[vc,a2.2.1]at p2;unfold odD at p1 p2;have x1:=qfA a1.1;have x2:=qfA a2.1;have n1:=qel (plc (Qu p (Qn L)) z i);have n2:=qel (plc (Qu p (Qn L)) z j);have h1:=qax hi;have h2:=atI_last hj;have s1:L2.atI (nD' (pos z (wd p L))) 0=some (.int (L7 (Qu p (Qn L)) i+plc (Qu p (Qn L)) z i)):=by
   have:=congrArg List.head? hp;rw[List.head?_map,List.head?_map,hi]at this;cases hq:(pos z (wd p L)).head? with
   | none=>rw[hq]at this;cases this
   | some q=>
    rw[hq]at this;have:(q:Int)=0+(L7 (Qu p (Qn L)) i+plc (Qu p (Qn L)) z i):=Option.some.inj this;rw[qax hq];congr 2;omega
  have s2:L2.atI (nD' (pos z (wd p L))) (-1)=some (.int (L7 (Qu p (Qn L)) j+plc (Qu p (Qn L)) z j)):=by
   have:=congrArg List.getLast? hp;rw[List.getLast?_map,List.getLast?_map,hj]at this;cases hq:(pos z (wd p L)).getLast? with
   | none=>rw[hq]at this;cases this
   | some q=>
    rw[hq]at this;have:(q:Int)=0+(L7 (Qu p (Qn L)) j+plc (Qu p (Qn L)) z j):=Option.some.inj this;rw[atI_last hq];congr 2;omega
  have lp:0<(hds (Qu p (Qn L)) z).length:=by rw[hc];simp
  have r1:rD (A++(((i::hs).head?).map (tT (Qu p (Qn L)) z)).toList)=rD A++[.tup [.int i,.int (plc (Qu p (Qn L)) z i),.int (L7 (Qu p (Qn L)) i+plc (Qu p (Qn L)) z i)]]:=by rw[E6];rfl
  have r2:rD (B++(((i::hs).getLast?).map (tT (Qu p (Qn L)) z)).toList)=rD B++[.tup [.int j,.int (plc (Qu p (Qn L)) z j),.int (L7 (Qu p (Qn L)) j+plc (Qu p (Qn L)) z j)]]:=by rw[E6,← hc,hj];rfl
  rw[r1,r2];unfold spD at es;generalize L7 (Qu p (Qn L)) i+plc (Qu p (Qn L)) z i=S1 at *;generalize L7 (Qu p (Qn L)) j+plc (Qu p (Qn L)) z j=S2 at *;generalize plc (Qu p (Qn L)) z i=P1 at *;generalize plc (Qu p (Qn L)) z j=P2 at *;generalize nD' (hds (Qu p (Qn L)) z)=HH at *;generalize nD' (pos z (wd p L))=PP at *;generalize (hds (Qu p (Qn L)) z).length=hl at *;generalize at3 (Qu p (Qn L)) i=T1 at *;generalize at3 (Qu p (Qn L)) j=T2 at *;unfold V5 at *;rw[← el]at ea;generalize (Qu p (Qn L)).map (fun x=>tr x.1 x.2.1 x.2.2)=R at *;generalize p.flat=C at *;generalize rD A=AA at *;generalize rD B=BB at *;simp[Xw,eh,es,ea,eH,eP,lp,h1,h2,x1,x2,p1,p2,n1,n2,s1,s2,hz1,hz2]
theorem qe0 {M L:Nat} {p:Ps} (f:Fine M p) (hL:L≤10 ^ 58) {I:Option DL.L}:∀{zs:List Int} {A B:List S3},(∀z∈zs,0≤z∧z<(L:Int))→A.length+zs.length≤4000→B.length+zs.length≤4000→
  Zy (Qg 6) Xw (zs.map .int) (qaR p L (Qu p (Qn L)) I A B)=.ok .nx (qaR p L (Qu p (Qn L)) I (A++zs.filterMap (qeq (Qu p (Qn L)))) (B++zs.filterMap (qd7 (Qu p (Qn L)))))
 | [],A,B,_,_,_=>by simp
 | z::zs,A,B,hz,hA,hB=>by
  obtain⟨h0,h1⟩:=hz z List.mem_cons_self;obtain⟨n,rfl⟩:∃n:Nat,z=(n:Int):=⟨z.toNat,by omega⟩;simp only[List.length_cons]at hA hB;have t1:∀o:Option S3,o.toList.length≤1:=fun o=>by cases o<;>simp
  have a1:=t1 (qeq (Qu p (Qn L)) n);have b1:=t1 (qd7 (Qu p (Qn L)) n);rw[List.map_cons,Qs (qiU f hL (by omega) (by omega) (by omega)),qe0 f hL (fun x hx=>hz x (List.mem_cons_of_mem _ hx)) (by rw[List.length_append];omega) (by rw[List.length_append];omega),List.append_assoc,List.append_assoc,List.filterMap_cons,List.filterMap_cons];cases qeq (Qu p (Qn L)) (n:Int)<;>cases qd7 (Qu p (Qn L)) (n:Int)<;>rfl
theorem qc {M L:Nat} {p:Ps} (f:Fine M p) (hL:L≤10 ^ 58) {zs:List Int} (hz:∀z∈zs,0≤z∧z<(L:Int)) (hn:zs.Nodup) (hl:zs.length≤4000) :
  Jl [.d (.lst p.flat),.d (.int L),.d (V5 (Qu p (Qn L))),.d (.lst (zs.map .int))]=.ok (.d (.bl true)) [.d (.lst p.flat),.d (.int L),.d (V5 (Qu p (Qn L))),.d (.lst (zs.map .int))]:=by
 have ok:=f.rows hL;have e:=qe0 f hL (I:=some (.d (.lst (zs.map .int)))) (A:=[]) (B:=[]) hz (by simp;omega) (by simp;omega);have l1:=List.length_filterMap_le (qeq (Qu p (Qn L))) zs;have l2:=List.length_filterMap_le (qd7 (Qu p (Qn L))) zs;have a1:=jf (ts:=zs.filterMap (qeq (Qu p (Qn L)))) (by omega) (qcW ok (fun x t h=>qg5 h) hn);have a2:=jf (ts:=zs.filterMap (qd7 (Qu p (Qn L)))) (by omega) (qcW ok (fun x t h=>qgI h) hn);rw[List.nil_append,List.nil_append]at e;unfold qaR at e;have e0:rD []=[]:=rfl;rw[e0]at e;unfold Jl K6;generalize zs.filterMap (qeq (Qu p (Qn L)))=Z1 at *;generalize zs.filterMap (qd7 (Qu p (Qn L)))=Z2 at *;generalize rD Z1=R1 at *;generalize rD Z2=R2 at *;generalize V5 (Qu p (Qn L))=R at *;generalize p.flat=C at *;generalize zs.map D.int=ZZ at *;simp[e,a1,a2]
theorem Bh {M W W':Nat} (hW:W≤W'):∀{p:Ps},p.wf M W→p.wf M W'
 | .nil,_=>trivial
 | .sm s t,h=>⟨by
   have:=h.1;cases s<;>simp[Sm.ok]at this ⊢<;>omega,Bh hW h.2⟩
 | .both l r t,h=>⟨Bh hW h.1,Bh hW h.2.1,Bh hW h.2.2⟩
theorem qeM {M W B T lim L:Nat} (hM:M≤1000) (hlim:lim≤50) {p:Ps} (n:Nar M W B T lim p) (f:Fine M p) (hL0:1≤L) (hL:L≤10 ^ 58) :
  Zx 50 (Pr p L)∧(Pr p L).length≤2000∧(∀z∈(Pr p L).flatMap R7,0≤z∧z<(L:Int))∧((Pr p L).flatMap R7).Nodup∧((Pr p L).flatMap R7).length≤4000:=by
 have o:=qo hM n.wf NO1;have hn:=n.h;have h0:=o.h1.1;have hi:=qhc f hL0 hL;have ha:=qey (L:=L) (fs:=[p]);have hl:=qak (L:=L) f;have hc:(Pr p L).length≤34*51:=Nat.le_trans O9 (Nat.mul_le_mul hl (by omega));refine⟨Zx.mono (zy h0 ha fun e he=>?_) (by omega),by omega,qar h0 ha hi,qap h0 ha,?_⟩
 ·have:=hi e he;have:(L:Int)≤((10 ^ 58:Nat):Int):=Int.ofNat_le.mpr hL;exact⟨by omega,Int.le_trans (by omega) this⟩
 ·have:∀r:List S3,(r.flatMap R7).length≤2*r.length:=fun r=>by
   induction r with
   | nil=>simp
   | cons t r ih=>
    have hm:(R7 t).length≤2:=by unfold R7;split<;>simp
    rw[List.flatMap_cons,List.length_append,List.length_cons];omega
  have:=this (Pr p L);omega
theorem math (ns:List Int) (hns:ns.length≤63):∃bs,qdN [.d (.ro (ns.map .int))]=.ok (.d (.bl true)) bs:=by
 obtain⟨s0,e0⟩:=qdG ns hns;obtain⟨t,s1,ht,e1⟩:=dr s0 6 (by decide);obtain⟨p,s2,h1,h2,h3,h4,e2⟩:=qkR s1 (1+t) 2 9 3 (by omega) (by omega) (by omega) (by decide);have hnp:p.np≤10:=by omega
 have hD:3 ^ p.np≤10 ^ 18:=Nat.le_trans (Nat.pow_le_pow_right (by decide) hnp) (by decide);have hY:1001*2 ^ p.np≤10 ^ 18:=Nat.le_trans (Nat.mul_le_mul_left _ (Nat.pow_le_pow_right (by decide) hnp)) (by decide);obtain⟨q,hq,e3⟩:=qd1 (lim:=12) (show 9≤1000 by decide) (show 3≤1000 by decide) (by decide) (by decide) h1 hD hY (by omega);have qb:q.nb≤2:=Nat.le_trans hq.nb h2;have qn:q.np≤10:=Nat.le_trans hq.np (by omega);have hdp:=qbb (p:=q);have hlv:lv q≤2 ^ 2:=Nat.le_trans qaZ (Nat.pow_le_pow_right (by decide) qb);have f:Fine 9 q:=⟨by decide,Bh (by decide) hq.wf,by omega,by omega,by omega⟩;have e4:=qgk q (by omega);have e5:=qha q f.dp f.np f.lv;obtain⟨m,s3,hm,e6⟩:=dr s2 31 (by decide);have qoH:m≤10 ^ 58:=Nat.le_trans (Nat.le_of_lt hm) (by decide);have e7:=f.strs qoH;have e8:=xw (f.rows qoH);have e9:=qc f qoH (zs:=(List.range m).map fun (i:Nat)=>(i:Int)) (fun z hz=>by
  obtain⟨i,hi,rfl⟩:=List.mem_map.mp hz;have:=List.mem_range.mp hi;omega) (by
  refine List.nodup_iff_pairwise_ne.mpr (List.pairwise_map.mpr (List.nodup_range.imp fun {a b} h=>by omega))) (by simp;omega)
 have er:((List.range m).map fun (i:Nat)=>(i:Int)).map D.int=Z4 0 m:=by
  rw[Bz,List.map_map];rfl
 rw[er]at e9;obtain⟨z0,s4,hz1,hz2,e10⟩:=qjh s3 18 (by decide);obtain⟨z,rfl⟩:∃k:Nat,z0=(k:Int):=⟨z0.toNat,by omega⟩;have hz:1+z≤10 ^ 58:=by
  have:(z:Int)<((1000 ^ 18:Nat):Int):=by exact_mod_cast hz2
  have:z<1000 ^ 18:=by exact_mod_cast this
  have:(1000:Nat) ^ 18≤10 ^ 57:=by decide
  have:(10:Nat) ^ 57+1≤10 ^ 58:=by decide
  omega
 have f1:=f.strs hz;have f2:=xw (f.rows hz);have kp:1*kP q≤10 ^ 18:=by
  rw[Nat.one_mul];exact Nat.le_trans (qa0 (by decide) hq.wf) (Nat.le_trans (Nat.pow_le_pow_right (by decide) qn) (by decide))
 have kY:1001*2 ^ q.np≤10 ^ 18:=Nat.le_trans (Nat.mul_le_mul_left _ (Nat.pow_le_pow_right (by decide) qn)) (by decide);have f3:=qhr (L:=1+z) (by decide) (by decide) (by decide) hq f (by omega) kp kY (by omega) hz;obtain⟨c1,c2,c3,c4,c5⟩:=qeM (L:=1+z) (by decide) (by decide) hq f (by omega) hz;have f4:=xw c1;have f5:=qcd (by decide) c1 (by omega);have f6:=qc f hz c3 c4 c5;have ez:((1+z:Nat):Int)=1+(z:Int):=by omega
 have et:((1+t:Nat):Int)=1+(t:Int):=by omega
 rw[ez]at f1 f3 f6;rw[et]at e2;have cl:(rD (Pr q (1+z))).length≤mx:=by rw[List.length_map];exact Nat.le_trans c2 (by decide)
 unfold V5 at *;unfold rD at *;generalize (Pr q (1+z)).map (fun x=>tr x.1 x.2.1 x.2.2)=CC at *;generalize ((Pr q (1+z)).flatMap R7).map D.int=ME at *;generalize (Qu q (Qn (1+z))).map (fun x=>tr x.1 x.2.1 x.2.2)=R2 at *;generalize (Qu q (Qn m)).map (fun x=>tr x.1 x.2.1 x.2.2)=R1 at *;generalize p.flat=C1 at *;generalize q.flat=C2 at *;have hmr:qbH 0 (m:Int):=by unfold qbH;omega
 refine⟨[.d (.ro (ns.map .int))],?_⟩;unfold qdN qeH;simp only[Int.cast_ofNat_Int]at e1 e2 e3 e6 e10;unfold Wt at *;rcases e3 with e3 | e3
 ·simp[e0,e1,e2,e3,e4,e5,e6,e7,e8,e9,e10,f1,f2,f3,f4,f5,f6,hmr,cl,Zr]
 ·simp[e0,e1,e2,e3,e4,e5,e6,e7,e8,e9,e10,f1,f2,f3,f4,f5,f6,hmr,cl,Zr]
end Law
set_option maxHeartbeats 0
open PySem PySem.W PySem.Calls PyProof.Rows
theorem PySem.Challenge.cw_unseenfolds_k20_orders_off_the_cells_holds : PySem.Challenge.rw_unseenfolds_k20_orders_off_the_cells.Holds := by
 w_on;o_law
 refine HandSHeadRun.head_imp (r:=OpenLaw.row PySem.Challenge.rw_unseenfolds_k20_orders_off_the_cells) (q:=view (OpenLaw.row PySem.Challenge.rw_unseenfolds_k20_orders_off_the_cells).prog [0,74]) (H:=Law.hk) (ob:=Law.ob) (M:=40000) (loose:=Law.loose) (d:=HandSHeadRun.topDef (OpenLaw.row PySem.Challenge.rw_unseenfolds_k20_orders_off_the_cells).prog 74) (kwd:=[]) Law.qnk
  Law.run (by kernel_rfl) (by kernel_rfl) (by kernel_rfl) (by rfl) (by first | assumption | decide +kernel) (by decide +kernel) ⟨rfl,rfl,rfl,rfl,rfl,by decide +kernel⟩ ?hw ?hc
 case hw=>w_witness2
 case hc=>exact DL.qdA (S:=DL.jg Law.fnL Law.msL Law.prL Law.ck) (l:=PySem.Challenge.rw_unseenfolds_k20_orders_off_the_cells) (n:=63) (k:=48) (sx:="_law_script") (nm:="law") rfl (by decide) (by kernel_rfl) ⟨rfl,by decide,by decide⟩ (by kernel_rfl) (fun w K mg h X G c=>Law.qk1 Law.math (w:=w) X G c)
