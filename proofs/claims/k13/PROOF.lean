import PyProof.Rows.All
import Wide.All
import OpenK.AllK
import Wide.FinOn
import HandS.Wide
import HandS.WideBits
import HandS.TupAny
import HandS.Iter
import HandS.Conv
import HandS.ForMost
import HandS.ForExc
import HandS.HeadHook2
import HandS.CallSlots
import HandS.Style
import HandS.IsInst
import HandS.Gcd
import KE.KMathGC
import HandS.ExcInit
import HandS.ExcField
import HandS.TryOnly
import KE.KExcSuper
import HandS.Ends
import HandS.Defaults
import HandS.HeadEnd
import HandS.HeadHook1
import HandS.Head2
import HandS.ExcIs
import HandS.Dict
import KE.GoesEnum
import PyProof.RulesMatch
import KE.KSuper
import HandS.ClsMeth
import HandS.NestedK
import HandS.SortInts
import HandS.SetFor
import HandS.Strs
import HandS.Deep
import PyProof.Walks
import HandS.Property
import KE.KOpsOwn
import HandS.TryMany
import HandS.GenList
import PyProof.AutoSeq1
import HandS.Flow
import HandS.SetKeys
import KE.DataFind
import KE.KIndexOf
import HandS.RevRange
import HandS.ExcOwn
import PyProof.ExcBaseAll.ValueError
import KE.DatumOrd
import HandS.Star
import HandS.MakeKw
import HandS.DictComp
import PyProof.Tail
import HandS.OwnIter
import PyProof.FactsAll.range
import HandS.TupLe
import KE.KDictZip
import KE.KDictItemsList
import HandS.Zip
import KE.KStateDown
import HandS.Head3
import PySem.Challenge.RW_unseenfolds_k13_straight_lines
set_option Elab.async false
set_option linter.all false
set_option maxRecDepth 100000
set_option maxHeartbeats 2000000
namespace DL
open PySem L2
abbrev cA (K:PySem.W.Frag) (nm:Str):Addr:=He.ga K nm
inductive D where
 | non | bl (b:Bool) | int (i:Int) | str (x:Str)
 | lst (ds:List D) | ro (ds:List D) | tup (ds:List D)
 | dct (kvs:List (Key×D))
 | ins (C:Str) (fs:List (Str×D))
 | dcT (kvs:List (List Int×D))
structure Exn where
 cls:Str
 fs:Option (List (Str×D))
structure XA where
 a:Addr
 c:Value
 d:Option Addr
 e:Exn
structure Kx where
 k:PySem.W.Frag
 xa:Option XA
instance:Coe Kx PySem.W.Frag:=⟨Kx.k⟩
inductive L where
 | d (x:D) | m (x:D) | r (x:D) | p (x:D) | xh | u (d x:D)
def L.own:L→Bool
 | .m _=>true
 | .r _=>true
 | .p _=>true
 | _=>false
def L.dat:L→Option D
 | .d x=>some x
 | .m x=>some x
 | .r x=>some x
 | .p x=>some x
 | .xh=>none
 | .u _ _=>none
abbrev Env:=List (Option L)
end DL
set_option maxHeartbeats 2000000
namespace DL
open PySem L2
inductive X where
 | d (x:D) | s (i:Nat)
inductive Res (α:Type) where
 | ok (a:α) (ρ:Env) | ex (e:Exn) (ρ:Env) | bad
abbrev EM:=Env→Res X
def look (ρ:Env):X→Option D
 | .d x=>some x
 | .s i=>match ρ[i]? with
  | some (some l)=>l.dat
  | _=>none
def fz (ρ:Env):X→Option (D×Env)
 | .d x=>some (x,ρ)
 | .s i=>match ρ[i]? with
  | some (some (.m x))=>some (x,ρ.set i (some (.d x)))
  | some (some (.d x))=>some (x,ρ)
  | _=>none
end DL
set_option maxHeartbeats 4000000
namespace DL
open PySem L2
variable {K:Kx} {W:WX}
section
variable {σ σ1:St} {G H G0 H0:Hp} {ρ ρ0:Env}
def L.put:L→D→L
 | .d _,x=>.d x
 | .m _,x=>.m x
 | .r _,x=>.r x
 | .p _,x=>.p x
 | .xh,_=>.xh
 | .u a y,_=>.u a y
end
end DL
namespace DL
open PySem PySem.Spec PyProof.Rows L2
inductive FRes where
 | ok (l:L) (as:List L) | ex (e:Exn) (as:List L) | bad
def slots:List X→List Nat
 | []=>[]
 | .d _::xs=>slots xs
 | .s i::xs=>i::slots xs
def putS (ρ:Env) (i:Nat) (y:D):Env:=match ρ[i]? with
 | some (some l)=>ρ.set i (some (l.put y))
 | _=>ρ
def Yp:Env→List X→List L→List L→Env
 | ρ,.s i::xs,.r _::as,.r y::bs=>Yp (putS ρ i y) xs as bs
 | ρ,_::xs,_::as,_::bs=>Yp ρ xs as bs
 | ρ,_,_,_=>ρ
variable {K:Kx} {W:WX}
variable {X:Cx}
def isNone:D→Bool
 | .non=>true
 | _=>false
variable {K:Kx} {W:WX}
end DL
set_option maxHeartbeats 2000000
namespace PySem
namespace ErrX
open PySem.W PySem.Calls PyProof.Rows PySem.HandSPX
def body (f msg:Str) (p0 p1 p2 p3 p4 p5 q1 q2 q3 q4:Pos):List Stmt:=
 [.Expr (.Call (.Attribute (.Call (.Name "super" p0) [] [] p1) "__init__" p2) [.Constant (.str msg) 0 p3] [] p4) p5,
  .Assign [.Attribute (.Name "self" q1) f q2] (.Name f q3) q4]
end ErrX
end PySem
namespace DL
open PySem PySem.Spec PyProof.Rows L2
abbrev FnC:Type:=Option (Str×Str×Arguments×FuncBody×Scope×Addr×List Str×Addr)
def fnC (K:PySem.W.Frag) (p:Str×Option Str):FnC:=match K.lookup (He.fAd K p) with
 | some ⟨_,_,.func fd,_⟩=>some (fd.name,fd.qualname,fd.params,fd.body,fd.scope,fd.globals,fd.closure.map (·.1),fd.builtins)
 | _=>none
structure FO where
 at_:Str×Option Str
 name:Str
 qual:Str
 params:Arguments
 body:List Stmt
 scope:Scope
def FO.val (d:FO):FnC:=some (d.name,d.qual,d.params,.stmts d.body,d.scope,mainGlobals,["__class__"],builtinsNs)
abbrev AlC:Type:=Bool×List He.FnW×List FnC
def qql (fn:List He.DefD) (ms:List FO) (ck:PySem.W.Frag→Bool) (K:PySem.W.Frag):AlC:=(ck K && fn.all fun d=>d.ok K,fn.map fun d=>He.fnW K d.at_,ms.map fun d=>fnC K d.at_)
def qpj (fn:List He.DefD) (ms:List FO):AlC:=(true,fn.map He.DefD.val,ms.map FO.val)
def vj (K:PySem.W.Frag) (C:Addr):Bool:=match K.lookup C with
 | some ⟨.type "type",_,.cls cd,sl⟩=>(match cd.mro,sl.toList with
  | .ref C'::bm,[_,_,_,_,some (.builtin n),_]=>C' == C && (n == "ValueError.__new__" && (!cd.hasDel && (cd.hasDict && PySem.HandSPX.refsVE bm)))
  | _,_=>false)
 | _=>false
def qob (K:PySem.W.Frag) (file:Str) (C fI:Addr) (qual:Str):Bool:=match K.lookup fI with
 | some ⟨_,_,.func fd,_⟩=>(match fd.closure,fd.code,fd.defaults with
  | [(_,cc)],.ref cda,.none=>PySem.W.codeIn K (.ref cda) qual && ((match K.lookup cda with
   | some ⟨_,_,.fields vs,_⟩=>(match (vs[2]?:Option Value) with
    | some (.str fl _)=>file == fl
    | _=>false)
   | _=>false) && (match K.lookup cc with
   | some ⟨_,_,.cell (some (.ref C')),_⟩=>C' == C
   | _=>false))
  | _,_,_=>false)
 | _=>false
abbrev eO:=He.eqO
def qlY (K:PySem.W.Frag) (file nm f qual:Str):Bool:=
 let C:=cA K nm
 eO (PySem.W.nsIn K mainGlobals nm) (some (some (.ref C))) && (vj K C && (eO (PySem.W.findIn K (.ref C) "__setattr__") (some (some (.builtin "object.__setattr__"))) && (eO (PySem.W.findIn K (.ref C) f) (some none) &&
 (PySem.W.keepIn K (.ref C) && (decide (PySem.W.subIn K (.ref C) (.type "BaseException")=some true) && (decide (PySem.W.subIn K (.ref C) (.type "ValueError")=some true) && (decide (PySem.W.typeIn K (.ref C)=some (.type "type")) &&
 (decide (PySem.W.mroIn K C (.ref C)=some true) && (eO (PySem.W.ks_superIn K C C "__init__") (some (some (.builtin "ValueError.__init__"))) && (eO (PySem.W.nsIn K cStatics "thirdparty.any") (some none) && (eO (PySem.W.nsIn K mainGlobals "super") (some none) &&
 (eO (PySem.W.findIn K (.ref C) "__init__") (some (some (.ref (He.ma K C "__init__")))) && (decide (PySem.W.typeIn K (.ref (He.ma K C "__init__"))=some (.type "function")) && (qob K file C (He.ma K C "__init__") qual &&
 (decide (PySem.W.exmOne K (.ref C) (.ref C)=some true) && xfB K C)))))))))))))))
def qgY (K:PySem.W.Frag) (x:Str):Bool:=eO (PySem.W.nsIn K mainGlobals x) (some none)
def qol (K:PySem.W.Frag) (x:Str):Bool:=eO (PySem.W.nsIn K mainGlobals x) (some (some (.ref (cA K x))))
def qoc (K:PySem.W.Frag) (x:Str) (id:String):Bool:=eO (PySem.W.nsIn K mainGlobals x) (some (some (.builtin id)))
end DL
namespace DL
open PySem L2
section
variable {α β:Type} {ρ ρ1:Env} {e:Exn}
def clR (xs:List X) (as:List L) (o0:FRes) (ρ:Env):Res X:=match o0 with
 | .ok (.d x) bs=>.ok (.d x) (Yp ρ xs as bs)
 | .ok (.m x) bs=>.ok (.d x) (Yp ρ xs as bs)
 | .ok _ _=>.bad
 | .ex e bs=>.ex e (Yp ρ xs as bs)
 | .bad=>.bad
def clL (n:Nat) (F:List L→FRes) (xs:List X) (o0:Option (List L)) (ρ:Env):Res X:=match o0 with
 | none=>.bad
 | some as=>if xs.length=n∧(slots xs).Nodup then clR xs as (F as) ρ else .bad
end
end DL
namespace PySem.ErrX
open PySem PySem.W PySem.Spec PySem.Calls PyProof.Rows
end PySem.ErrX
namespace DL
open PySem PySem.Spec PyProof.Rows L2
def qlK (K:PySem.W.Frag) (D:Addr):Bool:=xfB K D && (eO (PySem.W.findIn K (.ref D) "__class__") (some (some (.builtin "object.__class__"))) && (decide (PySem.W.specialIn K (.builtin "object.__class__") "__get__"=some (some (.builtin "getset_descriptor.__get__"))) &&
 (decide (PySem.W.takesIn K (.builtin "object.__class__")=some true) && decide (PySem.W.mroIn K D (.type "object")=some true))))
inductive CN where
 | own (x:Str) | ty (n:String)
def CN.u (K:PySem.W.Frag):CN→Value
 | .own x=>.ref (cA K x)
 | .ty n=>.type n
def qs2:D→Option Key
 | .int i=>some (.inl i)
 | .str x=>some (.inr x)
 | _=>none
variable {K:Kx} {W:WX}
abbrev MTb:Type:=List (Str×(List L→FRes))
abbrev maA (K:PySem.W.Frag) (C m:Str):Addr:=He.ma K (cA K C) m
def qqI (K:PySem.W.Frag) (C:Str):Bool:=PySem.W.makesIn K (cA K C) && (eO (PySem.W.findIn K (.ref (cA K C)) "__init__") (some (some (.builtin "object.__init__"))) && PySem.W.keepIn K (.ref (cA K C)))
def qhl (K:PySem.W.Frag) (C:Str):Bool:=PySem.W.plainGet K (cA K C) Str.empty && (PySem.W.hasDictIn K (cA K C) && (PySem.W.plainOver K (cA K C) && eO (PySem.W.findIn K (.ref (cA K C)) "__setattr__") (some (some (.builtin "object.__setattr__")))))
def qli (K:PySem.W.Frag) (C m C2:Str):Bool:=eO (PySem.W.findIn K (.ref (cA K C)) m) (some (some (.ref (maA K C2 m)))) && (PySem.W.isFn K (.ref (maA K C2 m)) && PySem.W.keepIn K (.ref (maA K C2 m)))
def qoU (K:PySem.W.Frag) (C:Str):Bool:=(PySem.W.clsIn K (cA K C)).isSome && eO (PySem.W.nsIn K cStatics "thirdparty.any") (some none)
mutual
def qae (K:PySem.W.Frag) (u:Value):D→Bool
 | .non=>decide (u=.none)
 | .bl b=>decide (u=.bool b)
 | .int i=>match u with
  | .int j _=>decide (i=j)
  | _=>false
 | .str x=>match u with
  | .str y _=>decide (x=y)
  | _=>false
 | .tup ds=>match u with
  | .ref a=>(match K.lookup a with
   | some o=>decide (o.cls=.type "tuple") && (o.dict.isNone && match o.data with
    | .seq its _=>decide (its.size≤sizeLine) && qbG K its.toList ds
    | _=>false)
   | none=>false)
  | _=>false
 | _=>false
def qbG (K:PySem.W.Frag) (us:List Value):List D→Bool
 | []=>us.isEmpty
 | d::ds=>match us with
  | u::us=>qae K u d && qbG K us ds
  | []=>false
end
def qtt (K:PySem.W.Frag) (x:Str) (d:D):Bool:=match PySem.W.nsIn K mainGlobals x with
 | some (some u)=>qae K u d
 | _=>false
def cvB (K:PySem.W.Frag) (C f:Str) (d:D):Bool:=PySem.W.readsIn K (cA K C) (.type "type") && (eO (PySem.W.specialIn K (.ref (cA K C)) "__getattribute__") (some (some (.builtin "type.__getattribute__"))) && (match PySem.W.findCls K (.ref (cA K C)) (.type "type") f with
 | some (.val u)=>qae K u d
 | _=>false))
abbrev ITb:Type:=List (Str×Bool)
def qgP (K:PySem.W.Frag) (C:Str) (q:Str×Bool):Bool:=qhl K q.1 && (eO (PySem.W.findIn K (.ref (cA K q.1)) "__class__") (some (some (.builtin "object.__class__"))) && (eO (PySem.W.specialIn K (.builtin "object.__class__") "__get__") (some (some (.builtin "getset_descriptor.__get__"))) &&
 (decide (PySem.W.takesIn K (.builtin "object.__class__")=some true) && (decide (PySem.W.mroIn K (cA K q.1) (.type "object")=some true) && decide (PySem.W.kitOne K (.ref (cA K q.1)) (.ref (cA K C))=some q.2)))))
def ya (K:PySem.W.Frag) (f:Str) (C:Str):Bool:=qhl K C && eO (PySem.W.findIn K (.ref (cA K C)) f) (some none)
def unw (K:PySem.W.Frag) (a:Addr):Addr:=match PySem.W.recIn K a "property" with
 | some (.ref g::_)=>g
 | _=>match PySem.W.recIn K a "staticmethod" with
  | some (.ref g::_)=>g
  | _=>match PySem.W.recIn K a "classmethod" with
   | some (.ref g::_)=>g
   | _=>a
def fnAt (K:PySem.W.Frag) (a:Addr):He.FnW:=match K.lookup a with
 | some ⟨_,_,.func fd,_⟩=>some (fd.name,fd.qualname,fd.params,fd.body,fd.scope,fd.globals,fd.closure,fd.builtins)
 | _=>none
def qhG (K:PySem.W.Frag) (a:Addr) (d:He.DefD):Bool:=PySem.W.keepIn K (.ref a) && (match K.lookup a with
 | some ⟨_,_,.func fd,_⟩=>PySem.W.codeIn K fd.code d.qual && (He.dflB K fd.defaults (d.dvs K) && He.kwdB K fd.kwdefaults (d.kws K))
 | _=>false)
abbrev AlP:Type:=AlC×Bool×List He.FnW
def qqk (fn:List He.DefD) (ms:List FO) (pr:List He.DefD) (ck:PySem.W.Frag→Bool) (K:PySem.W.Frag):AlP:=(qql fn ms ck K,pr.all (fun d=>qhG K (unw K (He.fAd K d.at_)) d),pr.map fun d=>fnAt K (unw K (He.fAd K d.at_)))
def qpi (fn:List He.DefD) (ms:List FO) (pr:List He.DefD):AlP:=(qpj fn ms,true,pr.map He.DefD.val)
def xy (fn:List He.DefD) (ms:List FO) (pr:List He.DefD) (ck:PySem.W.Frag→Bool) (K:PySem.W.Frag):Prop:=qqk fn ms pr ck K=qpi fn ms pr
def frN {α:Type} (n:Nat) (k:Nat→α):α:=match n with
 | 0=>k 0
 | m+1=>k (m+1)
def qak {α:Type}:List Addr→Nat→List Addr→(List Addr→Nat→α)→α
 | [],seen,acc,k=>k acc seen
 | a::as,seen,acc,k=>frN a fun a=>match Nat.beq (Nat.land (Nat.shiftRight seen a) 1) 1 with
  | true=>qak as seen acc k
  | false=>frN (Nat.lor seen (Nat.shiftLeft 1 a)) fun seen=>qak as seen (a::acc) k
def qf3 {α:Type} (g:Addr→Option Obj):List Addr→Nat→List Addr→(List Addr→Nat→α)→α
 | [],seen,acc,k=>k acc seen
 | a::as,seen,acc,k=>match g a with
  | some o=>qak (He.refsD o) seen acc fun acc seen=>qf3 g as seen acc k
  | none=>qf3 g as seen acc k
def qpU (g:Addr→Option Obj):Nat→List Addr→Nat→List Addr→List Addr
 | 0,_,_,all=>all
 | n+1,front,seen,all=>qf3 g front seen [] fun new seen=>qpU g n new seen (all++new)
def asB (g:Addr→Option Obj) (n:Nat):List Addr:=qak [mainGlobals,cStatics] 0 [] fun acc seen=>qpU g n acc seen acc
def qgi (n:Nat) (fn:List He.DefD) (ms:List FO) (pr:List He.DefD) (ck:PySem.W.Frag→Bool) (g:Addr→Option Obj):AlP:=qqk fn ms pr ck (He.frG g (asB g n))
def qjL (n:Nat) (fn:List He.DefD) (ms:List FO) (pr:List He.DefD) (ck:PySem.W.Frag→Bool):PySem.W.Hook where
 α:=AlP
 obs:=fun s=>qgi n fn ms pr ck s.heap.get?
 val:=fun _=>qpi fn ms pr
 says:=fun _ h=>∃K:PySem.W.Frag,K.In h∧xy fn ms pr ck K
 of:=fun _ _ e=>⟨_,He.frG_in,e⟩
 keeps:=fun _ _ _ ⟨K,hK,c⟩ k=>⟨K,PySem.W.Frag.In.keeps hK k,c⟩
theorem qeb {n:Nat} {fn:List He.DefD} {ms:List FO} {pr:List He.DefD} {ck:PySem.W.Frag→Bool} {g:Addr→Option Obj} {s:Shared} (h:∀a,g a=s.heap.get? a):qgi n fn ms pr ck g=(qjL n fn ms pr ck).obs s:=by
 have e:g=s.heap.get?:=funext h;rw[e]<;>rfl
section
variable {P:Program} {w:World} {K:PySem.W.Frag} {mg:Str→Option Value} {base:Heap} {k j:Nat} {m C C2:Str} {R:List L→FRes} {tb:MTb}
def qk7 (K:PySem.W.Frag) (C m C2:Str):Bool:=qhl K C && (eO (PySem.W.findIn K (.ref (cA K C)) m) (some (some (.ref (maA K C2 m)))) && (eO (PySem.W.specialIn K (.ref (maA K C2 m)) "__get__") (some (some (.builtin "property.__get__"))) && (decide (PySem.W.takesIn K (.ref (maA K C2 m))=some true) &&
 match PySem.W.recIn K (maA K C2 m) "property" with
 | some (.ref _::_)=>true
 | _=>false)))
end
def qiY (K:PySem.W.Frag) (C:Str):Bool:=PySem.W.makesIn K (cA K C) && (eO (PySem.W.findIn K (.ref (cA K C)) "__init__") (some (some (.ref (maA K C "__init__")))) && (PySem.W.isFn K (.ref (maA K C "__init__")) && PySem.W.keepIn K (.ref (cA K C))))
def opB (K:PySem.W.Frag) (C nm C2:Str):Bool:=PySem.W.selfFirst K (cA K C) && (eO (PySem.W.findIn K (.ref (cA K C)) nm) (some (some (.ref (maA K C2 nm)))) && PySem.W.isFn K (.ref (maA K C2 nm)))
def getT (kvs:List (List Int×D)) (k:List Int):Option D:=(kvs.find? fun kv=>decide (kv.1=k)).map (·.2)
variable {K:Kx} {W:WX}
noncomputable def frG (G G1:Hp):Hp:=fun b=>match G1 b with
 | some (.frz o x)=>some (.frz o x)
 | _=>G b
def qtF (k:Key):Option (D×Env)→Option (Option (Key×D)×Env)
 | some (y,ρ5)=>some (some (k,y),ρ5)
 | none=>none
def dcV (k:Key):Res X→Option (Option (Key×D)×Env)
 | .ok z ρ4=>qtF k (fz ρ4 z)
 | _=>none
def qtG (mv:EM) (ρ3:Env):Option Key→Option (Option (Key×D)×Env)
 | some k=>dcV k (mv ρ3)
 | none=>none
def qtH (mv:EM) (ρ3:Env):Option D→Option (Option (Key×D)×Env)
 | some dk=>qtG mv ρ3 (qs2 dk)
 | none=>none
def dcK (mv:EM):Res X→Option (Option (Key×D)×Env)
 | .ok x ρ3=>qtH mv ρ3 (look ρ3 x)
 | _=>none
def dcT (mk mv:EM):Res Bool→Option (Option (Key×D)×Env)
 | .ok true ρ2=>dcK mv (mk ρ2)
 | .ok false ρ2=>some (none,ρ2)
 | _=>none
end DL
namespace Law
open PySem PySem.Spec PyProof.Rows L2 DL
def Mj:ITb:=[("Numbers",true),("StrandLine",false),("Reader",false),("Feed",false)]
def zl (s:Stmt) (i:Nat):Stmt:=match s with
 | .ClassDef (body:=b) ..=>b.getD i (.Pass ⟨0,0,0,0⟩)
 | s=>s
def top (i:Nat):Stmt:=PySem.Challenge.pw_unseenfolds_k13_straight_lines.main.body.getD i (.Pass ⟨0,0,0,0⟩)
abbrev Zu:Stmt:=zl (top 10) 0
abbrev Ja:Stmt:=zl (top 10) 2
abbrev Jh:Stmt:=zl (top 10) 1
abbrev Zo:Stmt:=zl (top 17) 0
abbrev Zk:Stmt:=zl (top 17) 1
abbrev Zn:Stmt:=zl (top 17) 2
abbrev Xq:Stmt:=top 20
abbrev Vc:Stmt:=top 21
abbrev Jg:Stmt:=top 22
abbrev Wt:Stmt:=top 24
abbrev Kg:Stmt:=top 32
abbrev Ws:Stmt:=top 33
abbrev Xy:Stmt:=zl (top 49) 6
abbrev Ve:Stmt:=top 51
abbrev W3:Stmt:=top 52
abbrev Vh:Stmt:=top 55
abbrev Kj:Stmt:=top 57
abbrev Xr:Stmt:=top 58
abbrev W2:Stmt:=top 61
abbrev Hl:Stmt:=top 62
abbrev Xb:Stmt:=top 65
abbrev Vf:Stmt:=top 71
abbrev Ke:Stmt:=top 74
abbrev Yy:Stmt:=top 25
abbrev Hi:Stmt:=top 26
abbrev X9:Stmt:=top 27
abbrev Wz:Stmt:=top 53
abbrev Vg:Stmt:=top 54
abbrev Vj:Stmt:=top 59
abbrev Jp:Stmt:=top 63
abbrev Jk:Stmt:=top 66
abbrev W0:Stmt:=top 68
abbrev Yh:Stmt:=top 75
abbrev Ji:Stmt:=zl (top 10) 3
abbrev Ki:Stmt:=top 11
abbrev Vd:Stmt:=top 12
abbrev Ye:Stmt:=top 13
abbrev W4:Stmt:=top 56
abbrev Yf:Stmt:=top 60
abbrev Hj:Stmt:=top 64
abbrev Vi:Stmt:=top 67
abbrev Yg:Stmt:=top 72
abbrev Wy:Stmt:=top 69
abbrev Ww:Stmt:=top 73
abbrev X4:Stmt:=top 29
abbrev Wv:Stmt:=top 30
abbrev J1:Stmt:=top 31
abbrev Jq:Stmt:=zl (top 49) 3
abbrev Wu:Stmt:=top 34
abbrev Yz:Stmt:=top 35
abbrev X5:Stmt:=top 14
abbrev Xl:Stmt:=top 15
abbrev Jb:Stmt:=zl (top 49) 9
abbrev Kh:Stmt:=top 16
abbrev Yd:Stmt:=top 18
abbrev Wx:Stmt:=top 70
abbrev qaX:Stmt:=top 76
def G8:He.DefD:=⟨("Numbers",some "__init__"),"__init__","Numbers.__init__",defArgs Zu,defBody Zu,defScope Zu,[],[("divisor",(.int 1)),("modulus",(.int 1)),("spread",(.int 0)),("stride",(.int 1)),("reach",(.int 1))]⟩
def Nj:He.DefD:=⟨("Numbers",some "fields"),"fields","Numbers.fields",defArgs Jh,defBody Jh,defScope Jh,[],[]⟩
def Us:He.DefD:=⟨("StrandLine",some "__init__"),"__init__","StrandLine.__init__",defArgs Zo,defBody Zo,defScope Zo,[],[]⟩
def Wq:He.DefD:=⟨("StrandLine",some "strand_at"),"strand_at","StrandLine.strand_at",defArgs Zk,defBody Zk,defScope Zk,[],[]⟩
def Ur:He.DefD:=⟨("StrandLine",some "place_at"),"place_at","StrandLine.place_at",defArgs Zn,defBody Zn,defScope Zn,[],[]⟩
def Ru:He.DefD:=⟨("strand_turned",none),"strand_turned","strand_turned",defArgs Xq,defBody Xq,defScope Xq,[],[]⟩
def Dk:He.DefD:=⟨("strand_each",none),"strand_each","strand_each",defArgs Vc,defBody Vc,defScope Vc,[],[]⟩
def Fj:He.DefD:=⟨("strand_cut",none),"strand_cut","strand_cut",defArgs Jg,defBody Jg,defScope Jg,[],[("begin",(.int 0)),("end",.non)]⟩
def Eh:He.DefD:=⟨("row_size",none),"row_size","row_size",defArgs Wt,defBody Wt,defScope Wt,[],[]⟩
def Fi:He.DefD:=⟨("stretch_of",none),"stretch_of","stretch_of",defArgs Kg,defBody Kg,defScope Kg,[],[]⟩
def Ig:He.DefD:=⟨("whole_row",none),"whole_row","whole_row",defArgs Ws,defBody Ws,defScope Ws,[],[]⟩
def Dm:He.DefD:=⟨("_law_stream",none),"_law_stream","_law_stream",defArgs Ve,defBody Ve,defScope Ve,[],[]⟩
def Ip:He.DefD:=⟨("_law_draw",none),"_law_draw","_law_draw",defArgs W3,defBody W3,defScope W3,[],[]⟩
def Dt:He.DefD:=⟨("_law_onward",none),"_law_onward","_law_onward",defArgs Vh,defBody Vh,defScope Vh,[],[]⟩
def Fp:He.DefD:=⟨("_law_parts",none),"_law_parts","_law_parts",defArgs Kj,defBody Kj,defScope Kj,[],[]⟩
def Rx:He.DefD:=⟨("_law_multiple",none),"_law_multiple","_law_multiple",defArgs Xr,defBody Xr,defScope Xr,[],[]⟩
def Io:He.DefD:=⟨("_law_each",none),"_law_each","_law_each",defArgs W2,defBody W2,defScope W2,[],[]⟩
def Ek:He.DefD:=⟨("_law_cut",none),"_law_cut","_law_cut",defArgs Hl,defBody Hl,defScope Hl,[],[]⟩
def Ni:He.DefD:=⟨("_law_is_number",none),"_law_is_number","_law_is_number",defArgs Xb,defBody Xb,defScope Xb,[],[]⟩
def Dr:He.DefD:=⟨("_law_starts",none),"_law_starts","_law_starts",defArgs Vf,defBody Vf,defScope Vf,[],[]⟩
def Ij:He.DefD:=⟨("_law_near",none),"_law_near","_law_near",defArgs Ke,defBody Ke,defScope Ke,[],[]⟩
def Fm:He.DefD:=⟨("row_turned",none),"row_turned","row_turned",defArgs Yy,defBody Yy,defScope Yy,[],[]⟩
def Ei:He.DefD:=⟨("row_each",none),"row_each","row_each",defArgs Hi,defBody Hi,defScope Hi,[],[]⟩
def x4:He.DefD:=⟨("row_cut",none),"row_cut","row_cut",defArgs X9,defBody X9,defScope X9,[],[("begin",(.int 0)),("end",.non)]⟩
def Il:He.DefD:=⟨("_law_long",none),"_law_long","_law_long",defArgs Wz,defBody Wz,defScope Wz,[],[]⟩
def Ds:He.DefD:=⟨("_law_simple",none),"_law_simple","_law_simple",defArgs Vg,defBody Vg,defScope Vg,[],[]⟩
def Dw:He.DefD:=⟨("_law_behind",none),"_law_behind","_law_behind",defArgs Vj,defBody Vj,defScope Vj,[],[]⟩
def Rw:He.DefD:=⟨("_law_part_row",none),"_law_part_row","_law_part_row",defArgs Jp,defBody Jp,defScope Jp,[],[]⟩
def P0:He.DefD:=⟨("_law_is_numbers",none),"_law_is_numbers","_law_is_numbers",defArgs Jk,defBody Jk,defScope Jk,[],[]⟩
def Im:He.DefD:=⟨("_law_five",none),"_law_five","_law_five",defArgs W0,defBody W0,defScope W0,[],[]⟩
def Sj:He.DefD:=⟨("_law_bounded",none),"_law_bounded","_law_bounded",defArgs Yh,defBody Yh,defScope Yh,[],[]⟩
def Nk:He.DefD:=⟨("Numbers",some "__or__"),"__or__","Numbers.__or__",defArgs Ji,defBody Ji,defScope Ji,[],[]⟩
def Fo:He.DefD:=⟨("behind_cut",none),"behind_cut","behind_cut",defArgs Ki,defBody Ki,defScope Ki,[],[]⟩
def Dl:He.DefD:=⟨("behind_each",none),"behind_each","behind_each",defArgs Vd,defBody Vd,defScope Vd,[],[]⟩
def Sf:He.DefD:=⟨("behind_block",none),"behind_block","behind_block",defArgs Ye,defBody Ye,defScope Ye,[],[]⟩
def Iq:He.DefD:=⟨("_law_code",none),"_law_code","_law_code",defArgs W4,defBody W4,defScope W4,[],[]⟩
def Sh:He.DefD:=⟨("_law_numbers",none),"_law_numbers","_law_numbers",defArgs Yf,defBody Yf,defScope Yf,[],[]⟩
def Ej:He.DefD:=⟨("_law_row",none),"_law_row","_law_row",defArgs Hj,defBody Hj,defScope Hj,[],[]⟩
def Du:He.DefD:=⟨("_law_fields",none),"_law_fields","_law_fields",defArgs Vi,defBody Vi,defScope Vi,[],[]⟩
def Si:He.DefD:=⟨("_law_is_line",none),"_law_is_line","_law_is_line",defArgs Yg,defBody Yg,defScope Yg,[],[]⟩
def Ik:He.DefD:=⟨("_law_made",none),"_law_made","_law_made",defArgs Wy,defBody Wy,defScope Wy,[],[]⟩
def Ih:He.DefD:=⟨("_law_turn",none),"_law_turn","_law_turn",defArgs Ww,defBody Ww,defScope Ww,[],[]⟩
def M3:He.DefD:=⟨("count_parts",none),"count_parts","count_parts",defArgs X4,defBody X4,defScope X4,[],[]⟩
def Bs:He.DefD:=⟨("depth_of",none),"depth_of","depth_of",defArgs Wv,defBody Wv,defScope Wv,[],[]⟩
def H8:He.DefD:=⟨("leaves_behind",none),"leaves_behind","leaves_behind",defArgs J1,defBody J1,defScope J1,[],[]⟩
def Ry:He.DefD:=⟨("Feed",some "__init__"),"__init__","Feed.__init__",defArgs Jq,defBody Jq,defScope Jq,[],[]⟩
def Br:He.DefD:=⟨("part_row",none),"part_row","part_row",defArgs Wu,defBody Wu,defScope Wu,[],[]⟩
def Rv:He.DefD:=⟨("row_behind",none),"row_behind","row_behind",defArgs Yz,defBody Yz,defScope Yz,[],[]⟩
def M4:He.DefD:=⟨("behind_part",none),"behind_part","behind_part",defArgs X5,defBody X5,defScope X5,[],[]⟩
def Pj:He.DefD:=⟨("behind_parts",none),"behind_parts","behind_parts",defArgs Xl,defBody Xl,defScope Xl,[],[]⟩
def Mb:He.DefD:=⟨("Feed",some "strands_at"),"strands_at","Feed.strands_at",defArgs Jb,defBody Jb,defScope Jb,[],[]⟩
def Fn:He.DefD:=⟨("numbers_of",none),"numbers_of","numbers_of",defArgs Kh,defBody Kh,defScope Kh,[],[]⟩
def Se:He.DefD:=⟨("strand_lines",none),"strand_lines","strand_lines",defArgs Yd,defBody Yd,defScope Yd,[],[]⟩
def Ii:He.DefD:=⟨("_law_told",none),"_law_told","_law_told",defArgs Wx,defBody Wx,defScope Wx,[],[]⟩
def qkT:He.DefD:=⟨("law",none),"law","law",defArgs qaX,defBody qaX,defScope qaX,[],[]⟩
def Ma:He.DefD:=⟨("Numbers",some "settled"),"settled","Numbers.settled",defArgs Ja,defBody Ja,defScope Ja,[],[]⟩
def Fq:He.DefD:=⟨("Feed",some "parts"),"parts","Feed.parts",defArgs Xy,defBody Xy,defScope Xy,[],[]⟩
def fnL:List He.DefD:=[G8,Nj,Us,Wq,Ur,Ru,Dk,Fj,Eh,Fi,Ig,Dm,Ip,Dt,Fp,Rx,Io,Ek,Ni,Dr,Ij,Fm,Ei,x4,Il,Ds,Dw,Rw,P0,Im,Sj,Nk,Fo,Dl,Sf,Iq,Sh,Ej,Du,Si,Ik,Ih,M3,Bs,H8,Ry,Br,Rv,M4,Pj,Mb,Fn,Se,Ii,qkT]
def prL:List He.DefD:=[Ma,Fq]
def Ie:FO:=⟨("BadLength",some "__init__"),"__init__","BadLength.__init__",defArgs (zl (top 4) 0),defBody (zl (top 4) 0),defScope (zl (top 4) 0)⟩
def Eg:FO:=⟨("BadPlace",some "__init__"),"__init__","BadPlace.__init__",defArgs (zl (top 8) 0),defBody (zl (top 8) 0),defScope (zl (top 8) 0)⟩
def Ef:FO:=⟨("TooLarge",some "__init__"),"__init__","TooLarge.__init__",defArgs (zl (top 7) 0),defBody (zl (top 7) 0),defScope (zl (top 7) 0)⟩
def msL:List FO:=[Ie,Eg,Ef]
def frL:List Str:=["ValueError","abs","bool","int","isinstance","len","list","max","min","range","sum","tuple","zip"]
def glL:List Str:=(["strand_turned","strand_each","strand_cut","row_size","stretch_of","whole_row","_law_stream","_law_draw","_law_onward","_law_parts","_law_multiple","_law_each","_law_cut","_law_is_number","_law_starts","_law_near"]:List Str)++((["row_turned","row_each","row_cut","_law_long","_law_simple","_law_behind","_law_part_row","_law_is_numbers","_law_five","_law_bounded","behind_cut","behind_each","behind_block","_law_code","_law_numbers","_law_row"]:List Str)++((["_law_fields","_law_is_line","_law_made","_law_turn","count_parts","depth_of","leaves_behind","part_row","row_behind","behind_part","behind_parts","numbers_of","strand_lines","_law_told","law","BadIndex"]:List Str)++((["BadPlace","Feed","FoldError","Numbers","StrandLine"]:List Str))))
def clL:List Str:=["Feed","Numbers","StrandLine"]
def mdL:List Str:=[]
def mtL:List (Str×Str×Str):=([("Feed","strands_at","Feed"),("Numbers","fields","Numbers"),("StrandLine","place_at","StrandLine"),("StrandLine","strand_at","StrandLine")]:List (Str×Str×Str))
def isL:List (Str×Str×Str):=[]
def ixL:List Str:=["BadLength"]
def imL:List (Str×String):=[("lcm","math.lcm")]
def erL:List (Str×Str×Str):=[("BadLength","length","BadLength.__init__"),("BadPlace","place","BadPlace.__init__"),("TooLarge","what","TooLarge.__init__")]
def gcL:List (Str×D):=[]
def cvL:List (Str×Str×D):=([("Feed","MOST_DEPTH",(.int 6)),("Feed","MOST_LEAVES",(.int 16)),("Feed","MOST_PARTS",(.int 24))]:List (Str×Str×D))
def ck2 (K:PySem.W.Frag):Bool:=gcL.all (fun q=>qtt K q.1 q.2) && (cvL.all (fun q=>cvB K q.1 q.2.1 q.2.2) && (Mj.all (qgP K "Numbers") && ((["Feed"]:List Str).all (ya K "_leaves") && ((["Feed"]:List Str).all (ya K "_parts") && ((["StrandLine"]:List Str).all (ya K "begin") && ((["StrandLine"]:List Str).all (ya K "begin_move") && ((["StrandLine"]:List Str).all (ya K "count") && ((["StrandLine"]:List Str).all (ya K "count_move") && ((["Numbers"]:List Str).all (ya K "divisor") && ((["Numbers"]:List Str).all (ya K "modulus") && ((["StrandLine"]:List Str).all (ya K "place") && ((["StrandLine"]:List Str).all (ya K "place_move") && ((["Numbers"]:List Str).all (ya K "reach") && ((["Numbers"]:List Str).all (ya K "spread") && ((["StrandLine"]:List Str).all (ya K "step") && ((["Numbers"]:List Str).all (ya K "stride") && (qiY K "Feed" && (qiY K "Numbers" && (qiY K "StrandLine" && (qk7 K "Feed" "parts" "Feed" && (qk7 K "Numbers" "settled" "Numbers" && (opB K "Numbers" "__or__" "Numbers" && (isL.all (fun q=>qob K PySem.Challenge.pw_unseenfolds_k13_straight_lines.main.file (cA K q.1) (maA K q.1 q.2.1) q.2.2 && qoU K q.1))))))))))))))))))))))))
def ck (K:PySem.W.Frag):Bool:=frL.all (qgY K) && (glL.all (qol K) && (imL.all (fun q=>qoc K q.1 q.2) && (erL.all (fun q=>qlY K PySem.Challenge.pw_unseenfolds_k13_straight_lines.main.file q.1 q.2.1 q.2.2) && (ixL.all (fun x=>qlK K (cA K x)) && (clL.all (qhl K) && (mdL.all (qqI K) && (mtL.all (fun q=>qli K q.1 q.2.1 q.2.2) && (ck2 K && (decide (PySem.W.kitAny K (.ref (cA K "BadLength")) (([(.own "BadIndex"),(.own "BadPlace")]:List CN).map (CN.u K))=some false) && (decide (PySem.W.kitOne K (.ref (cA K "BadLength")) (CN.u K (.ty "ValueError"))=some true) && (decide (PySem.W.kitOne K (.ref (cA K "BadLength")) (CN.u K (.own "FoldError"))=some true) && (true))))))))))))
end Law
set_option maxHeartbeats 0
namespace Law
open PySem PySem.Spec PyProof.Rows L2 DL
abbrev R:PySem.W.OpenRow:=PySem.W.OpenLaw.row PySem.Challenge.rw_unseenfolds_k13_straight_lines
abbrev hk:PySem.W.Hook:=qjL 5 fnL msL prL ck
def ob (s:PySem.W.SharedT):AlP:=qgi 5 fnL msL prL ck (HandSHeadRun.getT s)
theorem qmY (s:PySem.W.SharedT):ob s=hk.obs s.abs:=qeb (HandSHeadRun.getT_eq s)
def lo0:List Str:=["_wall","FoldError","BadLength","BadIndex","BadFeed","TooLarge","BadPlace","Numbers","behind_cut","behind_each","behind_block","behind_part","behind_parts","numbers_of","StrandLine","strand_lines","strand_turned","strand_each","strand_cut","row_size","row_turned","row_each","row_cut","count_parts","depth_of","leaves_behind","stretch_of","whole_row","part_row","row_behind"]
def lo1:List Str:=["part_list","list_behind","DEPTH_BOUND","DIGITS","CUT_WORDS","tokens","number_of","Reader","read_parts","part_text","write_parts","Feed","_law_stream","_law_draw","_law_long","_law_simple","_law_onward","_law_code","_law_parts","_law_multiple","_law_behind","_law_numbers","_law_each","_law_cut","_law_part_row","_law_row","_law_is_number","_law_is_numbers","_law_fields","_law_five"]
def lo2:List Str:=["_law_made","_law_told","_law_starts","_law_is_line","_law_turn","_law_near","_law_bounded"]
def loose:List Str:=lo0++(lo1++(lo2))
theorem qsB (w:World) (os:Unit):Option.map (fun x=>(HandSHeadRun.looksF R.prog x.1.heap x.2.abs,HandSHeadRun.seenQ (PySem.W.view R.prog [0,76]) loose (importedModules R.prog.main.body) (fun s=>PySem.W.xlAt (PySem.W.view R.prog [0,76]) [] s && PySem.W.recOk R.toRowW.records s) x.2.abs)) (HandSHeadRun.wholeF (fun p=>HandSHeadRun.stepQ (HandSHeadRun.denQ HandSHeadRun.tabQ) p w) HandSHeadRun.fenceQ 40000 R.prog)=some (true,PySem.W.openGood (PySem.W.view R.prog [0,76]) loose):=by kernel_rfl
def kS (s:PySem.W.SharedT):PySem.W.Frag:=He.frG (HandSHeadRun.getT s) (asB (HandSHeadRun.getT s) 5)
def ckh (K:PySem.W.Frag):Bool:=frL.all (qgY K) && (glL.all (qol K) && (imL.all (fun q=>qoc K q.1 q.2) && (erL.all (fun q=>qlY K PySem.Challenge.pw_unseenfolds_k13_straight_lines.main.file q.1 q.2.1 q.2.2) && (ixL.all (fun x=>qlK K (cA K x)) && (clL.all (qhl K) && (mdL.all (qqI K) && (mtL.all (fun q=>qli K q.1 q.2.1 q.2.2) && ((decide (PySem.W.kitAny K (.ref (cA K "BadLength")) (([(.own "BadIndex"),(.own "BadPlace")]:List CN).map (CN.u K))=some false) && (decide (PySem.W.kitOne K (.ref (cA K "BadLength")) (CN.u K (.ty "ValueError"))=some true) && (decide (PySem.W.kitOne K (.ref (cA K "BadLength")) (CN.u K (.own "FoldError"))=some true) && (true))))))))))))
theorem qoZ {K:PySem.W.Frag} (h1:ckh K=true) (h2:ck2 K=true):ck K=true:=by
 unfold ck;rw[h2];exact h1
theorem qmJ (w:World) (os:Unit):Option.map (fun s=>ckh (kS s)) (Option.map Prod.snd (HandSHeadRun.wholeF (fun p=>HandSHeadRun.stepQ (HandSHeadRun.denQ HandSHeadRun.tabQ) p w) HandSHeadRun.fenceQ 40000 R.prog))=some true:=by kernel_rfl
theorem qmI (w:World) (os:Unit):Option.map (fun s=>ck2 (kS s)) (Option.map Prod.snd (HandSHeadRun.wholeF (fun p=>HandSHeadRun.stepQ (HandSHeadRun.denQ HandSHeadRun.tabQ) p w) HandSHeadRun.fenceQ 40000 R.prog))=some true:=by kernel_rfl
theorem qsA (w:World) (os:Unit):Option.map (fun s=>ck (kS s)) (Option.map Prod.snd (HandSHeadRun.wholeF (fun p=>HandSHeadRun.stepQ (HandSHeadRun.denQ HandSHeadRun.tabQ) p w) HandSHeadRun.fenceQ 40000 R.prog))=some true:=by
 have e1:=qmJ w os;have e2:=qmI w os;generalize (Option.map Prod.snd (HandSHeadRun.wholeF (fun p=>HandSHeadRun.stepQ (HandSHeadRun.denQ HandSHeadRun.tabQ) p w) HandSHeadRun.fenceQ 40000 R.prog))=o at *;cases o with
 | none=>cases e1
 | some s=>exact congrArg some (qoZ (Option.some.inj e1) (Option.some.inj e2))
theorem qmH (w:World) (os:Unit):Option.map (fun s=>(fnL.all (fun d=>d.ok (kS s)),msL.map (fun d=>fnC (kS s) d.at_),prL.all (fun d=>qhG (kS s) (unw (kS s) (He.fAd (kS s) d.at_)) d),prL.map (fun d=>fnAt (kS s) (unw (kS s) (He.fAd (kS s) d.at_))))) (Option.map Prod.snd (HandSHeadRun.wholeF (fun p=>HandSHeadRun.stepQ (HandSHeadRun.denQ HandSHeadRun.tabQ) p w) HandSHeadRun.fenceQ 40000 R.prog))=some (true,msL.map FO.val,true,prL.map He.DefD.val):=by kernel_rfl
theorem qmG (w:World) (os:Unit):Option.map (fun s=>fnL.map (fun d=>He.fnW (kS s) d.at_)) (Option.map Prod.snd (HandSHeadRun.wholeF (fun p=>HandSHeadRun.stepQ (HandSHeadRun.denQ HandSHeadRun.tabQ) p w) HandSHeadRun.fenceQ 40000 R.prog))=some (fnL.map He.DefD.val):=by kernel_rfl
theorem runC (w:World) (os:Unit):Option.map (fun s=>(fnL.all (fun d=>d.ok (kS s)),fnL.map (fun d=>He.fnW (kS s) d.at_),msL.map (fun d=>fnC (kS s) d.at_),prL.all (fun d=>qhG (kS s) (unw (kS s) (He.fAd (kS s) d.at_)) d),prL.map (fun d=>fnAt (kS s) (unw (kS s) (He.fAd (kS s) d.at_))))) (Option.map Prod.snd (HandSHeadRun.wholeF (fun p=>HandSHeadRun.stepQ (HandSHeadRun.denQ HandSHeadRun.tabQ) p w) HandSHeadRun.fenceQ 40000 R.prog))=some (true,fnL.map He.DefD.val,msL.map FO.val,true,prL.map He.DefD.val):=by
 have e1:=qmH w os;have e2:=qmG w os;generalize (Option.map Prod.snd (HandSHeadRun.wholeF (fun p=>HandSHeadRun.stepQ (HandSHeadRun.denQ HandSHeadRun.tabQ) p w) HandSHeadRun.fenceQ 40000 R.prog))=o at *;cases o with
 | none=>cases e1
 | some s=>
  have e1:=Option.some.inj e1;have e2:=Option.some.inj e2;have a1:=congrArg Prod.fst e1;have a2:=congrArg Prod.snd e1;exact congrArg some (Prod.ext a1 (Prod.ext e2 a2))
theorem run (w:World):HandSHeadRun.RunEqI R (PySem.W.view R.prog [0,76]) hk ob 40000 loose w:=by
 have e1:=qsB w ();have e2:=qsA w ();have e3:=runC w ();show Option.map _ (HandSHeadRun.wholeF (fun p=>HandSHeadRun.stepQ (HandSHeadRun.denQ HandSHeadRun.tabQ) p w) HandSHeadRun.fenceQ 40000 R.prog)=_;generalize HandSHeadRun.wholeF (fun p=>HandSHeadRun.stepQ (HandSHeadRun.denQ HandSHeadRun.tabQ) p w) HandSHeadRun.fenceQ 40000 R.prog=o at *;cases o with
 | none=>cases e1
 | some x=>
  obtain⟨h0,s⟩:=x;have q1:=Option.some.inj e1;have q2:ck (kS s)=true:=Option.some.inj e2;have q3:=Option.some.inj e3;simp only[Prod.mk.injEq]at q1 q3;obtain⟨q1,q1b⟩:=q1;obtain⟨q3,q4,q5,q6,q7⟩:=q3;have eo:ob s=hk.val w:=by
   show (((ck (kS s) && fnL.all fun d=>d.ok (kS s)),fnL.map (fun d=>He.fnW (kS s) d.at_),msL.map fun d=>fnC (kS s) d.at_),prL.all (fun d=>qhG (kS s) (unw (kS s) (He.fAd (kS s) d.at_)) d),prL.map fun d=>fnAt (kS s) (unw (kS s) (He.fAd (kS s) d.at_)))=((true,fnL.map He.DefD.val,msL.map FO.val),true,prL.map He.DefD.val);rw[q2,q3,q4,q5,q6,q7];rfl
  show some (_,_,ob s)=_;rw[eo,q1,q1b];rfl
end Law
namespace L2
open PySem PySem.Spec PyProof.Rows
abbrev tOb (its:Array Value):Obj:={ cls:=.type "tuple",data:=.seq its }
def qhP (H:Hp) (xs:List V) (Q:VK):Prop:=∀(p:Addr) (o:Obj),o.dict=none→H p=none→Q (.ref p) (upd H p (.frz o (.tup xs)))
section
variable {X:Cx} {es:List Expr} {t:TA} {pos:Pos}
def qh1 (t:TA):TE:=fun σ H Q=>t σ H fun xs H1=>xs.length≤sizeLine∧qhP H1 xs Q
theorem qf8 {x1} (h:PA X es t):PE X (.Tuple es x1 pos) (qh1 t):=by
 refine⟨fun pins s σ H Q I hq=>?_⟩;refine wpAny_Tuple_spliced (thn (h.run pos pins s σ H _ I hq) fun us s1 ⟨xs,H1,I1,r,z,q⟩=>⟨by rw[← r.length];exact z,?_⟩);have hf:H1 s1.heap.objs.size=none:=I1.hok.fresh (Nat.le_refl _);refine⟨.ref s1.heap.objs.size,_,I1.laid (t':=s1.toks) (fun b u e=>Heap.get?_push_of_some _ e) (Nat.le_refl _) ?_,rfl,q _ (tOb us.toArray) rfl hf⟩;exact⟨Heap.get?_push_size _ rfl,z,us,r,⟨_,Heap.get?_push_size _ rfl,rfl,_,rfl⟩⟩
end
section
variable {X:Cx}
def qmO (K:PySem.W.Frag):R2:=fun x y H Q=>∃a b xs ys,x=.ref a∧y=.ref b∧SqT K H a xs∧SqT K H b ys∧xs.length+ys.length≤sizeLine∧
 (xs=[]→Q (.ref b) H)∧(xs≠[]→ys=[]→Q (.ref a) H)∧(xs≠[]→ys≠[]→qhP H (xs++ys) Q)
theorem qgg:OpR X (binaryOp .Add) (qmO X.K):=by
 intro pins s σ H x y v u Q I rx ry h;obtain⟨a,b,xs,ys,rfl,rfl,ha,hb,hz,q0,q1,q2⟩:=h;by_cases hx:xs=[]
 ·exact op_catA pins s σ H _ _ v u Q I rx ry ⟨a,b,xs,ys,rfl,rfl,ha,hb,hz,q0,q1,fun z=>absurd hx z⟩
 ·cases rx;cases ry;obtain⟨its,r1,p1,_⟩:=I.tuple ha;obtain⟨qtf,r2,p2,_⟩:=I.tuple hb;refine HT.cat_tup p1 p2 (fun z=>hx (r1.nil_iff.mp z)) (fun z=>⟨.ref a,H,I,rfl,q1 hx (r2.nil_iff.mp z)⟩) (fun z=>?_) (by rw[← r1.length,← r2.length];exact hz);refine⟨.ref s.heap.objs.size,_,I.laid (t':=s.toks) (fun b ob q=>Heap.get?_push_of_some _ q) (Nat.le_refl _) ?_,rfl,q2 hx (fun w=>z (r2.nil_iff.mpr w)) _ (tOb (its++qtf).toArray) rfl (I.hok.fresh (Nat.le_refl _))⟩;exact⟨Heap.get?_push_size _ rfl,by rw[List.length_append];exact hz,_,r1.append r2,IsTup.new _ _⟩
def qsD (K:PySem.W.Frag):V→Option Int→Option Int→Hp→VK→Prop:=fun x lo hi H Q=>∃a xs,x=.ref a∧SqT K H a xs∧
 (HT.sIx xs.length 0 lo=0∧HT.sIx xs.length xs.length hi=xs.length→Q (.ref a) H)∧(¬(HT.sIx xs.length 0 lo=0∧HT.sIx xs.length xs.length hi=xs.length)→qhP H (cutV xs lo hi) Q)
theorem qfU:SlR X (qsD X.K):=by
 intro pins s σ H x v vl vu lo hi sl Q I rx hs pl pu h;obtain⟨a,xs,rfl,hx,q1,q2⟩:=h;by_cases hw:HT.sIx xs.length 0 lo=0∧HT.sIx xs.length xs.length hi=xs.length
 ·exact sl_tupA pins s σ H _ v vl vu lo hi sl Q I rx hs pl pu ⟨a,xs,rfl,hx,q1,fun z=>absurd hw z⟩
 ·cases rx;obtain⟨its,r,ht,hz⟩:=I.tuple hx;have hlen:its.toArray.size=xs.length:=by rw[List.size_toArray];exact r.length.symm
  refine⟨"tuple",_,PyProof.Rows.slot_tuple_getitem.lookup,ht.typeIs,?_⟩;refine HT.getItem_tuple_cut ht hs pl pu (by rw[hlen];exact hw) ?_ (by rw[hlen];exact hz);rw[hlen];refine⟨.ref s.heap.objs.size,_,I.laid (t':=s.toks) (fun b ob q=>Heap.get?_push_of_some _ q) (Nat.le_refl _) ?_,rfl,q2 hw _ (tOb ((its.toArray.toList.drop (HT.sIx xs.length 0 lo)).take (HT.sIx xs.length xs.length hi-HT.sIx xs.length 0 lo)).toArray) rfl (I.hok.fresh (Nat.le_refl _))⟩;exact⟨Heap.get?_push_size _ rfl,Nat.le_trans (cutV_length xs lo hi) hz,_,(r.drop (HT.sIx xs.length 0 lo)).take (HT.sIx xs.length xs.length hi-HT.sIx xs.length 0 lo),IsTup.new _ _⟩
def qio (K:PySem.W.Frag):List V→Hp→VK→Prop:=fun xs H Q=>∃p ys,xs=[.ref p]∧((SqL K H p ys∧qhP H ys Q)∨(SqT K H p ys∧Q (.ref p) H))
theorem Uo:CallR X (.type "tuple") (qio X.K):=by
 intro pins s σ H xs us Q I r h;obtain⟨p,ys,rfl,h⟩:=h;rcases h with ⟨hq,q⟩ | ⟨hq,q⟩
 ·obtain⟨u,rfl,rx⟩:=vals1 r;cases rx;obtain⟨its,r',pl,hz⟩:=I.list hq;have hlen:=r'.length;refine call_tuple_list pl.isList (fun h' kp=>?_) (by simp only[List.size_toArray]<;>omega);have I1:Inv X pins σ H { s with heap:=h' }:=I.kept (t':=s.toks) kp;refine⟨.ref h'.objs.size,_,I1.laid (t':=s.toks) (fun b o e=>Heap.get?_push_of_some _ e) (Nat.le_refl _) ?_,rfl,q _ (tOb its.toArray) rfl (I1.hok.fresh (Nat.le_refl _))⟩;exact⟨Heap.get?_push_size _ rfl,hz,its,r',IsTup.new _ _⟩
 ·exact call_tuple_of pins s σ H _ us Q I r ⟨p,ys,rfl,.inr ⟨hq,q⟩⟩
end
def qtS (H:Hp) (v:V) (H':Hp) (xs:List V):Prop:=∃(T:Addr) (o:Obj),o.dict=none∧v=.ref T∧H T=none∧H'=upd H T (.frz o (.tup xs))
end L2
namespace L2
open PySem PySem.Spec PyProof.Rows
def qtB (x:List Int×Addr×Value):DictEntry:=⟨reduceHash (Builtin.Tuple.tupleHashOf (x.1.map hashInt)),.ref x.2.1,x.2.2⟩
abbrev KTI:List (List Int×Addr×V)→List (List Int×Addr×Value)→Prop:=Paired fun p q=>p.1=q.1∧p.2.1=q.2.1∧RelV p.2.2 q.2.2
def dcF (a:Addr) (kas:List (List Int×Addr×V)) (o:Obj) (h:Heap):Prop:=kas.length≤sizeLine∧(a == sysModules)=false∧
 ∃xs,KTI kas xs∧∃es ep,h.get? a=some o∧o.ExactDict∧o.data=.dict es ep∧es.toList=xs.map qtB∧(xs.map (·.1)).Nodup
def dcI (a:Addr) (kas:List (List Int×Addr×V)) (o:Obj):HO:=.ext (dcF a kas o)
end L2
set_option maxHeartbeats 2000000
namespace DL
open PySem L2
def mx:Nat:=1000000
def SqN (K:PySem.W.Frag) (H:Hp) (a:Addr) (xs:List V):Prop:=
 (∃o:Obj,H a=some (.frz o (.tup xs))∧o.dict=none)∨
  ∃(o:Obj) (its:Array Value) (n:Nat),K.lookup a=some o∧o.cls=.type "tuple"∧o.dict=none∧o.data=.seq its n∧its.size≤sizeLine∧Vals xs its.toList
theorem SqN.sq {K:PySem.W.Frag} {H:Hp} {a:Addr} {xs:List V} (h:SqN K H a xs):SqT K H a xs:=by
 rcases h with ⟨o,h,_⟩ | ⟨o,its,n,h1,h2,_,h3,h4,h5⟩
 ·exact .inl (.inr ⟨o,h⟩)
 ·exact .inr ⟨o,its,n,h1,h2,h3,h4,h5⟩
def qdS (K:PySem.W.Frag) (G:Hp) (kas:List (List Int×Addr×V)):Prop:=∀p∈kas,SqN K G p.2.1 (p.1.map V.int)
mutual
inductive Dq (K:PySem.W.Frag) (G:Hp):V→D→Prop
 | non:Dq K G .non .non
 | bl (b:Bool):Dq K G (.bl b) (.bl b)
 | int (i:Int):Dq K G (.int i) (.int i)
 | str (x:Str):Dq K G (.str x) (.str x)
 | lst {a:Addr} {xs:List V} {ds:List D}:G a=some (.lst xs)→DqA K G xs ds→Dq K G (.ref a) (.lst ds)
 | ro {a:Addr} {xs:List V} {ds:List D}:SqL K G a xs→DqA K G xs ds→Dq K G (.ref a) (.ro ds)
 | tup {a:Addr} {xs:List V} {ds:List D}:SqN K G a xs→DqA K G xs ds→Dq K G (.ref a) (.tup ds)
 | dct {a:Addr} {kvs:List (Key×V)} {ds:List (Key×D)}:G a=some (.dK kvs)→DqK K G kvs ds→Dq K G (.ref a) (.dct ds)
 | ins {a dx:Addr} {C:Str} {fs:List (Str×V)} {ds:List (Str×D)}:G a=some (.ins (cA K C) dx fs)→G dx=some (.own a)→DqF K G fs ds→Dq K G (.ref a) (.ins C ds)
 | dcT {a:Addr} {kas:List (List Int×Addr×V)} {ds:List (List Int×D)} {o:Obj}:G a=some (dcI a kas o)→qdS K G kas→DqT K G kas ds→Dq K G (.ref a) (.dcT ds)
inductive DqA (K:PySem.W.Frag) (G:Hp):List V→List D→Prop
 | nil:DqA K G [] []
 | cons {v:V} {vs:List V} {d:D} {ds:List D}:Dq K G v d→DqA K G vs ds→DqA K G (v::vs) (d::ds)
inductive DqK (K:PySem.W.Frag) (G:Hp):List (Key×V)→List (Key×D)→Prop
 | nil:DqK K G [] []
 | cons {k:Key} {v:V} {vs:List (Key×V)} {d:D} {ds:List (Key×D)}:Dq K G v d→DqK K G vs ds→DqK K G ((k,v)::vs) ((k,d)::ds)
inductive DqF (K:PySem.W.Frag) (G:Hp):List (Str×V)→List (Str×D)→Prop
 | nil:DqF K G [] []
 | cons {k:Str} {v:V} {vs:List (Str×V)} {d:D} {ds:List (Str×D)}:Dq K G v d→DqF K G vs ds→DqF K G ((k,v)::vs) ((k,d)::ds)
inductive DqT (K:PySem.W.Frag) (G:Hp):List (List Int×Addr×V)→List (List Int×D)→Prop
 | nil:DqT K G [] []
 | cons {k:List Int} {b:Addr} {v:V} {vs:List (List Int×Addr×V)} {d:D} {ds:List (List Int×D)}:Dq K G v d→DqT K G vs ds→DqT K G ((k,b,v)::vs) ((k,d)::ds)
end
theorem Same.seqN {K:PySem.W.Frag} {H H':Hp} {a:Addr} {xs:List V} (e:Same H H') (h:SqN K H a xs):SqN K H' a xs:=by
 rcases h with ⟨o,h,z⟩ | h
 ·exact .inl ⟨o,e _ _ h,z⟩
 ·exact .inr h
theorem qdS.mono {K:PySem.W.Frag} {G G':Hp} {kas:List (List Int×Addr×V)} (s:Same G G') (h:qdS K G kas):qdS K G' kas:=fun p hp=>Same.seqN s (h p hp)
section
variable {K:PySem.W.Frag} {G G':Hp} (s:Same G G')
include s
mutual
theorem Dq.mono {v:V} {d:D}:Dq K G v d→Dq K G' v d
 | .non=>.non
 | .bl b=>.bl b
 | .int i=>.int i
 | .str x=>.str x
 | .lst h a=>.lst (s _ _ h) (DqA.mono a)
 | .ro h a=>.ro (s.seq h) (DqA.mono a)
 | .tup h a=>.tup (Same.seqN s h) (DqA.mono a)
 | .dct h a=>.dct (s _ _ h) (DqK.mono a)
 | .ins h h2 a=>.ins (s _ _ h) (s _ _ h2) (DqF.mono a)
 | .dcT h h2 a=>.dcT (s _ _ h) (qdS.mono s h2) (DqT.mono a)
theorem DqA.mono {v:List V} {d:List D}:DqA K G v d→DqA K G' v d
 | .nil=>.nil
 | .cons h t=>.cons (Dq.mono h) (DqA.mono t)
theorem DqK.mono {v:List (Key×V)} {d:List (Key×D)}:DqK K G v d→DqK K G' v d
 | .nil=>.nil
 | .cons h t=>.cons (Dq.mono h) (DqK.mono t)
theorem DqF.mono {v:List (Str×V)} {d:List (Str×D)}:DqF K G v d→DqF K G' v d
 | .nil=>.nil
 | .cons h t=>.cons (Dq.mono h) (DqF.mono t)
theorem DqT.mono {v:List (List Int×Addr×V)} {d:List (List Int×D)}:DqT K G v d→DqT K G' v d
 | .nil=>.nil
 | .cons h t=>.cons (Dq.mono h) (DqT.mono t)
end
end
section
variable {K:PySem.W.Frag} {G:Hp}
theorem DqA.length:∀{vs:List V} {ds:List D},DqA K G vs ds→vs.length=ds.length
 | _,_,.nil=>rfl
 | _,_,.cons _ t=>by simp[DqA.length t]
theorem DqA.get:∀{vs:List V} {ds:List D} {i:Nat} {d:D},DqA K G vs ds→ds[i]?=some d→∃v,vs[i]?=some v∧Dq K G v d
 | _,_,_,_,.nil,e=>by simp at e
 | _,_,0,_,.cons r _,e=>by simp at e;subst e;exact⟨_,rfl,r⟩
 | _,_,i+1,d,.cons _ t,e=>by
  obtain⟨u,h1,h2⟩:=DqA.get (i:=i) (d:=d) t (by simpa using e);exact⟨u,by simpa using h1,h2⟩
theorem DqA.append:∀{vs us:List V} {ds es:List D},DqA K G vs ds→DqA K G us es→DqA K G (vs++us) (ds++es)
 | _,_,_,_,.nil,b=>b
 | _,_,_,_,.cons h t,b=>.cons h (DqA.append t b)
theorem DqA.one {v:V} {d:D} (h:Dq K G v d):DqA K G [v] [d]:=.cons h .nil
theorem DqA.take:∀{vs:List V} {ds:List D} (n:Nat),DqA K G vs ds→DqA K G (vs.take n) (ds.take n)
 | _,_,0,_=>by simpa using DqA.nil
 | _,_,_+1,.nil=>.nil
 | _,_,n+1,.cons h t=>.cons h (DqA.take n t)
theorem DqA.drop:∀{vs:List V} {ds:List D} (n:Nat),DqA K G vs ds→DqA K G (vs.drop n) (ds.drop n)
 | _,_,0,h=>by simpa using h
 | _,_,_+1,.nil=>.nil
 | _,_,n+1,.cons _ t=>by simpa using DqA.drop n t
theorem DqA.reverse:∀{vs:List V} {ds:List D},DqA K G vs ds→DqA K G vs.reverse ds.reverse
 | _,_,.nil=>.nil
 | _,_,.cons h t=>by simpa using (DqA.reverse t).append (.one h)
theorem DqA.dropLast {vs:List V} {ds:List D} (h:DqA K G vs ds):DqA K G vs.dropLast ds.dropLast:=by
 rw[List.dropLast_eq_take,List.dropLast_eq_take,h.length];exact h.take _
theorem DqA.set:∀{vs:List V} {ds:List D} {v:V} {d:D} (i:Nat),DqA K G vs ds→Dq K G v d→DqA K G (vs.set i v) (ds.set i d)
 | _,_,_,_,_,.nil,_=>.nil
 | _,_,_,_,0,.cons _ t,h=>.cons h t
 | _,_,_,_,i+1,.cons r t,h=>.cons r (DqA.set i t h)
theorem DqA.eraseIdx:∀{vs:List V} {ds:List D} (i:Nat),DqA K G vs ds→DqA K G (vs.eraseIdx i) (ds.eraseIdx i)
 | _,_,_,.nil=>by simpa using DqA.nil
 | _,_,0,.cons _ t=>t
 | _,_,i+1,.cons r t=>.cons r (DqA.eraseIdx i t)
theorem DqA.ints:∀{vs:List V} {ns:List Int},DqA K G vs (ns.map D.int)→vs=ns.map V.int
 | _,[],h=>by cases h;rfl
 | _,n::r,h=>by
  cases h with
  | cons h t=>
   cases h;rw[DqA.ints t];rfl
theorem DqA.of_ints (ns:List Int):DqA K G (ns.map V.int) (ns.map D.int):=by
 induction ns with
 | nil=>exact .nil
 | cons n r ih=>exact .cons (.int n) ih
end
def Vw (K:PySem.W.Frag) (G H:Hp) (v:V):D→Prop
 | .lst ds=>∃a xs,v=.ref a∧H a=some (.lst xs)∧DqA K G xs ds
 | .dct ds=>∃a kvs,v=.ref a∧H a=some (.dK kvs)∧DqK K G kvs ds
 | .ins C ds=>∃a dx fs,v=.ref a∧H a=some (.ins (cA K C) dx fs)∧G dx=some (.own a)∧DqF K G fs ds
 | .dcT ds=>∃a kas o,v=.ref a∧H a=some (dcI a kas o)∧qdS K G kas∧DqT K G kas ds
 | d=>Dq K G v d
theorem Dq.vw {K:PySem.W.Frag} {G H:Hp} {v:V} {d:D} (s:Same G H) (h:Dq K G v d):Vw K G H v d:=by
 cases h with
 | lst h a=>exact⟨_,_,rfl,s _ _ h,a⟩
 | dct h a=>exact⟨_,_,rfl,s _ _ h,a⟩
 | non=>exact .non
 | bl b=>exact .bl b
 | int i=>exact .int i
 | str x=>exact .str x
 | ro h a=>exact .ro h a
 | tup h a=>exact .tup h a
 | ins h h2 a=>exact⟨_,_,_,rfl,s _ _ h,h2,a⟩
 | dcT h h2 a=>exact⟨_,_,_,rfl,s _ _ h,h2,a⟩
def ExOk (K:PySem.W.Frag) (G:Hp) (c:Value) (d:Option Addr) (e:Exn):Prop:=
 c=.ref (cA K e.cls)∧match e.fs with
  | none=>True
  | some fs=>∃dd vs,d=some dd∧G dd=some (.xd vs)∧DqF K G vs fs
theorem ExOk.mono {K:PySem.W.Frag} {G G':Hp} {c:Value} {d:Option Addr} {e:Exn} (s:Same G G') (h:ExOk K G c d e):ExOk K G' c d e:=by
 refine⟨h.1,?_⟩;have h2:=h.2;split at h2
 ·trivial
 ·obtain⟨dd,vs,h3,h4,h5⟩:=h2;exact⟨dd,vs,h3,s _ _ h4,h5.mono s⟩
def L.ism:L→Bool
 | .m _=>true
 | .p _=>true
 | _=>false
def MOk (K:Kx) (G H:Hp) (v:V):D→Prop
 | .lst ds=>∃a xs,v=.ref a∧G a=none∧H a=some (.lst xs)∧DqA K G xs ds
 | .dct ds=>∃a kvs,v=.ref a∧G a=none∧H a=some (.dK kvs)∧DqK K G kvs ds
 | .ins C ds=>∃a dx fs,v=.ref a∧G a=none∧H a=some (.ins (cA K C) dx fs)∧G dx=some (.own a)∧DqF K G fs ds
 | .dcT ds=>∃a kas o,v=.ref a∧G a=none∧H a=some (dcI a kas o)∧qdS K G kas∧DqT K G kas ds
 | _=>False
def LOk (K:Kx) (G H:Hp) (v:V):L→Prop
 | .d x=>Dq K G v x
 | .m x=>MOk K G H v x
 | .r x=>MOk K G H v x
 | .p x=>MOk K G H v x∧∀y,K.xa=some y→v=.ref y.a
 | .xh=>∀y,K.xa=some y→v=.ref y.a
 | .u _ _=>False
theorem MOk.ref {K:Kx} {G H:Hp} {v:V} {x:D} (h:MOk K G H v x):∃a,v=.ref a∧G a=none∧H a≠none:=by
 cases x<;>first | exact h.elim | skip
 ·obtain⟨a,xs,rfl,h1,h2,_⟩:=h;exact⟨a,rfl,h1,by rw[h2];exact fun z=>nomatch z⟩
 ·obtain⟨a,xs,rfl,h1,h2,_⟩:=h;exact⟨a,rfl,h1,by rw[h2];exact fun z=>nomatch z⟩
 ·obtain⟨a,dx,xs,rfl,h1,h2,_⟩:=h;exact⟨a,rfl,h1,by rw[h2];exact fun z=>nomatch z⟩
 ·obtain⟨a,xs,ob,rfl,h1,h2,_⟩:=h;exact⟨a,rfl,h1,by rw[h2];exact fun z=>nomatch z⟩
theorem MOk.vw {K:Kx} {G H:Hp} {v:V} {x:D} (h:MOk K G H v x):Vw K G H v x:=by
 cases x<;>first | exact h.elim | skip
 ·obtain⟨a,xs,rfl,h1,h2,h3⟩:=h;exact⟨a,xs,rfl,h2,h3⟩
 ·obtain⟨a,xs,rfl,h1,h2,h3⟩:=h;exact⟨a,xs,rfl,h2,h3⟩
 ·obtain⟨a,dx,xs,rfl,h1,h2,h3,h4⟩:=h;exact⟨a,dx,xs,rfl,h2,h3,h4⟩
 ·obtain⟨a,xs,ob,rfl,h1,h2,h3,h4⟩:=h;exact⟨a,xs,ob,rfl,h2,h3,h4⟩
theorem LOk.vw {K:Kx} {G H:Hp} {v:V} {l:L} {x:D} (s:Same G H) (h:LOk K G H v l) (e:l.dat=some x):Vw K G H v x:=by
 cases l with
 | d y=>
  cases Option.some.inj e;exact Dq.vw s h
 | m y=>
  cases Option.some.inj e;exact MOk.vw h
 | r y=>
  cases Option.some.inj e;exact MOk.vw h
 | p y=>
  cases Option.some.inj e;exact MOk.vw h.1
 | xh=>cases e
 | u _ _=>cases e
theorem MOk.mono {K:Kx} {G H G' H':Hp} {v:V} {x:D} (s:Same G G') (h:MOk K G H v x) (k:∀a,v=.ref a→G' a=none∧∀o,H a=some o→H' a=some o):MOk K G' H' v x:=by
 cases x<;>first | exact h.elim | skip
 ·obtain⟨a,xs,rfl,h1,h2,h3⟩:=h;exact⟨a,xs,rfl,(k a rfl).1,(k a rfl).2 _ h2,h3.mono s⟩
 ·obtain⟨a,xs,rfl,h1,h2,h3⟩:=h;exact⟨a,xs,rfl,(k a rfl).1,(k a rfl).2 _ h2,h3.mono s⟩
 ·obtain⟨a,dx,xs,rfl,h1,h2,h3,h4⟩:=h;exact⟨a,dx,xs,rfl,(k a rfl).1,(k a rfl).2 _ h2,s _ _ h3,h4.mono s⟩
 ·obtain⟨a,xs,ob,rfl,h1,h2,h3,h4⟩:=h;exact⟨a,xs,ob,rfl,(k a rfl).1,(k a rfl).2 _ h2,h3.mono s,h4.mono s⟩
structure Rel (K:Kx) (σ:St) (G H:Hp) (ρ:Env):Prop where
 same:Same G H
 len:σ.length=ρ.length
 at_:∀(i:Nat) (l:L),ρ[i]?=some (some l)→∃v,σ[i]?=some (some v)∧LOk K G H v l
 exo:∀y,K.xa=some y→ExOk K G y.c y.d y.e
 sep:∀(i j:Nat) (l l':L) (a:Addr),i≠j→ρ[i]?=some (some l)→ρ[j]?=some (some l')→l.own=true→l'.own=true→σ[i]?=some (some (.ref a))→σ[j]?≠some (some (.ref a))
def Own (σ:St) (ρ:Env) (a:Addr):Prop:=∃(i:Nat) (l:L),ρ[i]?=some (some l)∧l.own=true∧σ[i]?=some (some (.ref a))
def Bq (σ:St) (ρ:Env) (a:Addr):Prop:=∃(i:Nat) (l:L),ρ[i]?=some (some l)∧l.ism=true∧σ[i]?=some (some (.ref a))
theorem Bq.own {σ:St} {ρ:Env} {a:Addr} (h:Bq σ ρ a):Own σ ρ a:=by
 obtain⟨i,l,h1,h2,h3⟩:=h;refine⟨i,l,h1,?_,h3⟩;cases l<;>first | rfl | cases h2
structure Stp (σ:St) (ρ:Env) (G H:Hp) (σ':St) (ρ':Env) (G' H':Hp):Prop where
 g:Same G G'
 gf:∀a o,G' a=some o→G a=some o∨H a=none∨Bq σ ρ a
 fr:∀a o,H a=some o→¬Own σ ρ a→H' a=some o
 hn:∀a,H a≠none→H' a≠none
 ow:∀a,Own σ' ρ' a→Own σ ρ a∨H a=none
 om:∀a,Bq σ' ρ' a→Bq σ ρ a∨H a=none
 pin:∀(i:Nat) (x:D),ρ[i]?=some (some (.r x))→σ'[i]?=σ[i]?∧∃y,ρ'[i]?=some (some (.r y))
theorem Stp.refl (σ:St) (ρ:Env) (G H:Hp):Stp σ ρ G H σ ρ G H:=
 ⟨Same.refl _,fun _ _ h=>.inl h,fun _ _ h _=>h,fun _ h=>h,fun _ h=>.inl h,fun _ h=>.inl h,fun _ x h=>⟨rfl,x,h⟩⟩
theorem Stp.trans {σ σ1 σ2:St} {ρ ρ1 ρ2:Env} {G H G1 H1 G2 H2:Hp} (a:Stp σ ρ G H σ1 ρ1 G1 H1) (b:Stp σ1 ρ1 G1 H1 σ2 ρ2 G2 H2):Stp σ ρ G H σ2 ρ2 G2 H2 where
 g:=a.g.trans b.g
 gf:=fun x o h=>by
  have back:H1 x=none→H x=none:=fun z=>by
   cases e:H x with
   | none=>rfl
   | some u=>exact absurd z (a.hn x (by rw[e];exact fun q=>nomatch q))
  rcases b.gf x o h with h | h | h
  ·exact a.gf x o h
  ·exact .inr (.inl (back h))
  ·rcases a.om x h with h | h
   ·exact .inr (.inr h)
   ·exact .inr (.inl h)
 fr:=fun x o h n=>by
  have h1:=a.fr x o h n;refine b.fr x o h1 fun q=>?_;rcases a.ow x q with q | q
  ·exact n q
  ·rw[h]at q;cases q
 hn:=fun x h=>b.hn x (a.hn x h)
 ow:=fun x h=>by
  rcases b.ow x h with h | h
  ·exact a.ow x h
  ·refine .inr ?_;cases e:H x with
   | none=>rfl
   | some u=>exact absurd h (a.hn x (by rw[e];exact fun q=>nomatch q))
 om:=fun x h=>by
  rcases b.om x h with h | h
  ·exact a.om x h
  ·refine .inr ?_;cases e:H x with
   | none=>rfl
   | some u=>exact absurd h (a.hn x (by rw[e];exact fun q=>nomatch q))
 pin:=fun i x h=>by
  obtain⟨e1,y,h1⟩:=a.pin i x h;obtain⟨e2,z,h2⟩:=b.pin i y h1;exact⟨e2.trans e1,z,h2⟩
structure Gro (G H G' H':Hp):Prop where
 g:Same G G'
 s:Same G' H'
 h:Same H H'
 gf:∀a o,G' a=some o→G a=some o∨H a=none
theorem Gro.refl {G H:Hp} (s:Same G H):Gro G H G H:=⟨Same.refl _,s,Same.refl _,fun _ _ h=>.inl h⟩
theorem Gro.trans {G H G1 H1 G2 H2:Hp} (a:Gro G H G1 H1) (b:Gro G1 H1 G2 H2):Gro G H G2 H2:=by
 refine⟨a.g.trans b.g,b.s,a.h.trans b.h,fun x o h=>?_⟩;rcases b.gf x o h with h | h
 ·exact a.gf x o h
 ·exact .inr (a.h.free h)
theorem Gro.stp {σ:St} {ρ:Env} {G H G' H':Hp} (e:Gro G H G' H'):Stp σ ρ G H σ ρ G' H' where
 g:=e.g
 gf:=fun a o h=>(e.gf a o h).elim .inl fun z=>.inr (.inl z)
 fr:=fun a o h _=>e.h a o h
 hn:=fun a h z=>by
  cases q:H a with
  | none=>exact h q
  | some o=>
   rw[e.h a o q]at z;cases z
 ow:=fun _ h=>.inl h
 om:=fun _ h=>.inl h
 pin:=fun _ x h=>⟨rfl,x,h⟩
theorem LOk.gro {K:Kx} {G H G' H':Hp} {v:V} {l:L} (e:Gro G H G' H') (h:LOk K G H v l):LOk K G' H' v l:=by
 have own:∀x,MOk K G H v x→MOk K G' H' v x:=fun x h=>by
  refine h.mono e.g fun a ea=>?_;obtain⟨b,eb,h1,h2⟩:=h.ref;rw[ea]at eb;cases eb;refine⟨?_,fun o ho=>e.h a o ho⟩;cases q:G' a with
  | none=>rfl
  | some o=>
   rcases e.gf a o q with z | z
   ·rw[h1]at z;cases z
   ·exact absurd z h2
 cases l with
 | d x=>exact Dq.mono e.g h
 | m x=>exact own x h
 | r x=>exact own x h
 | p x=>exact⟨own x h.1,h.2⟩
 | xh=>exact h
 | u _ _=>exact h
theorem Rel.gro {K:Kx} {σ:St} {ρ:Env} {G H G' H':Hp} (R:Rel K σ G H ρ) (e:Gro G H G' H'):Rel K σ G' H' ρ:=
 ⟨e.s,R.len,fun i l h=>let ⟨v,h1,h2⟩:=R.at_ i l h;⟨v,h1,h2.gro e⟩,fun y h=>(R.exo y h).mono e.g,R.sep⟩
theorem Gro.new {G H:Hp} {p:Addr} {o:HO} (s:Same G H) (h:H p=none):Gro G H (upd G p o) (upd H p o):=by
 have hg:G p=none:=s.free h;refine⟨fun b x e=>?_,fun b x e=>?_,fun b x e=>?_,fun b x e=>?_⟩
 ·rw[upd_ne (ne_of_none e hg)];exact e
 ·by_cases q:b=p
  ·subst q;rw[upd_same]at e ⊢;exact e
  ·rw[upd_ne q]at e ⊢;exact s b x e
 ·rw[upd_ne (ne_of_none e h)];exact e
 ·by_cases q:b=p
  ·subst q;exact .inr h
  ·rw[upd_ne q]at e;exact .inl e
theorem Gro.newH {G H:Hp} {p:Addr} {o:HO} (s:Same G H) (h:H p=none):Gro G H G (upd H p o):=
 ⟨Same.refl _,fun b x e=>by rw[upd_ne (ne_of_none e (s.free h))];exact s b x e,fun b x e=>by rw[upd_ne (ne_of_none e h)];exact e,fun _ _ e=>.inl e⟩
end DL
set_option maxHeartbeats 2000000
namespace DL
open PySem L2
abbrev TM:=Env→Res Bool
abbrev AM:=Env→Res (List X)
abbrev FM:=Env→Res D
inductive Fl where
 | nx | bk | ct | rt (l:L)
abbrev SM:=Env→Res Fl
def bindR {α β:Type} (r:Res α) (k:α→Env→Res β):Res β:=match r with
 | .ok a ρ=>k a ρ
 | .ex e ρ=>.ex e ρ
 | .bad=>.bad
def fzs (ρ:Env):List X→Option (List D×Env)
 | []=>some ([],ρ)
 | x::xs=>match fz ρ x with
  | some (d,ρ1)=>match fzs ρ1 xs with
   | some (ds,ρ2)=>some (d::ds,ρ2)
   | none=>none
  | none=>none
def XOk (K:Kx) (σ:St) (G:Hp) (v:V):X→Prop
 | .d x=>Dq K G v x
 | .s i=>σ[i]?=some (some v)
theorem XOk.mono {K:Kx} {σ:St} {G G':Hp} {v:V} {x:X} (s:Same G G') (h:XOk K σ G v x):XOk K σ G' v x:=by
 cases x with
 | d x=>exact Dq.mono s h
 | s i=>exact h
section
variable {K:Kx} {σ:St} {G H:Hp} {ρ:Env}
theorem Xn {v:V} {x:X} {a:D} (R:Rel K σ G H ρ) (h:XOk K σ G v x) (e:look ρ x=some a):Vw K G H v a:=by
 cases x with
 | d x=>
  have e:x=a:=Option.some.inj e;subst e;exact Dq.vw R.same h
 | s i=>
  unfold look at e;simp only at e;split at e
  ·rename_i l hl;obtain⟨u,h1,h2⟩:=R.at_ i l hl;have hv:σ[i]?=some (some v):=h;rw[hv]at h1;have h1:v=u:=Option.some.inj (Option.some.inj h1);subst h1;exact LOk.vw R.same h2 e
  ·cases e
theorem Rel.lt {i:Nat} {l:Option L} (R:Rel K σ G H ρ) (h:ρ[i]?=some l):i < σ.length:=by
 rw[R.len];exact (List.getElem?_eq_some_iff.mp h).1
theorem X2 {α:Type} {xs:List α} {i j:Nat} {a b:α} (h:(xs.set i a)[j]?=some b):(i=j∧a=b)∨(i≠j∧xs[j]?=some b):=by
 by_cases e:i=j
 ·subst e;by_cases hl:i<xs.length
  ·rw[List.getElem?_set_self hl]at h;exact .inl ⟨rfl,Option.some.inj h⟩
  ·rw[List.getElem?_eq_none (by simpa using hl)]at h;cases h
 ·rw[List.getElem?_set_ne e]at h;exact .inr ⟨e,h⟩
theorem qgU {i:Nat} {x:D} {v:V} (R:Rel K σ G H ρ) (h:ρ[i]?=some (some (.m x))) (hv:σ[i]?=some (some v)) :
  ∃G',Stp σ ρ G H σ (ρ.set i (some (.d x))) G' H∧Rel K σ G' H (ρ.set i (some (.d x)))∧Dq K G' v x:=by
 obtain⟨u,h1,h2⟩:=R.at_ i _ h;rw[hv]at h1;have h1:v=u:=Option.some.inj (Option.some.inj h1);subst h1;have h2:MOk K G H v x:=h2;obtain⟨a,rfl,ga,ha⟩:=h2.ref;obtain⟨o,ho⟩:∃o,H a=some o:=by
  cases q:H a with
  | none=>exact absurd q ha
  | some o=>exact⟨o,rfl⟩
 have hown:Bq σ ρ a:=⟨i,_,h,rfl,hv⟩;have sG:Same G (upd G a o):=fun b u e=>by rw[upd_ne (ne_of_none e ga)];exact e
 have sGH:Same (upd G a o) H:=fun b u e=>by
  by_cases q:b=a
  ·subst q;rw[upd_same]at e;rw[ho,e]
  ·rw[upd_ne q]at e;exact R.same b u e
 have ow:∀b,Own σ (ρ.set i (some (.d x))) b→Own σ ρ b:=fun b ⟨j,l,e1,e2,e3⟩=>by
  rcases X2 e1 with ⟨rfl,e⟩ | ⟨_,e⟩
  ·have e:L.d x=l:=Option.some.inj e;subst e;cases e2
  ·exact⟨j,l,e,e2,e3⟩
 have om:∀b,Bq σ (ρ.set i (some (.d x))) b→Bq σ ρ b:=fun b ⟨j,l,e1,e2,e3⟩=>by
  rcases X2 e1 with ⟨rfl,e⟩ | ⟨_,e⟩
  ·have e:L.d x=l:=Option.some.inj e;subst e;cases e2
  ·exact⟨j,l,e,e2,e3⟩
 have dq:Dq K (upd G a o) (.ref a) x:=by
  cases x<;>first | exact h2.elim | skip
  ·obtain⟨b,xs,e,_,hb,hx⟩:=h2;cases e;rw[ho]at hb;cases hb;exact .lst upd_same (hx.mono sG)
  ·obtain⟨b,xs,e,_,hb,hx⟩:=h2;cases e;rw[ho]at hb;cases hb;exact .dct upd_same (hx.mono sG)
  ·obtain⟨b,dx,xs,e,_,hb,hd,hx⟩:=h2;cases e;rw[ho]at hb;cases hb;exact .ins upd_same (sG _ _ hd) (hx.mono sG)
  ·obtain⟨b,xs,ob,e,_,hb,hk,hx⟩:=h2;cases e;rw[ho]at hb;cases hb;exact .dcT upd_same (hk.mono sG) (hx.mono sG)
 refine⟨upd G a o,⟨sG,fun b u e=>?_,fun b u e _=>e,fun b e=>e,fun b e=>.inl (ow b e),fun b e=>.inl (om b e),fun j y e=>⟨rfl,?_⟩⟩,⟨sGH,?_,fun j l e=>?_,fun y h=>(R.exo y h).mono sG,fun j k l l' b hjk e1 e2 o1 o2=>?_⟩,dq⟩
 ·by_cases q:b=a
  ·subst q;exact .inr (.inr hown)
  ·rw[upd_ne q]at e;exact .inl e
 ·refine⟨y,?_⟩;have hji:i≠j:=fun q=>by
   subst q;rw[h]at e;cases e
  rw[List.getElem?_set_ne hji];exact e
 ·rw[List.length_set];exact R.len
 ·rcases X2 e with ⟨hij,e'⟩ | ⟨hne,e⟩
  ·subst hij;have e':L.d x=l:=Option.some.inj e';subst e';exact⟨_,hv,dq⟩
  ·obtain⟨u,e1,e2⟩:=R.at_ j l e;refine⟨u,e1,?_⟩;have own:∀y,l.own=true→MOk K G H u y→MOk K (upd G a o) H u y:=fun y hlo hm=>by
    refine hm.mono sG fun b eb=>⟨?_,fun o e=>e⟩;subst eb;have nb:b≠a:=fun q=>by
     subst q;exact R.sep i j _ _ b hne h e rfl hlo hv e1
    rw[upd_ne nb];obtain⟨c,ec,hc,_⟩:=hm.ref;cases ec;exact hc
   cases l with
   | d y=>exact Dq.mono sG e2
   | m y=>exact own y rfl e2
   | r y=>exact own y rfl e2
   | p y=>exact⟨own y rfl e2.1,e2.2⟩
   | xh=>exact e2
   | u _ _=>exact e2
 ·rcases X2 e1 with ⟨rfl,e⟩ | ⟨_,e1⟩
  ·have e:L.d x=l:=Option.some.inj e;subst e;cases o1
  ·rcases X2 e2 with ⟨rfl,e⟩ | ⟨_,e2⟩
   ·have e:L.d x=l':=Option.some.inj e;subst e;cases o2
   ·exact R.sep j k l l' b hjk e1 e2 o1 o2
theorem Bk {v:V} {x:X} {d:D} {ρ':Env} (R:Rel K σ G H ρ) (h:XOk K σ G v x) (e:fz ρ x=some (d,ρ')):∃G',Stp σ ρ G H σ ρ' G' H∧Rel K σ G' H ρ'∧Dq K G' v d:=by
 cases x with
 | d x=>
  have e:(x,ρ)=(d,ρ'):=Option.some.inj e;cases e;exact⟨G,Stp.refl _ _ _ _,R,h⟩
 | s i=>
  unfold fz at e;simp only at e;split at e
  ·rename_i y hy;cases Option.some.inj e;exact qgU R hy h
  ·rename_i y hy;cases Option.some.inj e;obtain⟨u,h1,h2⟩:=R.at_ i _ hy;have h:σ[i]?=some (some v):=h;rw[h]at h1;have h1:v=u:=Option.some.inj (Option.some.inj h1);subst h1;exact⟨G,Stp.refl _ _ _ _,R,h2⟩
  ·cases e
def Tx (K:Kx) (σ:St) (G:Hp):List V→List X→Prop:=Paired (XOk K σ G)
theorem Tx.mono {G':Hp} (s:Same G G'):∀{vs:List V} {xs:List X},Tx K σ G vs xs→Tx K σ G' vs xs
 | _,_,.nil=>.nil
 | _,_,.cons h t=>.cons (XOk.mono s h) (Tx.mono s t)
theorem qcZ:∀{xs:List X} {vs:List V} {G:Hp} {ρ:Env} {ds:List D} {ρ':Env},Rel K σ G H ρ→Tx K σ G vs xs→fzs ρ xs=some (ds,ρ')→∃G',Stp σ ρ G H σ ρ' G' H∧Rel K σ G' H ρ'∧DqA K G' vs ds
 | [],_,G,ρ,_,_,R,h,e=>by
  cases h;cases Option.some.inj e;exact⟨G,Stp.refl _ _ _ _,R,.nil⟩
 | x::xs,_,G,ρ,ds,ρ',R,h,e=>by
  cases h with
  | cons hx ht=>
   unfold fzs at e;split at e
   ·rename_i d ρ1 e1;split at e
    ·rename_i es ρ2 e2;cases Option.some.inj e;obtain⟨G1,S1,R1,q1⟩:=Bk R hx e1;obtain⟨G2,S2,R2,q2⟩:=qcZ R1 (Tx.mono S1.g ht) e2;exact⟨G2,S1.trans S2,R2,.cons (q1.mono S2.g) q2⟩
    ·cases e
   ·cases e
end
section
variable (K:Kx) (W:WX) (σ:St) (G H:Hp) (ρ:Env)
def Wm (e:Exn) (ρ':Env):Prop:=∀c d G' H',Stp σ ρ G H σ ρ' G' H'→Rel K σ G' H' ρ'→ExOk K G' c d e→W c d σ H'
def EPost (Q:VK):Res X→Prop
 | .ok x ρ'=>∀v G' H',Stp σ ρ G H σ ρ' G' H'→Rel K σ G' H' ρ'→XOk K σ G' v x→Q v H'
 | .ex e ρ'=>Wm K W σ G H ρ e ρ'
 | .bad=>False
def Ia (Q:Bool→Hp→Prop):Res Bool→Prop
 | .ok b ρ'=>∀G' H',Stp σ ρ G H σ ρ' G' H'→Rel K σ G' H' ρ'→Q b H'
 | .ex e ρ'=>Wm K W σ G H ρ e ρ'
 | .bad=>False
def Iy (Q:List V→Hp→Prop):Res (List X)→Prop
 | .ok xs ρ'=>∀vs G' H',Stp σ ρ G H σ ρ' G' H'→Rel K σ G' H' ρ'→Tx K σ G' vs xs→Q vs H'
 | .ex e ρ'=>Wm K W σ G H ρ e ρ'
 | .bad=>False
def Frs (ρ':Env) (G' H':Hp) (v:V) (x:D):Prop:=MOk K G' H' v x∧∀a,v=.ref a→H a=none∧¬Own σ ρ' a
def Tz (Q:VK):Res D→Prop
 | .ok x ρ'=>∀v G' H',Stp σ ρ G H σ ρ' G' H'→Rel K σ G' H' ρ'→Frs K σ H ρ' G' H' v x→Q v H'
 | .ex e ρ'=>Wm K W σ G H ρ e ρ'
 | .bad=>False
end
def Yx (K:Kx) (W:WX) (t:TE) (m:EM):Prop:=∀σ G H ρ,Rel K σ G H ρ→∀Q,EPost K W σ G H ρ Q (m ρ)→t σ H Q
def Ee (K:Kx) (W:WX) (t:TT) (m:TM):Prop:=∀σ G H ρ,Rel K σ G H ρ→∀Q,Ia K W σ G H ρ Q (m ρ)→t σ H Q
def Bx (K:Kx) (W:WX) (t:TA) (m:AM):Prop:=∀σ G H ρ,Rel K σ G H ρ→∀Q,Iy K W σ G H ρ Q (m ρ)→t σ H Q
def qbB (K:Kx) (W:WX) (t:TE) (m:FM):Prop:=∀σ G H ρ,Rel K σ G H ρ→∀Q,Tz K W σ G H ρ Q (m ρ)→t σ H Q
section
variable {K:Kx} {W:WX} {σ:St} {G H G1 H1:Hp} {ρ ρ1:Env}
theorem Wm.step {e:Exn} {ρ':Env} (S:Stp σ ρ G H σ ρ1 G1 H1) (h:Wm K W σ G H ρ e ρ'):Wm K W σ G1 H1 ρ1 e ρ':=fun c d G' H' S'=>h c d G' H' (S.trans S')
theorem EPost.step {Q:VK} (S:Stp σ ρ G H σ ρ1 G1 H1):∀{r:Res X},EPost K W σ G H ρ Q r→EPost K W σ G1 H1 ρ1 Q r
 | .ok _ _,h=>fun v G' H' S'=>h v G' H' (S.trans S')
 | .ex _ _,h=>Wm.step S h
 | .bad,h=>h
theorem Ia.step {Q:Bool→Hp→Prop} (S:Stp σ ρ G H σ ρ1 G1 H1):∀{r:Res Bool},Ia K W σ G H ρ Q r→Ia K W σ G1 H1 ρ1 Q r
 | .ok _ _,h=>fun G' H' S'=>h G' H' (S.trans S')
 | .ex _ _,h=>Wm.step S h
 | .bad,h=>h
theorem Iy.step {Q:List V→Hp→Prop} (S:Stp σ ρ G H σ ρ1 G1 H1):∀{r:Res (List X)},Iy K W σ G H ρ Q r→Iy K W σ G1 H1 ρ1 Q r
 | .ok _ _,h=>fun v G' H' S'=>h v G' H' (S.trans S')
 | .ex _ _,h=>Wm.step S h
 | .bad,h=>h
theorem Stp.back (S:Stp σ ρ G H σ ρ1 G1 H1) {a:Addr} (h:H1 a=none):H a=none:=by
 cases e:H a with
 | none=>rfl
 | some u=>exact absurd h (S.hn a (by rw[e];exact fun q=>nomatch q))
theorem Tz.step {Q:VK} (S:Stp σ ρ G H σ ρ1 G1 H1):∀{r:Res D},Tz K W σ G H ρ Q r→Tz K W σ G1 H1 ρ1 Q r
 | .ok _ _,h=>fun v G' H' S' R' F=>h v G' H' (S.trans S') R' ⟨F.1,fun a e=>⟨S.back (F.2 a e).1,(F.2 a e).2⟩⟩
 | .ex _ _,h=>Wm.step S h
 | .bad,h=>h
theorem Yx.fst {t:TE} {m:EM} (h:Yx K W t m) (R:Rel K σ G H ρ) {T:VK}
  (k:∀x ρ1,m ρ=.ok x ρ1→∀v G1 H1,Stp σ ρ G H σ ρ1 G1 H1→Rel K σ G1 H1 ρ1→XOk K σ G1 v x→T v H1) (kx:∀e ρ1,m ρ=.ex e ρ1→Wm K W σ G H ρ e ρ1) (kb:m ρ≠.bad):t σ H T:=by
 refine h σ G H ρ R T ?_;cases e:m ρ with
 | ok x ρ1=>exact fun v G1 H1 S R X=>k x ρ1 e v G1 H1 S R X
 | ex e' ρ1=>exact kx e' ρ1 e
 | bad=>exact absurd e kb
theorem Bx.fst {t:TA} {m:AM} (h:Bx K W t m) (R:Rel K σ G H ρ) {T:List V→Hp→Prop}
  (k:∀x ρ1,m ρ=.ok x ρ1→∀v G1 H1,Stp σ ρ G H σ ρ1 G1 H1→Rel K σ G1 H1 ρ1→Tx K σ G1 v x→T v H1) (kx:∀e ρ1,m ρ=.ex e ρ1→Wm K W σ G H ρ e ρ1) (kb:m ρ≠.bad):t σ H T:=by
 refine h σ G H ρ R T ?_;cases e:m ρ with
 | ok x ρ1=>exact fun v G1 H1 S R X=>k x ρ1 e v G1 H1 S R X
 | ex e' ρ1=>exact kx e' ρ1 e
 | bad=>exact absurd e kb
theorem Ee.fst {t:TT} {m:TM} (h:Ee K W t m) (R:Rel K σ G H ρ) {T:Bool→Hp→Prop}
  (k:∀x ρ1,m ρ=.ok x ρ1→∀G1 H1,Stp σ ρ G H σ ρ1 G1 H1→Rel K σ G1 H1 ρ1→T x H1) (kx:∀e ρ1,m ρ=.ex e ρ1→Wm K W σ G H ρ e ρ1) (kb:m ρ≠.bad):t σ H T:=by
 refine h σ G H ρ R T ?_;cases e:m ρ with
 | ok x ρ1=>exact fun G1 H1 S R=>k x ρ1 e G1 H1 S R
 | ex e' ρ1=>exact kx e' ρ1 e
 | bad=>exact absurd e kb
theorem qbB.fst {t:TE} {m:FM} (h:qbB K W t m) (R:Rel K σ G H ρ) {T:VK}
  (k:∀x ρ1,m ρ=.ok x ρ1→∀v G1 H1,Stp σ ρ G H σ ρ1 G1 H1→Rel K σ G1 H1 ρ1→Frs K σ H ρ1 G1 H1 v x→T v H1) (kx:∀e ρ1,m ρ=.ex e ρ1→Wm K W σ G H ρ e ρ1) (kb:m ρ≠.bad):t σ H T:=by
 refine h σ G H ρ R T ?_;cases e:m ρ with
 | ok x ρ1=>exact fun v G1 H1 S R X=>k x ρ1 e v G1 H1 S R X
 | ex e' ρ1=>exact kx e' ρ1 e
 | bad=>exact absurd e kb
theorem Frs.lock {σ:St} {ρ':Env} {G' H':Hp} {v:V} {x:D} (S:Stp σ ρ G H σ ρ' G' H') (R:Rel K σ G' H' ρ') (F:Frs K σ H ρ' G' H' v x):∃G'',Stp σ ρ G H σ ρ' G'' H'∧Rel K σ G'' H' ρ'∧Dq K G'' v x:=by
 obtain⟨hm,hf⟩:=F;obtain⟨a,rfl,ga,ha⟩:=hm.ref;obtain⟨o,ho⟩:∃o,H' a=some o:=by
  cases q:H' a with
  | none=>exact absurd q ha
  | some o=>exact⟨o,rfl⟩
 obtain⟨hna,hno⟩:=hf a rfl;have sG:Same G' (upd G' a o):=fun b u e=>by rw[upd_ne (ne_of_none e ga)];exact e
 have sGH:Same (upd G' a o) H':=fun b u e=>by
  by_cases q:b=a
  ·subst q;rw[upd_same]at e;rw[ho,e]
  ·rw[upd_ne q]at e;exact R.same b u e
 have dq:Dq K (upd G' a o) (.ref a) x:=by
  cases x<;>first | exact hm.elim | skip
  ·obtain⟨b,xs,e,_,hb,hx⟩:=hm;cases e;rw[ho]at hb;cases hb;exact .lst upd_same (hx.mono sG)
  ·obtain⟨b,xs,e,_,hb,hx⟩:=hm;cases e;rw[ho]at hb;cases hb;exact .dct upd_same (hx.mono sG)
  ·obtain⟨b,dx,xs,e,_,hb,hd,hx⟩:=hm;cases e;rw[ho]at hb;cases hb;exact .ins upd_same (sG _ _ hd) (hx.mono sG)
  ·obtain⟨b,xs,ob,e,_,hb,hk,hx⟩:=hm;cases e;rw[ho]at hb;cases hb;exact .dcT upd_same (hk.mono sG) (hx.mono sG)
 refine⟨upd G' a o,⟨S.g.trans sG,fun b u e=>?_,S.fr,S.hn,S.ow,S.om,S.pin⟩,⟨sGH,R.len,fun j l e=>?_,fun y h=>(R.exo y h).mono sG,R.sep⟩,dq⟩
 ·by_cases q:b=a
  ·subst q;exact .inr (.inl hna)
  ·rw[upd_ne q]at e;exact S.gf b u e
 ·obtain⟨u,e1,e2⟩:=R.at_ j l e;refine⟨u,e1,?_⟩;have own:∀y,l.own=true→MOk K G' H' u y→MOk K (upd G' a o) H' u y:=fun y hl hm=>by
   refine hm.mono sG fun b eb=>⟨?_,fun o e=>e⟩;subst eb;have nb:b≠a:=fun q=>by
    subst q;exact hno ⟨j,l,e,hl,e1⟩
   rw[upd_ne nb];obtain⟨c,ec,hc,_⟩:=hm.ref;cases ec;exact hc
  cases l with
  | d y=>exact Dq.mono sG e2
  | m y=>exact own y rfl e2
  | r y=>exact own y rfl e2
  | p y=>exact⟨own y rfl e2.1,e2.2⟩
  | xh=>exact e2
  | u _ _=>exact e2
end
def eF (m:FM):EM:=fun ρ=>bindR (m ρ) fun d ρ'=>.ok (.d d) ρ'
theorem qbB.ev {K:Kx} {W:WX} {t:TE} {m:FM} (h:qbB K W t m):Yx K W t (eF m):=fun σ G H ρ R Q hq=>by
 unfold eF bindR at hq;refine h.fst R (fun x ρ1 e v G1 H1 S1 R1 F=>?_) (fun e ρ1 q=>by rw[q]at hq;exact hq) (fun q=>by rw[q]at hq;exact hq);rw[e]at hq;obtain⟨G2,S2,R2,q2⟩:=Frs.lock S1 R1 F;exact hq v G2 H1 S2 R2 q2
end DL
set_option maxHeartbeats 2000000
namespace DL
open PySem L2
variable {K:Kx} {W:WX}
def Qi (i:Nat):EM:=fun ρ=>match ρ[i]? with
 | some (some (.d x))=>.ok (.d x) ρ
 | some (some _)=>.ok (.s i) ρ
 | _=>.bad
theorem qj5 (i:Nat):Yx K W (tVar i) (Qi i):=fun σ G H ρ R Q h=>by
 unfold Qi at h;split at h
 ·rename_i x hx;obtain⟨v,h1,h2⟩:=R.at_ i _ hx;exact⟨v,h1,h v G H (Stp.refl _ _ _ _) R h2⟩
 ·rename_i l hl _ _;obtain⟨v,h1,h2⟩:=R.at_ i _ (by assumption);exact⟨v,h1,h v G H (Stp.refl _ _ _ _) R h1⟩
 ·exact h.elim
def eC (x:D):EM:=fun ρ=>.ok (.d x) ρ
theorem qki (i:Int):Yx K W (tC (.int i)) (eC (.int i)):=fun σ G H ρ R Q h=>h _ G H (Stp.refl _ _ _ _) R (.int i)
theorem qoA (b:Bool):Yx K W (tC (.bl b)) (eC (.bl b)):=fun σ G H ρ R Q h=>h _ G H (Stp.refl _ _ _ _) R (.bl b)
theorem qj8 (x:Str):Yx K W (tC (.str x)) (eC (.str x)):=fun σ G H ρ R Q h=>h _ G H (Stp.refl _ _ _ _) R (.str x)
theorem qkd:Yx K W (tC .non) (eC .non):=fun σ G H ρ R Q h=>h _ G H (Stp.refl _ _ _ _) R .non
def x6 (K:PySem.W.Frag) (G H:Hp) (d:D) (Q:VK):Prop:=∀w G' H',Gro G H G' H'→Dq K G' w d→Q w H'
def rD2 (K:PySem.W.Frag) (g:D→D→Option D):R2:=fun x y H Q=>∃G a b d,Same G H∧Vw K G H x a∧Vw K G H y b∧g a b=some d∧x6 K G H d Q
def rD1 (K:PySem.W.Frag) (g:D→Option D):V→Hp→VK→Prop:=fun x H Q=>∃G a d,Same G H∧Vw K G H x a∧g a=some d∧x6 K G H d Q
def rDn (K:PySem.W.Frag) (g:List D→Option D):List V→Hp→VK→Prop:=fun xs H Q=>∃G as d,Same G H∧Paired (Vw K G H) xs as∧g as=some d∧x6 K G H d Q
def oD (r:Option D) (ρ:Env):Res X:=match r with
 | some d=>.ok (.d d) ρ
 | none=>.bad
theorem x6.of {σ:St} {G H:Hp} {ρ:Env} {d:D} {Q:VK} (R:Rel K σ G H ρ) (h:EPost K W σ G H ρ Q (.ok (.d d) ρ)):x6 K G H d Q:=fun w G' H' g q=>h w G' H' g.stp (R.gro g) q
def eOp (g:D→D→Option D) (ma mb:EM):EM:=fun ρ=>bindR (ma ρ) fun x ρ1=>bindR (mb ρ1) fun y ρ2=>match look ρ2 x,look ρ2 y with
 | some a,some b=>oD (g a b) ρ2
 | _,_=>.bad
theorem qez {g:D→D→Option D} {ta tb:TE} {ma mb:EM} (ha:Yx K W ta ma) (hb:Yx K W tb mb):Yx K W (tOp (rD2 K g) ta tb) (eOp g ma mb):=fun σ G H ρ R Q h=>by
 unfold eOp bindR at h;refine ha.fst R (fun x ρ1 e v G1 H1 S1 R1 x1=>?_) (fun e ρ1 q=>by rw[q]at h;exact h) (fun q=>by rw[q]at h;exact h);rw[e]at h;have h:=EPost.step S1 h;simp only at h;refine hb.fst R1 (fun y ρ2 e2 u G2 H2 S2 R2 x2=>?_) (fun e ρ1 q=>by rw[q]at h;exact h) (fun q=>by rw[q]at h;exact h);rw[e2]at h;have h:=EPost.step S2 h;simp only at h;split at h
 ·rename_i a b ea eb;unfold oD at h;split at h
  ·rename_i d hd;exact⟨G2,a,b,d,R2.same,Xn R2 (x1.mono S2.g) ea,Xn R2 x2 eb,hd,x6.of R2 h⟩
  ·exact h.elim
 ·exact h.elim
def eUn (g:D→Option D) (ma:EM):EM:=fun ρ=>bindR (ma ρ) fun x ρ1=>match look ρ1 x with
 | some a=>oD (g a) ρ1
 | _=>.bad
theorem qj6 {g:D→Option D} {ta:TE} {ma:EM} (ha:Yx K W ta ma):Yx K W (tUn (rD1 K g) ta) (eUn g ma):=fun σ G H ρ R Q h=>by
 unfold eUn bindR at h;refine ha.fst R (fun x ρ1 e v G1 H1 S1 R1 x1=>?_) (fun e ρ1 q=>by rw[q]at h;exact h) (fun q=>by rw[q]at h;exact h);rw[e]at h;have h:=EPost.step S1 h;simp only at h;split at h
 ·rename_i a ea;unfold oD at h;split at h
  ·rename_i d hd;exact⟨G1,a,d,R1.same,Xn R1 x1 ea,hd,x6.of R1 h⟩
  ·exact h.elim
 ·exact h.elim
def looks (ρ:Env):List X→Option (List D)
 | []=>some []
 | x::xs=>match look ρ x,looks ρ xs with
  | some a,some as=>some (a::as)
  | _,_=>none
theorem qav {σ:St} {G H:Hp} {ρ:Env} (R:Rel K σ G H ρ):∀{xs:List X} {vs:List V} {as:List D},Tx K σ G vs xs→looks ρ xs=some as→Paired (Vw K G H) vs as
 | [],_,_,h,e=>by
  cases h;cases Option.some.inj e;exact .nil
 | x::xs,_,_,h,e=>by
  cases h with
  | cons hx ht=>
   unfold looks at e;split at e
   ·rename_i a as e1 e2;cases Option.some.inj e;exact .cons (Xn R hx e1) (qav R ht e2)
   ·cases e
def eCB (g:List D→Option D) (ma:AM):EM:=fun ρ=>bindR (ma ρ) fun xs ρ1=>match looks ρ1 xs with
 | some as=>oD (g as) ρ1
 | _=>.bad
theorem qkl {g:List D→Option D} {ta:TA} {ma:AM} (ha:Bx K W ta ma):Yx K W (tCB (rDn K g) ta) (eCB g ma):=fun σ G H ρ R Q h=>by
 unfold eCB bindR at h;refine ha.fst R (fun x ρ1 e v G1 H1 S1 R1 x1=>?_) (fun e ρ1 q=>by rw[q]at h;exact h) (fun q=>by rw[q]at h;exact h);rw[e]at h;have h:=EPost.step S1 h;simp only at h;split at h
 ·rename_i a ea;unfold oD at h;split at h
  ·rename_i d hd;exact⟨G1,a,d,R1.same,qav R1 x1 ea,hd,x6.of R1 h⟩
  ·exact h.elim
 ·exact h.elim
def Qr:AM:=fun ρ=>.ok [] ρ
def Qd (ma:EM) (mr:AM):AM:=fun ρ=>bindR (ma ρ) fun x ρ1=>bindR (mr ρ1) fun xs ρ2=>.ok (x::xs) ρ2
theorem qaP:Bx K W tNil Qr:=fun σ G H ρ R Q h=>h [] G H (Stp.refl _ _ _ _) R .nil
theorem qdC {ta:TE} {tr:TA} {ma:EM} {mr:AM} (ha:Yx K W ta ma) (hr:Bx K W tr mr):Bx K W (tCons ta tr) (Qd ma mr):=fun σ G H ρ R Q h=>by
 unfold Qd bindR at h;refine ha.fst R (fun x ρ1 e v G1 H1 S1 R1 x1=>?_) (fun e ρ1 q=>by rw[q]at h;exact h) (fun q=>by rw[q]at h;exact h);rw[e]at h;have h:=Iy.step S1 h;simp only at h;refine hr.fst R1 (fun xs ρ2 e2 us G2 H2 S2 R2 x2=>?_) (fun e ρ1 q=>by rw[q]at h;exact h) (fun q=>by rw[q]at h;exact h);rw[e2]at h;have h:=Iy.step S2 h;exact h (v::us) G2 H2 (Stp.refl _ _ _ _) R2 (.cons (x1.mono S2.g) x2)
theorem Yc {n:Nat} (h:n≤mx):n≤sizeLine:=Nat.le_trans h (by decide)
def Uz (ma:AM):EM:=fun ρ=>bindR (ma ρ) fun xs ρ1=>match fzs ρ1 xs with
 | some (ds,ρ2)=>if ds.length≤mx then .ok (.d (.tup ds)) ρ2 else .bad
 | none=>.bad
theorem qj7 {ta:TA} {ma:AM} (ha:Bx K W ta ma):Yx K W (qh1 ta) (Uz ma):=fun σ G H ρ R Q h=>by
 unfold Uz bindR at h;refine ha.fst R (fun x ρ1 e v G1 H1 S1 R1 x1=>?_) (fun e ρ1 q=>by rw[q]at h;exact h) (fun q=>by rw[q]at h;exact h);rw[e]at h;have h:=EPost.step S1 h;simp only at h;split at h
 ·rename_i ds ρ2 e2;split at h
  ·rename_i hl;obtain⟨G2,S2,R2,q2⟩:=qcZ R1 x1 e2;have h:=EPost.step S2 h;refine⟨by rw[q2.length];exact Yc hl,fun p o ho hp=>?_⟩;have g:=Gro.new (o:=.frz o (.tup v)) R2.same hp;exact h _ _ _ g.stp (R2.gro g) (.tup (.inl ⟨o,upd_same,ho⟩) (q2.mono g.g))
  ·exact h.elim
 ·exact h.elim
def Dz (ma:AM):FM:=fun ρ=>bindR (ma ρ) fun xs ρ1=>match fzs ρ1 xs with
 | some (ds,ρ2)=>if ds.length≤mx then .ok (.lst ds) ρ2 else .bad
 | none=>.bad
theorem Frs.new {σ:St} {G H:Hp} {ρ:Env} {p:Addr} {xs:List V} {ds:List D} (R:Rel K σ G H ρ) (hp:H p=none) (q:DqA K G xs ds):Frs K σ H ρ G (upd H p (.lst xs)) (.ref p) (.lst ds):=by
 refine⟨⟨p,xs,rfl,R.same.free hp,upd_same,q⟩,fun a e=>?_⟩;cases e;refine⟨hp,fun⟨i,l,h1,h2,h3⟩=>?_⟩;obtain⟨v,h4,h5⟩:=R.at_ i l h1;rw[h3]at h4;have h4:V.ref p=v:=Option.some.inj (Option.some.inj h4);subst h4;have own:∀x,MOk K G H (.ref p) x→False:=fun x hm=>by
  obtain⟨a,ea,_,h⟩:=hm.ref;cases ea;exact h hp
 cases l with
 | d x=>cases h2
 | m x=>exact own x h5
 | r x=>exact own x h5
 | p x=>exact own x h5.1
 | xh=>cases h2
 | u _ _=>cases h2
theorem qjY {ta:TA} {ma:AM} (ha:Bx K W ta ma):qbB K W (tLst ta) (Dz ma):=fun σ G H ρ R Q h=>by
 unfold Dz bindR at h;refine ha.fst R (fun x ρ1 e v G1 H1 S1 R1 x1=>?_) (fun e ρ1 q=>by rw[q]at h;exact h) (fun q=>by rw[q]at h;exact h);rw[e]at h;have h:=Tz.step S1 h;simp only at h;split at h
 ·rename_i ds ρ2 e2;split at h
  ·rename_i hl;obtain⟨G2,S2,R2,q2⟩:=qcZ R1 x1 e2;have h:=Tz.step S2 h;refine⟨by rw[q2.length];exact Yc hl,fun p hp=>?_⟩;have g:=Gro.newH (o:=.lst v) R2.same hp;exact h _ _ _ g.stp (R2.gro g) (Frs.new R2 hp q2)
  ·exact h.elim
 ·exact h.elim
def qmf (K:PySem.W.Frag) (G H:Hp) (ds:List D) (Q:VK):Prop:=∀p xs,H p=none→DqA K G xs ds→Q (.ref p) (upd H p (.lst xs))
def rF1 (K:PySem.W.Frag) (g:D→Option (List D)):V→Hp→VK→Prop:=fun x H Q=>∃G a ds,Same G H∧Vw K G H x a∧g a=some ds∧qmf K G H ds Q
theorem qmf.of {σ:St} {G H:Hp} {ρ:Env} {ds:List D} {Q:VK} (R:Rel K σ G H ρ) (h:Tz K W σ G H ρ Q (.ok (.lst ds) ρ)):qmf K G H ds Q:=fun p xs hp q=>by
 have g:=Gro.newH (o:=.lst xs) R.same hp;exact h _ _ _ g.stp (R.gro g) (Frs.new R hp q)
theorem rF1.d {g:D→Option (List D)} {x:V} {H:Hp} {Q:VK} (h:rD1 K (fun a=>(g a).map .lst) x H Q):rF1 K g x H Q:=by
 obtain⟨G,a,d,s,v,e,q⟩:=h;obtain⟨ds,e1,rfl⟩:=Option.map_eq_some_iff.mp e;refine⟨G,a,ds,s,v,e1,fun p xs hp hq=>?_⟩;have g:=Gro.new (o:=.lst xs) s hp;exact q _ _ _ g (.lst upd_same (hq.mono g.g))
abbrev OM:=Env→Res (Option Int)
def qdI (K:Kx) (W:WX) (σ:St) (G H:Hp) (ρ:Env) (Q:Option Int→Hp→Prop):Res (Option Int)→Prop
 | .ok b ρ'=>∀G' H',Stp σ ρ G H σ ρ' G' H'→Rel K σ G' H' ρ'→Q b H'
 | .ex e ρ'=>Wm K W σ G H ρ e ρ'
 | .bad=>False
def qdH (K:Kx) (W:WX) (t:TO) (m:OM):Prop:=∀σ G H ρ,Rel K σ G H ρ→∀Q,qdI K W σ G H ρ Q (m ρ)→t σ H Q
theorem qdI.step {σ:St} {G H G1 H1:Hp} {ρ ρ1:Env} {Q:Option Int→Hp→Prop} (S:Stp σ ρ G H σ ρ1 G1 H1):∀{r:Res (Option Int)},qdI K W σ G H ρ Q r→qdI K W σ G1 H1 ρ1 Q r
 | .ok _ _,h=>fun G' H' S'=>h G' H' (S.trans S')
 | .ex _ _,h=>Wm.step S h
 | .bad,h=>h
theorem qdH.fst {σ:St} {G H:Hp} {ρ:Env} {t:TO} {m:OM} (h:qdH K W t m) (R:Rel K σ G H ρ) {T:Option Int→Hp→Prop}
  (k:∀x ρ1,m ρ=.ok x ρ1→∀G1 H1,Stp σ ρ G H σ ρ1 G1 H1→Rel K σ G1 H1 ρ1→T x H1) (kx:∀e ρ1,m ρ=.ex e ρ1→Wm K W σ G H ρ e ρ1) (kb:m ρ≠.bad):t σ H T:=by
 refine h σ G H ρ R T ?_;cases e:m ρ with
 | ok x ρ1=>exact fun G1 H1 S R=>k x ρ1 e G1 H1 S R
 | ex e' ρ1=>exact kx e' ρ1 e
 | bad=>exact absurd e kb
def qce:OM:=fun ρ=>.ok none ρ
theorem qge:qdH K W tNoPart qce:=fun σ G H ρ R Q h=>h G H (Stp.refl _ _ _ _) R
def E7 (ma:EM):OM:=fun ρ=>bindR (ma ρ) fun x ρ1=>match x with
 | .d (.int i)=>.ok (some i) ρ1
 | _=>.bad
theorem qgd {ta:TE} {ma:EM} (ha:Yx K W ta ma):qdH K W (tPart ta) (E7 ma):=fun σ G H ρ R Q h=>by
 unfold E7 bindR at h;refine ha.fst R (fun x ρ1 e v G1 H1 S1 R1 x1=>?_) (fun e ρ1 q=>by rw[q]at h;exact h) (fun q=>by rw[q]at h;exact h);rw[e]at h;have h:=qdI.step S1 h;simp only at h;split at h
 ·cases x1 with
  | int=>exact⟨_,rfl,h G1 H1 (Stp.refl _ _ _ _) R1⟩
 ·exact h.elim
def rSl (K:PySem.W.Frag) (g:D→Option Int→Option Int→Option D):V→Option Int→Option Int→Hp→VK→Prop:=fun x lo hi H Q=>∃G a d,Same G H∧Vw K G H x a∧g a lo hi=some d∧x6 K G H d Q
def eSl (g:D→Option Int→Option Int→Option D) (ma:EM) (ml mh:OM):EM:=fun ρ=>bindR (ma ρ) fun x ρ1=>bindR (ml ρ1) fun lo ρ2=>bindR (mh ρ2) fun hi ρ3=>match look ρ3 x with
 | some a=>oD (g a lo hi) ρ3
 | none=>.bad
theorem qoy {g:D→Option Int→Option Int→Option D} {ta:TE} {tl th:TO} {ma:EM} {ml mh:OM} (ha:Yx K W ta ma) (hl:qdH K W tl ml) (hh:qdH K W th mh):Yx K W (tSl (rSl K g) ta tl th) (eSl g ma ml mh):=fun σ G H ρ R Q h=>by
 unfold eSl bindR at h;refine ha.fst R (fun x ρ1 e v G1 H1 S1 R1 x1=>?_) (fun e ρ1 q=>by rw[q]at h;exact h) (fun q=>by rw[q]at h;exact h);rw[e]at h;have h:=EPost.step S1 h;simp only at h;refine hl.fst R1 (fun lo ρ2 e2 G2 H2 S2 R2=>?_) (fun e ρ1 q=>by rw[q]at h;exact h) (fun q=>by rw[q]at h;exact h);rw[e2]at h;have h:=EPost.step S2 h;simp only at h;refine hh.fst R2 (fun hi ρ3 e3 G3 H3 S3 R3=>?_) (fun e ρ1 q=>by rw[q]at h;exact h) (fun q=>by rw[q]at h;exact h);rw[e3]at h;have h:=EPost.step S3 h;simp only at h;split at h
 ·rename_i a ea;unfold oD at h;split at h
  ·rename_i d hd;exact⟨G3,a,d,R3.same,Xn R3 ((x1.mono S2.g).mono S3.g) ea,hd,x6.of R3 h⟩
  ·exact h.elim
 ·exact h.elim
def qsu (K:PySem.W.Frag) (ta:TE):TT:=fun σ H Q=>ta σ H fun x H'=>∃k,TruV K x H' k∧Q k H'
def tBl (ma:EM):TM:=fun ρ=>bindR (ma ρ) fun x ρ1=>match x with
 | .d (.bl b)=>.ok b ρ1
 | _=>.bad
theorem qfD {ta:TE} {ma:EM} (ha:Yx K W ta ma):Ee K W (tTest ta) (tBl ma):=fun σ G H ρ R Q h=>by
 unfold tBl bindR at h;refine ha.fst R (fun x ρ1 e v G1 H1 S1 R1 x1=>?_) (fun e ρ1 q=>by rw[q]at h;exact h) (fun q=>by rw[q]at h;exact h);rw[e]at h;have h:=Ia.step S1 h;simp only at h;split at h
 ·cases x1 with
  | bl=>exact⟨_,rfl,h G1 H1 (Stp.refl _ _ _ _) R1⟩
 ·exact h.elim
theorem qpx {ta:TE} {ma:EM} (ha:Yx K W ta ma):Ee K W (tB ta) (tBl ma):=fun σ G H ρ R Q h=>by
 unfold tBl bindR at h;refine ha.fst R (fun x ρ1 e v G1 H1 S1 R1 x1=>?_) (fun e ρ1 q=>by rw[q]at h;exact h) (fun q=>by rw[q]at h;exact h);rw[e]at h;have h:=Ia.step S1 h;simp only at h;split at h
 ·cases x1 with
  | bl=>exact⟨_,rfl,h G1 H1 (Stp.refl _ _ _ _) R1⟩
 ·exact h.elim
def qgw (mt mu:TM):TM:=fun ρ=>bindR (mt ρ) fun b ρ1=>if b=true then mu ρ1 else .ok false ρ1
def mOr (mt mu:TM):TM:=fun ρ=>bindR (mt ρ) fun b ρ1=>if b=true then .ok true ρ1 else mu ρ1
def Ah (mt:TM):TM:=fun ρ=>bindR (mt ρ) fun b ρ1=>.ok (!b) ρ1
theorem qhX {t u:TT} {mt mu:TM} (ht:Ee K W t mt) (hu:Ee K W u mu):Ee K W (tAnd t u) (qgw mt mu):=fun σ G H ρ R Q h=>by
 unfold qgw bindR at h;refine ht.fst R (fun b ρ1 e G1 H1 S1 R1=>?_) (fun e ρ1 q=>by rw[q]at h;exact h) (fun q=>by rw[q]at h;exact h);rw[e]at h;have h:=Ia.step S1 h;simp only at h;split at h
 ·rename_i hb;rw[if_pos hb];exact hu _ _ _ _ R1 _ h
 ·rename_i hb;rw[if_neg hb];exact h G1 H1 (Stp.refl _ _ _ _) R1
theorem qmj {t u:TT} {mt mu:TM} (ht:Ee K W t mt) (hu:Ee K W u mu):Ee K W (tOr t u) (mOr mt mu):=fun σ G H ρ R Q h=>by
 unfold mOr bindR at h;refine ht.fst R (fun b ρ1 e G1 H1 S1 R1=>?_) (fun e ρ1 q=>by rw[q]at h;exact h) (fun q=>by rw[q]at h;exact h);rw[e]at h;have h:=Ia.step S1 h;simp only at h;split at h
 ·rename_i hb;rw[if_pos hb];exact h G1 H1 (Stp.refl _ _ _ _) R1
 ·rename_i hb;rw[if_neg hb];exact hu _ _ _ _ R1 _ h
theorem qhW {t:TT} {mt:TM} (ht:Ee K W t mt):Ee K W (tNot t) (Ah mt):=fun σ G H ρ R Q h=>by
 unfold Ah bindR at h;refine ht.fst R (fun b ρ1 e G1 H1 S1 R1=>?_) (fun e ρ1 q=>by rw[q]at h;exact h) (fun q=>by rw[q]at h;exact h);rw[e]at h;have h:=Ia.step S1 h;exact h G1 H1 (Stp.refl _ _ _ _) R1
def qeI (ma mb:EM):EM:=fun ρ=>bindR (tBl ma ρ) fun b ρ1=>if b=true then mb ρ1 else .ok (.d (.bl false)) ρ1
def qkq (ma:EM):EM:=fun ρ=>bindR (tBl ma ρ) fun b ρ1=>.ok (.d (.bl (!b))) ρ1
theorem qkn {ta tb:TE} {ma mb:EM} (ha:Yx K W ta ma) (hb:Yx K W tb mb):Yx K W (tAndV ta tb) (qeI ma mb):=fun σ G H ρ R Q h=>by
 refine qpx ha σ G H ρ R (fun c H1=>if c=true then tb σ H1 Q else Q (.bl false) H1) ?_;unfold qeI bindR at h;cases e:tBl ma ρ with
 | ok b ρ1=>
  rw[e]at h;intro G1 H1 S1 R1;have h:=EPost.step S1 h;cases b with
  | true=>
   simp only[if_true]at h ⊢;exact hb _ _ _ _ R1 _ h
  | false=>
   simp only[Bool.false_eq_true,if_false]at h ⊢;exact h _ G1 H1 (Stp.refl _ _ _ _) R1 (.bl _)
 | ex x ρ1=>rw[e]at h;exact h
 | bad=>rw[e]at h;exact h
theorem qkc {ta:TE} {ma:EM} (ha:Yx K W ta ma):Yx K W (tNotV ta) (qkq ma):=fun σ G H ρ R Q h=>by
 refine qpx ha σ G H ρ R (fun c H1=>Q (.bl (!c)) H1) ?_;unfold qkq bindR at h;cases e:tBl ma ρ with
 | ok b ρ1=>
  rw[e]at h;intro G1 H1 S1 R1;have h:=EPost.step S1 h;exact h _ G1 H1 (Stp.refl _ _ _ _) R1 (.bl _)
 | ex x ρ1=>rw[e]at h;exact h
 | bad=>rw[e]at h;exact h
variable {K:Kx} {W:WX}
def Bz (ρ:Env) (i:Nat) (l:L):Option Env:=match ρ[i]? with
 | some (some (.r _))=>none
 | some _=>some (ρ.set i (some l))
 | none=>none
section
variable {σ σ1:St} {G H G0 H0:Hp} {ρ ρ0:Env}
theorem Cg {i:Nat} {l:L} {ρ':Env} (h:Bz ρ i l=some ρ'):ρ'=ρ.set i (some l)∧i < ρ.length∧∀x,ρ[i]?≠some (some (.r x)):=by
 unfold Bz at h;split at h
 ·cases h
 ·rename_i o hn ho;cases Option.some.inj h;refine⟨rfl,(List.getElem?_eq_some_iff.mp ho).1,fun x e=>?_⟩;rw[ho]at e;exact hn x (Option.some.inj e)
 ·cases h
theorem Ll {i:Nat} {v:V} {x:D} {ρ':Env} (R:Rel K σ G H ρ) (q:Dq K G v x) (h:Bz ρ i (.d x)=some ρ'):Stp σ ρ G H (σ.set i (some v)) ρ' G H∧Rel K (σ.set i (some v)) G H ρ':=by
 obtain⟨rfl,hi,hr⟩:=Cg h;have hi':i < σ.length:=by rw[R.len];exact hi
 have own:∀{j:Nat} {l:L} {b:Addr},(ρ.set i (some (.d x)))[j]?=some (some l)→l.own=true→(σ.set i (some v))[j]?=some (some (.ref b))→ρ[j]?=some (some l)∧σ[j]?=some (some (.ref b)):=fun {j l b} e1 o e3=>by
  rcases X2 e1 with ⟨rfl,e⟩ | ⟨hne,e⟩
  ·cases Option.some.inj e;cases o
  ·rw[List.getElem?_set_ne hne]at e3;exact⟨e,e3⟩
 refine⟨⟨Same.refl _,fun _ _ h=>.inl h,fun _ _ h _=>h,fun _ h=>h,fun a ⟨j,l,e1,e2,e3⟩=>?_,fun a ⟨j,l,e1,e2,e3⟩=>?_,fun j y e=>?_⟩,⟨R.same,?_,fun j l e=>?_,R.exo,fun j k l l' b hjk e1 e2 o1 o2 e3 e4=>?_⟩⟩
 ·obtain⟨h1,h2⟩:=own e1 e2 e3;exact .inl ⟨j,l,h1,e2,h2⟩
 ·have o:l.own=true:=by cases l<;>first | rfl | cases e2
  obtain⟨h1,h2⟩:=own e1 o e3;exact .inl ⟨j,l,h1,e2,h2⟩
 ·have hne:i≠j:=fun q=>by subst q;exact hr y e
  rw[List.getElem?_set_ne hne,List.getElem?_set_ne hne];exact⟨rfl,y,e⟩
 ·rw[List.length_set,List.length_set];exact R.len
 ·rcases X2 e with ⟨hij,e'⟩ | ⟨hne,e⟩
  ·subst hij;cases Option.some.inj e';exact⟨v,List.getElem?_set_self hi',q⟩
  ·rw[List.getElem?_set_ne hne];exact R.at_ j l e
 ·have hbk:∃c,(σ.set i (some v))[k]?=some (some (V.ref c)):=⟨b,e4⟩;obtain⟨h1,h2⟩:=own e1 o1 e3;obtain⟨h3,h4⟩:=own e2 o2 e4;exact R.sep j k l l' b hjk h1 h3 o1 o2 h2 h4
theorem qfX {i:Nat} {v:V} {x:D} {ρ':Env} (S:Stp σ ρ0 G0 H0 σ ρ G H) (R:Rel K σ G H ρ) (F:Frs K σ H0 ρ G H v x) (h:Bz ρ i (.m x)=some ρ'):Stp σ ρ0 G0 H0 (σ.set i (some v)) ρ' G H∧Rel K (σ.set i (some v)) G H ρ':=by
 obtain⟨rfl,hi,hr⟩:=Cg h;have hi':i < σ.length:=by rw[R.len];exact hi
 obtain⟨hm,hf⟩:=F;obtain⟨a,rfl,ga,ha⟩:=hm.ref;obtain⟨na,no⟩:=hf a rfl;have own:∀{j:Nat} {l:L} {b:Addr},(ρ.set i (some (.m x)))[j]?=some (some l)→(σ.set i (some (.ref a)))[j]?=some (some (.ref b))→(i=j∧b=a)∨(i≠j∧ρ[j]?=some (some l)∧σ[j]?=some (some (.ref b))):=fun {j l b} e1 e3=>by
  rcases X2 e1 with ⟨hij,e⟩ | ⟨hne,e⟩
  ·subst hij;rw[List.getElem?_set_self hi']at e3;cases Option.some.inj (Option.some.inj e3);exact .inl ⟨rfl,rfl⟩
  ·rw[List.getElem?_set_ne hne]at e3;exact .inr ⟨hne,e,e3⟩
 refine⟨⟨S.g,S.gf,S.fr,S.hn,fun b ⟨j,l,e1,e2,e3⟩=>?_,fun b ⟨j,l,e1,e2,e3⟩=>?_,fun j y e=>?_⟩,⟨R.same,?_,fun j l e=>?_,R.exo,fun j k l l' b hjk e1 e2 o1 o2 e3 e4=>?_⟩⟩
 ·rcases own e1 e3 with ⟨_,rfl⟩ | ⟨_,h1,h2⟩
  ·exact .inr na
  ·exact S.ow b ⟨j,l,h1,e2,h2⟩
 ·rcases own e1 e3 with ⟨_,rfl⟩ | ⟨_,h1,h2⟩
  ·exact .inr na
  ·exact S.om b ⟨j,l,h1,e2,h2⟩
 ·obtain⟨p1,z,p2⟩:=S.pin j y e;have hne:i≠j:=fun q=>by subst q;exact hr z p2
  rw[List.getElem?_set_ne hne,List.getElem?_set_ne hne];exact⟨p1,z,p2⟩
 ·rw[List.length_set,List.length_set];exact R.len
 ·rcases X2 e with ⟨hij,e'⟩ | ⟨hne,e⟩
  ·subst hij;cases Option.some.inj e';exact⟨_,List.getElem?_set_self hi',hm⟩
  ·rw[List.getElem?_set_ne hne];exact R.at_ j l e
 ·rcases own e1 e3 with ⟨q1,rfl⟩ | ⟨_,h1,h2⟩
  ·rcases own e2 e4 with ⟨q2,_⟩ | ⟨_,h3,h4⟩
   ·exact hjk (q1.symm.trans q2)
   ·exact no ⟨k,l',h3,o2,h4⟩
  ·rcases own e2 e4 with ⟨q2,rfl⟩ | ⟨_,h3,h4⟩
   ·exact no ⟨j,l,h1,o1,h2⟩
   ·exact R.sep j k l l' b hjk h1 h3 o1 o2 h2 h4
theorem L.qbW (l:L) (x:D):(l.put x).ism=l.ism:=by cases l<;>rfl
theorem jb {i:Nat} {l:L} {a:Addr} {o:HO} {x':D} (R:Rel K σ G H ρ) (hl:ρ[i]?=some (some l)) (ho:l.own=true) (hv:σ[i]?=some (some (.ref a))) (hm:MOk K G (upd H a o) (.ref a) x') :
  Stp σ ρ G H σ (ρ.set i (some (l.put x'))) G (upd H a o)∧Rel K σ G (upd H a o) (ρ.set i (some (l.put x'))):=by
 have hi:i < ρ.length:=(List.getElem?_eq_some_iff.mp hl).1;obtain⟨b,eb,ga,_⟩:=hm.ref;cases eb;have own:∀{j:Nat} {l':L} {b:Addr},(ρ.set i (some (l.put x')))[j]?=some (some l')→σ[j]?=some (some (.ref b))→(i=j∧l'=l.put x'∧b=a)∨(i≠j∧ρ[j]?=some (some l')):=fun {j l' b} e1 e3=>by
  rcases X2 e1 with ⟨hij,e⟩ | ⟨hne,e⟩
  ·subst hij;rw[hv]at e3;cases Option.some.inj (Option.some.inj e3);exact .inl ⟨rfl,(Option.some.inj e).symm,rfl⟩
  ·exact .inr ⟨hne,e⟩
 refine⟨⟨Same.refl _,fun _ _ h=>.inl h,fun b u e n=>?_,fun b e=>?_,fun b ⟨j,l',e1,e2,e3⟩=>?_,fun b ⟨j,l',e1,e2,e3⟩=>?_,fun j y e=>?_⟩,⟨fun b u e=>?_,?_,fun j l' e=>?_,R.exo,fun j k l1 l2 b hjk e1 e2 o1 o2 e3 e4=>?_⟩⟩
 ·have nb:b≠a:=fun q=>by subst q;exact n ⟨i,l,hl,ho,hv⟩
  rw[upd_ne nb];exact e
 ·by_cases q:b=a
  ·subst q;rw[upd_same];exact fun z=>nomatch z
  ·rw[upd_ne q];exact e
 ·rcases own e1 e3 with ⟨rfl,rfl,rfl⟩ | ⟨_,h1⟩
  ·exact .inl ⟨i,l,hl,ho,hv⟩
  ·exact .inl ⟨j,l',h1,e2,e3⟩
 ·rcases own e1 e3 with ⟨rfl,rfl,rfl⟩ | ⟨_,h1⟩
  ·rw[L.qbW]at e2;exact .inl ⟨i,l,hl,e2,hv⟩
  ·exact .inl ⟨j,l',h1,e2,e3⟩
 ·refine⟨rfl,?_⟩;by_cases q:i=j
  ·subst q;rw[hl]at e;cases Option.some.inj (Option.some.inj e);exact⟨x',List.getElem?_set_self hi⟩
  ·rw[List.getElem?_set_ne q];exact⟨y,e⟩
 ·by_cases q:b=a
  ·subst q;rw[ga]at e;cases e
  ·rw[upd_ne q];exact R.same b u e
 ·rw[List.length_set];exact R.len
 ·rcases X2 e with ⟨hij,e'⟩ | ⟨hne,e⟩
  ·subst hij;cases Option.some.inj e';refine⟨_,hv,?_⟩;cases l with
   | d _=>cases ho
   | m _=>exact hm
   | r _=>exact hm
   | p _=>
    obtain⟨u,e1,e2⟩:=R.at_ i _ hl;rw[hv]at e1;cases Option.some.inj (Option.some.inj e1);exact⟨hm,e2.2⟩
   | xh=>cases ho
   | u _ _=>cases ho
  ·obtain⟨u,e1,e2⟩:=R.at_ j l' e;refine⟨u,e1,?_⟩;have ow:∀y,l'.own=true→MOk K G H u y→MOk K G (upd H a o) u y:=fun y ol hm=>by
    refine hm.mono (Same.refl _) fun c ec=>?_;subst ec;obtain⟨c',ec',gc,_⟩:=hm.ref;cases ec';refine⟨gc,fun u eu=>?_⟩;have nc:c≠a:=fun q=>by
     subst q;exact R.sep i j _ _ c hne hl e ho ol hv e1
    rw[upd_ne nc];exact eu
   cases l' with
   | d y=>exact e2
   | m y=>exact ow y rfl e2
   | r y=>exact ow y rfl e2
   | p y=>exact⟨ow y rfl e2.1,e2.2⟩
   | xh=>exact e2
   | u _ _=>exact e2
 ·rcases own e1 e3 with ⟨q1,rfl,rfl⟩ | ⟨h0,h1⟩
  ·rcases own e2 e4 with ⟨q2,_,_⟩ | ⟨h2,h3⟩
   ·exact hjk (q1.symm.trans q2)
   ·exact R.sep i k l l2 b h2 hl h3 ho o2 hv e4
  ·rcases own e2 e4 with ⟨q2,rfl,rfl⟩ | ⟨h2,h3⟩
   ·exact R.sep i j l l1 b h0 hl h1 ho o1 hv e3
   ·exact R.sep j k l1 l2 b hjk h1 h3 o1 o2 e3 e4
theorem xc {i:Nat} (R:Rel K σ G H ρ) (hr:∀x,ρ[i]?≠some (some (.r x))):Stp σ ρ G H σ (ρ.set i none) G H∧Rel K σ G H (ρ.set i none):=by
 have own:∀{j:Nat} {l:L},(ρ.set i none)[j]?=some (some l)→ρ[j]?=some (some l):=fun {j l} e1=>by
  rcases X2 e1 with ⟨_,e⟩ | ⟨_,e⟩
  ·cases e
  ·exact e
 refine⟨⟨Same.refl _,fun _ _ h=>.inl h,fun _ _ h _=>h,fun _ h=>h,fun a ⟨j,l,e1,e2,e3⟩=>.inl ⟨j,l,own e1,e2,e3⟩,fun a ⟨j,l,e1,e2,e3⟩=>.inl ⟨j,l,own e1,e2,e3⟩,fun j y e=>⟨rfl,y,?_⟩⟩,⟨R.same,by rw[List.length_set];exact R.len,fun j l e=>R.at_ j l (own e),R.exo,fun j k l l' b hjk e1 e2 o1 o2=>R.sep j k l l' b hjk (own e1) (own e2) o1 o2⟩⟩;have hne:i≠j:=fun q=>by subst q;exact hr y e
 rw[List.getElem?_set_ne hne];exact e
end
def uN:D→Bool
 | .ro _=>false
 | _=>true
def qpk (d:D) (va vb:V):List V:=if uN d=true then [va,vb] else [vb,va]
def qmi:D→D
 | .ro [d]=>d
 | d=>d
def qdQ (K:Kx) (σ:St) (ρ:Env) (H G' H':Hp) (v:V):L→Prop
 | .d x=>Dq K G' v x
 | .m x=>MOk K G' H' v x∧∀a,v=.ref a→H a=none∨Bq σ ρ a
 | .u d x=>∃t va vb,v=.ref t∧SqN K.k G' t (qpk d va vb)∧Dq K.k G' va (qmi d)∧MOk K G' H' vb x∧∀a,vb=.ref a→H a=none∨Bq σ ρ a
 | _=>False
def J0 (K:Kx) (W:WX) (σ:St) (G H:Hp) (ρ:Env) (D:Ends):Res Fl→Prop
 | .ok .nx ρ'=>∀σ' G' H',Stp σ ρ G H σ' ρ' G' H'→Rel K σ' G' H' ρ'→D.nx σ' H'
 | .ok .bk ρ'=>∀σ' G' H',Stp σ ρ G H σ' ρ' G' H'→Rel K σ' G' H' ρ'→D.bk σ' H'
 | .ok .ct ρ'=>∀σ' G' H',Stp σ ρ G H σ' ρ' G' H'→Rel K σ' G' H' ρ'→D.ct σ' H'
 | .ok (.rt l) ρ'=>∀σ' v G' H',Stp σ ρ G H σ' ρ' G' H'→Rel K σ' G' H' ρ'→qdQ K σ ρ H G' H' v l→D.rt v H'
 | .ex e ρ'=>∀c d σ' G' H',Stp σ ρ G H σ' ρ' G' H'→Rel K σ' G' H' ρ'→ExOk K G' c d e→W c d σ' H'
 | .bad=>False
def Di (K:Kx) (W:WX) (t:TS) (m:SM):Prop:=∀σ G H ρ,Rel K σ G H ρ→∀D,J0 K W σ G H ρ D (m ρ)→t D σ H
section
variable {σ σ1:St} {G H G1 H1:Hp} {ρ ρ1:Env} {D:Ends}
theorem Stp.backS (S:Stp σ ρ G H σ1 ρ1 G1 H1) {a:Addr} (h:H1 a=none):H a=none:=by
 cases e:H a with
 | none=>rfl
 | some u=>exact absurd h (S.hn a (by rw[e];exact fun q=>nomatch q))
theorem qdQ.step {G' H':Hp} {v:V} (S:Stp σ ρ G H σ1 ρ1 G1 H1):∀{l:L},qdQ K σ1 ρ1 H1 G' H' v l→qdQ K σ ρ H G' H' v l
 | .d _,h=>h
 | .m _,h=>⟨h.1,fun a e=>(h.2 a e).elim (fun z=>.inl (S.backS z)) fun z=>(S.om a z).elim .inr .inl⟩
 | .r _,h=>h
 | .p _,h=>h
 | .xh,h=>h
 | .u _ _,⟨t,va,vb,h1,h2,h3,h4,h5⟩=>⟨t,va,vb,h1,h2,h3,h4,fun a e=>(h5 a e).elim (fun z=>.inl (S.backS z)) fun z=>(S.om a z).elim .inr .inl⟩
theorem J0.step (S:Stp σ ρ G H σ1 ρ1 G1 H1):∀{r:Res Fl},J0 K W σ G H ρ D r→J0 K W σ1 G1 H1 ρ1 D r
 | .ok .nx _,h=>fun σ' G' H' S'=>h σ' G' H' (S.trans S')
 | .ok .bk _,h=>fun σ' G' H' S'=>h σ' G' H' (S.trans S')
 | .ok .ct _,h=>fun σ' G' H' S'=>h σ' G' H' (S.trans S')
 | .ok (.rt _) _,h=>fun σ' v G' H' S' R' q=>h σ' v G' H' (S.trans S') R' (qdQ.step S q)
 | .ex _ _,h=>fun c d σ' G' H' S'=>h c d σ' G' H' (S.trans S')
 | .bad,h=>h
theorem J0.x {e:Exn} {ρ':Env} (h:J0 K W σ G H ρ D (.ex e ρ')):Wm K W σ G H ρ e ρ':=fun c d G' H' S R q=>h c d σ G' H' S R q
end
def Q2:SM:=fun ρ=>.ok .nx ρ
theorem qh9:Di K W tNext Q2:=fun σ G H ρ R D h=>h σ G H (Stp.refl _ _ _ _) R
def qk3:SM:=fun ρ=>.ok .bk ρ
theorem qic:Di K W tBreak qk3:=fun σ G H ρ R D h=>h σ G H (Stp.refl _ _ _ _) R
def Qo (m n:SM):SM:=fun ρ=>match m ρ with
 | .ok .nx ρ1=>n ρ1
 | r=>r
theorem qh7 {t u:TS} {m n:SM} (ht:Di K W t m) (hu:Di K W u n):Di K W (tSeq t u) (Qo m n):=fun σ G H ρ R D h=>by
 refine ht σ G H ρ R { D with nx:=u D } ?_;unfold Qo at h;cases e:m ρ with
 | bad=>rw[e]at h;exact h
 | ex x ρ1=>rw[e]at h;exact h
 | ok f ρ1=>
  rw[e]at h;cases f with
  | nx=>exact fun σ' G' H' S' R'=>hu σ' G' H' ρ1 R' D (J0.step S' h)
  | bk=>exact h
  | ct=>exact h
  | rt l=>exact h
def sIf (c:TM) (m n:SM):SM:=fun ρ=>bindR (c ρ) fun b ρ1=>if b=true then m ρ1 else n ρ1
theorem qmr {tc:TT} {t u:TS} {c:TM} {m n:SM} (hc:Ee K W tc c) (ht:Di K W t m) (hu:Di K W u n):Di K W (tIfS tc t u) (sIf c m n):=fun σ G H ρ R D h=>by
 unfold sIf bindR at h;refine hc.fst R (fun b ρ1 e G1 H1 S1 R1=>?_) (fun e ρ1 q=>by rw[q]at h;exact J0.x h) (fun q=>by rw[q]at h;exact h);rw[e]at h;have h:=J0.step S1 h;simp only at h;split at h
 ·rename_i hb;rw[if_pos hb];exact ht _ _ _ _ R1 _ h
 ·rename_i hb;rw[if_neg hb];exact hu _ _ _ _ R1 _ h
def K3 (m:EM):SM:=fun ρ=>bindR (m ρ) fun _ ρ1=>.ok .nx ρ1
theorem qfR {t:TE} {m:EM} (ht:Yx K W t m):Di K W (tDrop t) (K3 m):=fun σ G H ρ R D h=>by
 unfold K3 bindR at h;refine ht.fst R (fun b ρ1 e v G1 H1 S1 R1 x1=>?_) (fun e ρ1 q=>by rw[q]at h;exact J0.x h) (fun q=>by rw[q]at h;exact h);rw[e]at h;have h:=J0.step S1 h;exact h σ G1 H1 (Stp.refl _ _ _ _) R1
def J9 (m:EM):SM:=fun ρ=>bindR (m ρ) fun x ρ1=>match x with
 | .d x=>.ok (.rt (.d x)) ρ1
 | .s i=>match ρ1[i]? with
  | some (some (.m x))=>.ok (.rt (.m x)) (ρ1.set i none)
  | some (some (.d x))=>.ok (.rt (.d x)) ρ1
  | _=>.bad
theorem qh8 {t:TE} {m:EM} (ht:Yx K W t m):Di K W (tRet t) (J9 m):=fun σ G H ρ R D h=>by
 unfold J9 bindR at h;refine ht.fst R (fun b ρ1 e v G1 H1 S1 R1 x1=>?_) (fun e ρ1 q=>by rw[q]at h;exact J0.x h) (fun q=>by rw[q]at h;exact h);rw[e]at h;have h:=J0.step S1 h;cases b with
 | d y=>exact h σ v G1 H1 (Stp.refl _ _ _ _) R1 x1
 | s i=>
  have hv:σ[i]?=some (some v):=x1;simp only at h;split at h
  ·rename_i x hx;obtain⟨u,h1,h2⟩:=R1.at_ i _ hx;rw[hv]at h1;cases Option.some.inj (Option.some.inj h1);obtain⟨S2,R2⟩:=xc (i:=i) R1 fun y q=>by rw[hx]at q;cases q
   refine h σ v G1 H1 S2 R2 ⟨h2,fun a ea=>?_⟩;subst ea;exact .inr ⟨i,_,hx,rfl,hv⟩
  ·rename_i x hx;obtain⟨u,h1,h2⟩:=R1.at_ i _ hx;rw[hv]at h1;cases Option.some.inj (Option.some.inj h1);exact h σ v G1 H1 (Stp.refl _ _ _ _) R1 h2
  ·exact h.elim
def qaY (m:FM):SM:=fun ρ=>bindR (m ρ) fun x ρ1=>.ok (.rt (.m x)) ρ1
theorem qfP {t:TE} {m:FM} (ht:qbB K W t m):Di K W (tRet t) (qaY m):=fun σ G H ρ R D h=>by
 unfold qaY bindR at h;refine ht.fst R (fun b ρ1 e v G1 H1 S1 R1 F=>?_) (fun e ρ1 q=>by rw[q]at h;exact J0.x h) (fun q=>by rw[q]at h;exact h);rw[e]at h;exact h σ v G1 H1 S1 R1 ⟨F.1,fun a ea=>.inl (F.2 a ea).1⟩
abbrev GM:=D→Env→Option Env
structure Tg (js:List Nat) (σ σ':St) (ρ ρ':Env):Prop where
 len:σ'.length=σ.length
 out:∀i,i∉js→σ'[i]?=σ[i]?
 oue:∀i,i∉js→ρ'[i]?=ρ[i]?
 own:∀(i:Nat) (l:L),ρ'[i]?=some (some l)→l.own=true→ρ[i]?=some (some l)
theorem Tg.refl (js:List Nat) (σ:St) (ρ:Env):Tg js σ σ ρ ρ:=⟨rfl,fun _ _=>rfl,fun _ _=>rfl,fun _ _ h _=>h⟩
theorem Tg.trans {js ks:List Nat} {σ σ1 σ2:St} {ρ ρ1 ρ2:Env} (a:Tg js σ σ1 ρ ρ1) (b:Tg ks σ1 σ2 ρ1 ρ2):Tg (js++ks) σ σ2 ρ ρ2:=
 ⟨b.len.trans a.len,fun i h=>(b.out i fun z=>h (List.mem_append_right _ z)).trans (a.out i fun z=>h (List.mem_append_left _ z)),
  fun i h=>(b.oue i fun z=>h (List.mem_append_right _ z)).trans (a.oue i fun z=>h (List.mem_append_left _ z)),fun i l h o=>a.own i l (b.own i l h o) o⟩
def GOk (K:Kx) (js:List Nat) (g:TG) (gm:GM):Prop:=∀σ G H ρ v d ρ',Rel K σ G H ρ→Dq K G v d→gm d ρ=some ρ'→
 ∀Q:St→Hp→Prop,(∀σ',Tg js σ σ' ρ ρ'→Stp σ ρ G H σ' ρ' G H→Rel K σ' G H ρ'→Q σ' H)→g v σ H Q
def Qg (i:Nat):GM:=fun d ρ=>Bz ρ i (.d d)
theorem Uy (i:Nat):GOk K [i] (gName i) (Qg i):=fun σ G H ρ v d ρ' R q e Q h=>by
 obtain⟨S,R'⟩:=Ll R q e;obtain⟨e',_,hr⟩:=Cg e;refine h _ ⟨List.length_set,fun j hj=>List.getElem?_set_ne (fun z=>hj (by rw[z];exact List.mem_singleton.mpr rfl)),fun j hj=>?_,fun j l hj ho=>?_⟩ S R'
 ·rw[e'];exact List.getElem?_set_ne (fun z=>hj (by rw[z];exact List.mem_singleton.mpr rfl))
 ·rw[e']at hj;rcases X2 hj with ⟨_,e⟩ | ⟨_,e⟩
  ·cases Option.some.inj e;cases ho
  ·exact e
abbrev GMs:=List D→Env→Option Env
def qhQ (K:Kx) (js:List Nat) (g:TGs) (gm:GMs):Prop:=∀σ G H ρ vs ds ρ',Rel K σ G H ρ→DqA K G vs ds→gm ds ρ=some ρ'→
 ∀Q:St→Hp→Prop,(∀σ',Tg js σ σ' ρ ρ'→Stp σ ρ G H σ' ρ' G H→Rel K σ' G H ρ'→Q σ' H)→g vs σ H Q
def Wl:GMs:=fun ds ρ=>match ds with
 | []=>some ρ
 | _=>none
def Q3 (g:GM) (gs:GMs):GMs:=fun ds ρ=>match ds with
 | d::ds=>(match g d ρ with
  | some ρ1=>gs ds ρ1
  | none=>none)
 | []=>none
theorem qcS:qhQ K [] gNil Wl:=fun σ G H ρ vs ds ρ' R q e Q h=>by
 cases q with
 | nil=>
  cases Option.some.inj e;exact⟨rfl,h σ (Tg.refl _ _ _) (Stp.refl _ _ _ _) R⟩
 | cons _ _=>cases e
theorem Bh {js ks:List Nat} {g:TG} {gs:TGs} {gm:GM} {gms:GMs} (hg:GOk K js g gm) (hs:qhQ K ks gs gms):qhQ K (js++ks) (gCons g gs) (Q3 gm gms):=fun σ G H ρ vs ds ρ' R q e Q h=>by
 cases q with
 | nil=>cases e
 | cons q1 q2=>
  unfold Q3 at e;simp only at e;split at e
  ·rename_i ρ1 e1;refine⟨_,_,rfl,hg _ _ _ _ _ _ _ R q1 e1 _ fun σ1 T1 S1 R1=>?_⟩;refine hs _ _ _ _ _ _ _ R1 q2 e _ fun σ2 T2 S2 R2=>?_;exact h σ2 (T1.trans T2) (S1.trans S2) R2
  ·cases e
def K7 (n:Nat) (gs:GMs):GM:=fun d ρ=>match d with
 | .tup ds=>if ds.length=n then gs ds ρ else none
 | _=>none
theorem qcT {js:List Nat} {n:Nat} {gs:TGs} {gms:GMs} (hs:qhQ K js gs gms):GOk K js (gTup K n gs) (K7 n gms):=fun σ G H ρ v d ρ' R q e Q h=>by
 unfold K7 at e;split at e
 ·rename_i ds;split at e
  ·rename_i hl;cases q with
   | tup hq qa=>
    exact⟨_,_,rfl,(Same.seqN R.same hq).sq,by rw[qa.length];exact hl,hs _ _ _ _ _ _ _ R qa e Q h⟩
  ·cases e
 ·cases e
def Jm (gm:GM) (m:EM):SM:=fun ρ=>bindR (m ρ) fun x ρ1=>match fz ρ1 x with
 | some (d,ρ2)=>(match gm d ρ2 with
  | some ρ3=>.ok .nx ρ3
  | none=>.bad)
 | none=>.bad
theorem qbM {js:List Nat} {t:TE} {g:TG} {m:EM} {gm:GM} (ht:Yx K W t m) (hg:GOk K js g gm):Di K W (tAsg t g) (Jm gm m):=fun σ G H ρ R D h=>by
 unfold Jm bindR at h;refine ht.fst R (fun x ρ1 e v G1 H1 S1 R1 x1=>?_) (fun e ρ1 q=>by rw[q]at h;exact J0.x h) (fun q=>by rw[q]at h;exact h);rw[e]at h;have h:=J0.step S1 h;simp only at h;split at h
 ·rename_i d ρ2 e2;obtain⟨G2,S2,R2,q2⟩:=Bk R1 x1 e2;have h:=J0.step S2 h;split at h
  ·rename_i ρ3 e3;exact hg _ _ _ _ _ _ _ R2 q2 e3 _ fun σ' T S R'=>h σ' G2 H1 S R'
  ·exact h.elim
 ·exact h.elim
def Pp (i:Nat) (m:FM):SM:=fun ρ=>bindR (m ρ) fun x ρ1=>match Bz ρ1 i (.m x) with
 | some ρ2=>.ok .nx ρ2
 | none=>.bad
theorem qfS {i:Nat} {t:TE} {m:FM} (ht:qbB K W t m):Di K W (tAsg t (gName i)) (Pp i m):=fun σ G H ρ R D h=>by
 unfold Pp bindR at h;refine ht.fst R (fun x ρ1 e v G1 H1 S1 R1 F=>?_) (fun e ρ1 q=>by rw[q]at h;exact J0.x h) (fun q=>by rw[q]at h;exact h);rw[e]at h;simp only at h;split at h
 ·rename_i ρ2 e2;obtain⟨S2,R2⟩:=qfX S1 R1 F e2;exact h _ G1 H1 S2 R2
 ·exact h.elim
def qdN (i:Nat) (g:D→D→Option D) (m:EM):SM:=fun ρ=>match ρ[i]? with
 | some (some (.d a))=>bindR (m ρ) fun y ρ1=>(match look ρ1 y with
  | some b=>(match g a b with
   | some d=>(match Bz ρ1 i (.d d) with
    | some ρ2=>.ok .nx ρ2
    | none=>.bad)
   | none=>.bad)
  | none=>.bad)
 | _=>.bad
theorem qid {i:Nat} {g:D→D→Option D} {t:TE} {m:EM} (ht:Yx K W t m):Di K W (tAug i t (rD2 K g)) (qdN i g m):=fun σ G H ρ R D h=>by
 unfold qdN at h;split at h
 ·rename_i a ha;obtain⟨v,h1,h2⟩:=R.at_ i _ ha;have h2:Dq K G v a:=h2;refine⟨v,h1,?_⟩;unfold bindR at h;refine ht.fst R (fun x ρ1 e u G1 H1 S1 R1 x1=>?_) (fun e ρ1 q=>by rw[q]at h;exact J0.x h) (fun q=>by rw[q]at h;exact h);rw[e]at h;have h:=J0.step S1 h;simp only at h;split at h
  ·rename_i b eb;split at h
   ·rename_i d hd;refine⟨G1,a,b,d,R1.same,Dq.vw R1.same (h2.mono S1.g),Xn R1 x1 eb,hd,fun w G' H' g q=>?_⟩;have h:=J0.step (g.stp (σ:=σ) (ρ:=ρ1)) h;split at h
    ·rename_i ρ2 e2;obtain⟨S3,R3⟩:=Ll (R1.gro g) q e2;exact h _ _ _ S3 R3
    ·exact h.elim
   ·exact h.elim
  ·exact h.elim
 ·exact h.elim
def qa7 (ρ:Env) (i:Nat):Option (L×List D):=match ρ[i]? with
 | some (some (.m (.lst ds)))=>some (.m (.lst ds),ds)
 | some (some (.r (.lst ds)))=>some (.r (.lst ds),ds)
 | some (some (.p (.lst ds)))=>some (.p (.lst ds),ds)
 | _=>none
theorem Lv {σ:St} {G H:Hp} {ρ:Env} {i:Nat} {l:L} {ds:List D} (R:Rel K σ G H ρ) (h:qa7 ρ i=some (l,ds)) :
  ρ[i]?=some (some l)∧l.own=true∧∃a xs,σ[i]?=some (some (.ref a))∧G a=none∧H a=some (.lst xs)∧DqA K G xs ds:=by
 unfold qa7 at h;split at h
 ·rename_i es he;cases Option.some.inj h;obtain⟨v,h1,h2⟩:=R.at_ i _ he;obtain⟨a,xs,rfl,h3,h4,h5⟩:=(show MOk K G H v (.lst ds) from h2);exact⟨he,rfl,a,xs,h1,h3,h4,h5⟩
 ·rename_i es he;cases Option.some.inj h;obtain⟨v,h1,h2⟩:=R.at_ i _ he;obtain⟨a,xs,rfl,h3,h4,h5⟩:=(show MOk K G H v (.lst ds) from h2);exact⟨he,rfl,a,xs,h1,h3,h4,h5⟩
 ·rename_i es he;cases Option.some.inj h;obtain⟨v,h1,h2⟩:=R.at_ i _ he;obtain⟨a,xs,rfl,h3,h4,h5⟩:=(show MOk K G H v (.lst ds) from h2.1);exact⟨he,rfl,a,xs,h1,h3,h4,h5⟩
 ·cases h
theorem Cf {n:Nat} (h:n<mx):n<sizeLine:=Nat.lt_of_lt_of_le h (by decide)
def Fg (i:Nat) (m:EM):EM:=fun ρ=>if (qa7 ρ i).isSome=true then bindR (m ρ) fun x ρ1=>match fz ρ1 x with
 | some (d,ρ2)=>(match qa7 ρ2 i with
  | some (l,ds)=>if ds.length<mx then .ok (.d .non) (ρ2.set i (some (l.put (.lst (ds++[d]))))) else .bad
  | none=>.bad)
 | none=>.bad
 else .bad
theorem ty_list {a:Addr} {xs:List V} {H:Hp} (h:H a=some (.lst xs)):tyV K "list" (.ref a) H:=.inl ⟨rfl,xs,.inl (.inl h)⟩
theorem qkm {i:Nat} {t:TE} {m:EM} (ht:Yx K W t m):Yx K W (tBM K "list" rAppend (tVar i) (tCons t tNil)) (Fg i m):=fun σ G H ρ R Q h=>by
 unfold Fg at h;split at h
 ·rename_i hh;obtain⟨⟨l0,ds0⟩,hl0⟩:=Option.isSome_iff_exists.mp hh;obtain⟨_,_,a,xs,hv,_,hH,_⟩:=Lv R hl0;refine⟨_,hv,ty_list hH,?_⟩;unfold bindR at h;refine ht.fst R (fun x ρ1 e v G1 H1 S1 R1 x1=>?_) (fun e ρ1 q=>by rw[q]at h;exact h) (fun q=>by rw[q]at h;exact h);rw[e]at h;have h:=EPost.step S1 h;simp only at h;split at h
  ·rename_i d ρ2 e2;obtain⟨G2,S2,R2,q2⟩:=Bk R1 x1 e2;have h:=EPost.step S2 h;split at h
   ·rename_i l ds hl;split at h
    ·rename_i hz;obtain⟨k1,k2,b,ys,kv,kG,kH,kq⟩:=Lv R2 hl;rw[hv]at kv;cases Option.some.inj (Option.some.inj kv);refine⟨a,ys,v,rfl,rfl,kH,by rw[kq.length];exact Cf hz,?_⟩;obtain⟨S3,R3⟩:=jb (x':=.lst (ds++[d])) (o:=.lst (ys++[v])) R2 k1 k2 hv ⟨a,_,rfl,kG,upd_same,kq.append (.one q2)⟩;exact h _ _ _ S3 R3 .non
    ·exact h.elim
   ·exact h.elim
  ·exact h.elim
 ·exact h.elim
def qdh (i:Nat):EM:=fun ρ=>match qa7 ρ i with
 | some (l,ds)=>(match ds.getLast? with
  | some d=>.ok (.d d) (ρ.set i (some (l.put (.lst ds.dropLast))))
  | none=>.bad)
 | none=>.bad
theorem qka {i:Nat}:Yx K W (tBM0 K "list" rPop (tVar i)) (qdh i):=fun σ G H ρ R Q h=>by
 unfold qdh at h;split at h
 ·rename_i l ds hl;obtain⟨k1,k2,a,ys,hv,kG,kH,kq⟩:=Lv R hl;split at h
  ·rename_i d hd;rw[List.getLast?_eq_getElem?]at hd;obtain⟨v,h1,h2⟩:=kq.get hd;refine⟨_,hv,ty_list kH,a,ys,v,rfl,rfl,kH,by rw[kq.length];exact h1,?_⟩;obtain⟨S3,R3⟩:=jb (x':=.lst ds.dropLast) (o:=.lst ys.dropLast) R k1 k2 hv ⟨a,_,rfl,kG,upd_same,kq.dropLast⟩;exact h _ _ _ S3 R3 h2
  ·exact h.elim
 ·exact h.elim
def qrV (i:Nat) (m:EM):EM:=fun ρ=>if (qa7 ρ i).isSome=true then bindR (m ρ) fun x ρ1=>match x,qa7 ρ1 i with
 | .d (.int j),some (l,ds)=>if -(2 ^ 63)≤j∧j<2 ^ 63 then (match seqIndex? j ds.length with
  | some k=>(match ds[k]? with
   | some d=>.ok (.d d) (ρ1.set i (some (l.put (.lst (ds.eraseIdx k)))))
   | none=>.bad)
  | none=>.bad) else .bad
 | _,_=>.bad
 else .bad
def Ep (i:Nat) (mi mv:EM):SM:=fun ρ=>bindR (mv ρ) fun x ρ1=>match fz ρ1 x with
 | some (d,ρ2)=>if (qa7 ρ2 i).isSome=true then bindR (mi ρ2) fun y ρ3=>(match y,qa7 ρ3 i with
  | .d (.int j),some (l,ds)=>(match ixN ds.length j with
   | some k=>.ok .nx (ρ3.set i (some (l.put (.lst (ds.set k d)))))
   | none=>.bad)
  | _,_=>.bad) else .bad
 | none=>.bad
theorem qfN {i:Nat} {tv ti:TE} {mv mi:EM} (hv:Yx K W tv mv) (hi:Yx K W ti mi):Di K W (tAsg tv (gSub (tVar i) ti rSetL)) (Ep i mi mv):=fun σ G H ρ R D h=>by
 unfold Ep bindR at h;refine hv.fst R (fun x ρ1 e v G1 H1 S1 R1 x1=>?_) (fun e ρ1 q=>by rw[q]at h;exact J0.x h) (fun q=>by rw[q]at h;exact h);rw[e]at h;have h:=J0.step S1 h;simp only at h;split at h
 ·rename_i d ρ2 e2;obtain⟨G2,S2,R2,q2⟩:=Bk R1 x1 e2;have h:=J0.step S2 h;split at h
  ·rename_i hh;obtain⟨⟨l0,ds0⟩,hl0⟩:=Option.isSome_iff_exists.mp hh;obtain⟨_,_,a,xs,hv,_,_,_⟩:=Lv R2 hl0;refine⟨_,hv,?_⟩;refine hi.fst R2 (fun y ρ3 e3 u G3 H3 S3 R3 x3=>?_) (fun e ρ1 q=>by rw[q]at h;exact J0.x h) (fun q=>by rw[q]at h;exact h);rw[e3]at h;have h:=J0.step S3 h;simp only at h;rcases hl:qa7 ρ3 i with _ | ⟨l,ds⟩
   ·rw[hl]at h;cases y with
    | s _=>exact h.elim
    | d z=>cases z<;>exact h.elim
   rw[hl]at h;cases y with
   | s _=>exact h.elim
   | d z=>
    cases z<;>first | exact h.elim | skip
    simp only at h;split at h
    ·rename_i k hk;obtain⟨k1,k2,b,ys,kv,kG,kH,kq⟩:=Lv R3 hl;rw[hv]at kv;cases Option.some.inj (Option.some.inj kv);cases x3;refine⟨a,ys,_,k,rfl,rfl,kH,by rw[kq.length];exact hk,?_⟩;obtain⟨S4,R4⟩:=jb (x':=.lst (ds.set k d)) (o:=.lst (ys.set k v)) R3 k1 k2 hv ⟨a,_,rfl,kG,upd_same,kq.set k (q2.mono S3.g)⟩;exact h _ _ _ S4 R4
    ·exact h.elim
  ·exact h.elim
 ·exact h.elim
end DL
namespace L2
open PySem PySem.Spec PyProof.Rows
theorem qcv {P:Program} {w:World} {K:PySem.W.Frag} {tg:Expr} (it:Addr) (lo:Int) (n:Nat):Turn P w K tg (Itr lo n) [it] it (fun i g=>IsLongIter g it (lo+(i:Nat)*1) ((n:Int)-(i:Nat)) 1) where
 mem:=List.mem_singleton.mpr rfl
 obj:=fun i g st b hb=>by
  cases List.mem_singleton.mp hb;exact⟨_,st,fun v z=>by
   have z':Data.fields _=Data.cell v:=z;cases z'⟩
 keep:=fun i g g' st k=>k it (List.mem_singleton.mpr rfl) _ st
 item:=by
  intro X hP hw hK hc i pins s σ H E I hf st hg;subst hP hw hK;have hf1:=hf it (List.mem_singleton.mpr rfl);have W:=Walks.longrange (prog:=X.prog) (w:=X.w) (I.ok.hd hc) it lo 1 n;refine W.item i s _ _ hg st fun v g' tk hv st' kk=>?_;obtain⟨t,rfl⟩:=hv;have I1:Inv X pins σ H { s with heap:=g',toks:=tk }:=I.turned (fun b o hb e=>kk b o (fun z=>hb (List.mem_singleton.mp z)) e) hf1.1 hf1.2.1 hf1.2.2.2.1 hf1.2.2.2.2.1 hf1.2.2.2.2.2;refine⟨_,rfl,go_of (s:={ s with heap:=g',toks:=tk }) (n:="longrange_iterator") st' rfl rfl (by decide) ⟨.int (lo+i),H,I1,⟨t,?_⟩,⟨rfl,rfl⟩,st',fun b hb=>(hf b hb).1⟩⟩;rw[Int.mul_one]
 done:=by
  intro X hP hw hK hc i pins s σ H E I hf st hg;subst hP hw hK;have hf1:=hf it (List.mem_singleton.mpr rfl);exact wpAny_pyNext_long_end (I.ok.hd hc) st (by have:n≤i:=hg;omega) fun g' eb=>⟨rfl,I.turned (t':=s.toks) (fun b o hb e=>eb b o hb e) hf1.1 hf1.2.1 hf1.2.2.2.1 hf1.2.2.2.2.1 hf1.2.2.2.2.2⟩
 self:=fun _ _ _ _ _ st q=>wpAny_pyIter_longiter st q
section
variable {X:Cx} {tg:Expr}
theorem qmL {pins:List (Addr×Obj)} {σ:St} {H:Hp} {s:Shared} {R:It→Hp→Prop} {E:Value→Shared→Prop} {lo hi:Int} {t u v:Tok} {tk:Nat} (I:Inv X pins σ H s) (q:R (Itr lo (hi-lo).toNat) H) :
  wpAny (model X.prog X.w) X.A (pyIter (.ref s.heap.objs.size)) (PIE X pins σ tg R) E { s with heap:=s.heap.push { cls:=.type "range",data:=.fields #[.int lo t,.int hi u,.int 1 v] },toks:=tk }:=by
 have I1:Inv X pins σ H { s with heap:=s.heap.push { cls:=.type "range",data:=.fields #[.int lo t,.int hi u,.int 1 v] },toks:=tk }:=I.kept fun b o e=>Heap.get?_push_of_some _ e;have e1:lo+((0:Nat):Int)*1=lo:=by omega
 have e2:(((hi-lo).toNat:Nat):Int)-((0:Nat):Int)=Builtin.Range.rangeSize lo hi 1:=by rw[rangeSize_one];split<;>omega
 cases hs:Builtin.Range.small lo hi 1 with
 | true=>
  refine wpAny_pyIter_range (IsRange.new ..) hs ?_;refine⟨_,[_],_,_,H,rfl,I1.kept (t':=tk) fun b o e=>Heap.get?_push_of_some _ e,turn_range _ lo (hi-lo).toNat,?_,fun b hb=>?_,q⟩
  ·show IsRangeIter _ _ (lo+((0:Nat):Int)*1) ((((hi-lo).toNat:Nat):Int)-((0:Nat):Int)) 1;rw[e1,e2];exact Heap.get?_push_size _ rfl
  ·cases List.mem_singleton.mp hb;exact I1.fpOk (Nat.le_refl _) (I1.hok.fresh (Nat.le_refl _))
 | false=>
  refine wpAny_pyIter_longrange (IsRange.new ..) hs ?_;refine⟨_,[_],_,_,H,rfl,I1.kept (t':=tk) fun b o e=>Heap.get?_push_of_some _ e,qcv _ lo (hi-lo).toNat,?_,fun b hb=>?_,q⟩
  ·show IsLongIter _ _ (lo+((0:Nat):Int)*1) ((((hi-lo).toNat:Nat):Int)-((0:Nat):Int)) 1;rw[e1,e2];exact Heap.get?_push_size _ rfl
  ·cases List.mem_singleton.mp hb;exact I1.fpOk (Nat.le_refl _) (I1.hok.fresh (Nat.le_refl _))
def qjF (ta:TA):TI:=fun σ H R=>ta σ H fun vs H1=>∃j:Int,vs=[.int j]∧R (Itr 0 j.toNat) H1
theorem qb3 {a:Expr} {ta:TA} {p pos:Pos} (hg:Gl X "range") (hm:X.mg "range"=none) (ha:PA X [a] ta) (hs:starEach [a] X.env=[(false,eval a X.env)]:=by rfl):PI X tg (.Call (.Name "range" p) [a] [] pos) (qjF ta):=by
 refine⟨fun pins s σ H R I g=>?_⟩;refine Call_ (ld_blt I hg hm boot_range (PyProof.Rows.callWith_type1 (thn (ha.run pos pins s σ H _ I g) fun us s1 ⟨vs,H1,I1,r1,j,e,q⟩=>?_) hs rfl));subst e;cases r1 with
 | cons r rr=>
  cases rr;obtain⟨t,rfl⟩:=r;exact call_range_1 (qmL I1 (by simpa using q))
end
end L2
namespace DL
open PySem L2
variable {K:Kx} {W:WX}
abbrev IM:=Env→Res (List D)
def Walk (K:Kx) (G:Hp) (J:It) (ds:List D):Prop:=∀G1 H1,Same G G1→Same G1 H1→
 (∀i d,ds[i]?=some d→J.go i H1∧∀x H',J.yld i H1 x H'→∃G2,Gro G1 H1 G2 H'∧Dq K G2 x d)∧J.stop ds.length H1
def F1 (K:Kx) (W:WX) (σ:St) (G H:Hp) (ρ:Env) (Q:It→Hp→Prop):Res (List D)→Prop
 | .ok ds ρ'=>∀J G' H',Stp σ ρ G H σ ρ' G' H'→Rel K σ G' H' ρ'→Walk K G' J ds→Q J H'
 | .ex e ρ'=>Wm K W σ G H ρ e ρ'
 | .bad=>False
def qeQ (K:Kx) (W:WX) (t:TI) (m:IM):Prop:=∀σ G H ρ,Rel K σ G H ρ→∀Q,F1 K W σ G H ρ Q (m ρ)→t σ H Q
theorem F1.step {σ:St} {G H G1 H1:Hp} {ρ ρ1:Env} {Q:It→Hp→Prop} (S:Stp σ ρ G H σ ρ1 G1 H1):∀{r:Res (List D)},F1 K W σ G H ρ Q r→F1 K W σ G1 H1 ρ1 Q r
 | .ok _ _,h=>fun J G' H' S'=>h J G' H' (S.trans S')
 | .ex _ _,h=>Wm.step S h
 | .bad,h=>h
theorem qeQ.fst {σ:St} {G H:Hp} {ρ:Env} {t:TI} {m:IM} (h:qeQ K W t m) (R:Rel K σ G H ρ) {T:It→Hp→Prop}
  (k:∀x ρ1,m ρ=.ok x ρ1→∀J G1 H1,Stp σ ρ G H σ ρ1 G1 H1→Rel K σ G1 H1 ρ1→Walk K G1 J x→T J H1) (kx:∀e ρ1,m ρ=.ex e ρ1→Wm K W σ G H ρ e ρ1) (kb:m ρ≠.bad):t σ H T:=by
 refine h σ G H ρ R T ?_;cases e:m ρ with
 | ok x ρ1=>exact fun J G1 H1 S R X=>k x ρ1 e J G1 H1 S R X
 | ex e' ρ1=>exact kx e' ρ1 e
 | bad=>exact absurd e kb
def qry (K:PySem.W.Frag) (tl:TE):TI:=fun σ H R=>tl σ H fun x H1=>(∃a,x=.ref a∧(∃xs,SqL K H1 a xs)∧R (Itl K a) H1)∨(∃a,x=.ref a∧(∃xs,SqT K H1 a xs)∧R (Itt K a) H1)
theorem qiA {X:Cx} {tg l:Expr} {tl:TE} (hl:PE X l tl):PI X tg l (qry X.K tl):=by
 refine⟨fun pins s σ H R I h=>?_⟩;refine thn (hl.run pins s σ H _ I h) fun v s1 ⟨x,H1,I1,r1,q1⟩=>?_;rcases q1 with ⟨a,e,⟨xs,hq⟩,q⟩ | ⟨a,e,⟨xs,hq⟩,q⟩
 ·subst e;cases r1;obtain⟨its,rv,p,hz⟩:=I1.list hq;refine wpAny_pyIter_list p.isList ?_;refine⟨s1.heap.objs.size,[s1.heap.objs.size],_,_,H1,rfl,I1.kept (t':=s1.toks) fun b o e=>Heap.get?_push_of_some _ e,turn_list a _,⟨_,Heap.get?_push_size _ rfl,rfl,rfl⟩,fun b hb=>?_,q⟩;have e:b=s1.heap.objs.size:=by simpa using hb
  subst e;exact I1.fpOk (Nat.le_refl _) (I1.hok.fresh (Nat.le_refl _))
 ·subst e;cases r1;obtain⟨its,rv,p,hz⟩:=I1.tuple hq;refine wpAny_pyIter_tuple (show s1.heap.IsTuple a its.toArray from p) ?_;refine⟨s1.heap.objs.size,[s1.heap.objs.size],_,_,H1,rfl,I1.kept (t':=s1.toks) fun b o e=>Heap.get?_push_of_some _ e,turn_tuple a _,⟨_,Heap.get?_push_size _ rfl,rfl,rfl⟩,fun b hb=>?_,q⟩;have e:b=s1.heap.objs.size:=by simpa using hb
  subst e;exact I1.fpOk (Nat.le_refl _) (I1.hok.fresh (Nat.le_refl _))
def C4 (m:EM):IM:=fun ρ=>bindR (m ρ) fun x ρ1=>match fz ρ1 x with
 | some (.lst ds,ρ2)=>.ok ds ρ2
 | some (.ro ds,ρ2)=>.ok ds ρ2
 | some (.tup ds,ρ2)=>.ok ds ρ2
 | _=>.bad
theorem qjI {t:TE} {m:EM} (ht:Yx K W t m):qeQ K W (qry K t) (C4 m):=fun σ G H ρ R Q h=>by
 unfold C4 bindR at h;refine ht.fst R (fun x ρ1 e v G1 H1 S1 R1 x1=>?_) (fun e ρ1 q=>by rw[q]at h;exact h) (fun q=>by rw[q]at h;exact h);rw[e]at h;have h:=F1.step S1 h;simp only at h;split at h
 ·rename_i ds ρ2 e2;obtain⟨G2,S2,R2,q2⟩:=Bk R1 x1 e2;have h:=F1.step S2 h;cases q2 with
  | lst hq' ha=>
   rename_i a xs;have hq:SqL K.k G2 a xs:=.inl (.inl hq');refine .inl ⟨a,rfl,⟨xs,R2.same.seq hq⟩,h _ G2 H1 (Stp.refl _ _ _ _) R2 fun G3 H3 s1 s2=>⟨fun i d hd=>?_,?_⟩⟩
   ·obtain⟨u,h1,h2⟩:=ha.get hd;refine⟨⟨xs,u,s2.seq (s1.seq hq),h1⟩,fun y H' ⟨e1,e2⟩=>?_⟩;subst e1;have e3:=e2 xs (s2.seq (s1.seq hq));rw[h1]at e3;cases Option.some.inj e3;exact⟨G3,Gro.refl s2,h2.mono s1⟩
   ·exact⟨xs,s2.seq (s1.seq hq),by rw[ha.length];exact Nat.le_refl _⟩
 ·rename_i ds ρ2 e2;obtain⟨G2,S2,R2,q2⟩:=Bk R1 x1 e2;have h:=F1.step S2 h;cases q2 with
  | ro hq ha=>
   rename_i a xs;refine .inl ⟨a,rfl,⟨xs,R2.same.seq hq⟩,h _ G2 H1 (Stp.refl _ _ _ _) R2 fun G3 H3 s1 s2=>⟨fun i d hd=>?_,?_⟩⟩
   ·obtain⟨u,h1,h2⟩:=ha.get hd;refine⟨⟨xs,u,s2.seq (s1.seq hq),h1⟩,fun y H' ⟨e1,e2⟩=>?_⟩;subst e1;have e3:=e2 xs (s2.seq (s1.seq hq));rw[h1]at e3;cases Option.some.inj e3;exact⟨G3,Gro.refl s2,h2.mono s1⟩
   ·exact⟨xs,s2.seq (s1.seq hq),by rw[ha.length];exact Nat.le_refl _⟩
 ·rename_i ds ρ2 e2;obtain⟨G2,S2,R2,q2⟩:=Bk R1 x1 e2;have h:=F1.step S2 h;cases q2 with
  | tup hq ha=>
   rename_i a xs;refine .inr ⟨a,rfl,⟨xs,(Same.seqN R2.same hq).sq⟩,h _ G2 H1 (Stp.refl _ _ _ _) R2 fun G3 H3 s1 s2=>⟨fun i d hd=>?_,?_⟩⟩
   ·obtain⟨u,h1,h2⟩:=ha.get hd;refine⟨⟨xs,u,(Same.seqN s2 (Same.seqN s1 hq)).sq,h1⟩,fun y H' ⟨e1,e2⟩=>?_⟩;subst e1;have e3:=e2 xs ((Same.seqN s2 (Same.seqN s1 hq)).sq);rw[h1]at e3;cases Option.some.inj e3;exact⟨G3,Gro.refl s2,h2.mono s1⟩
   ·exact⟨xs,(Same.seqN s2 (Same.seqN s1 hq)).sq,by rw[ha.length];exact Nat.le_refl _⟩
 ·exact h.elim
def Xa (lo:Int) (n:Nat):List D:=(List.range n).map fun (k:Nat)=>D.int (lo+(k:Int))
theorem qaS {G:Hp} (lo:Int) (n:Nat):Walk K G (Itr lo n) (Xa lo n):=fun G1 H1 _ s2=>by
 refine⟨fun i d hd=>?_,?_⟩
 ·unfold Xa at hd;rw[List.getElem?_map]at hd;by_cases hi:i<n
  ·rw[List.getElem?_range hi]at hd;cases Option.some.inj hd;refine⟨hi,fun x H' ⟨e1,e2⟩=>?_⟩;subst e1;subst e2;exact⟨G1,Gro.refl s2,.int _⟩
  ·rw[List.getElem?_eq_none (by simpa using hi)]at hd;cases hd
 ·show n≤(Xa lo n).length;unfold Xa;simp
def qil (j:Int):Prop:=j=j
instance (j:Int):Decidable (qil j):=inferInstanceAs (Decidable (_=_))
def Sw (ma:AM):IM:=fun ρ=>bindR (ma ρ) fun xs ρ1=>match xs with
 | [.d (.int j)]=>if qil j then .ok (Xa 0 j.toNat) ρ1 else .bad
 | _=>.bad
theorem qgN {t:TA} {m:AM} (ht:Bx K W t m):qeQ K W (qjF t) (Sw m):=fun σ G H ρ R Q h=>by
 unfold Sw bindR at h;refine ht.fst R (fun x ρ1 e v G1 H1 S1 R1 x1=>?_) (fun e ρ1 q=>by rw[q]at h;exact h) (fun q=>by rw[q]at h;exact h);rw[e]at h;have h:=F1.step S1 h;simp only at h;split at h
 ·split at h
  ·rename_i hz;cases x1 with
   | cons y1 y2=>
    cases y2;cases y1;exact⟨_,rfl,h _ G1 H1 (Stp.refl _ _ _ _) R1 (qaS _ _)⟩
  ·exact h.elim
 ·exact h.elim
def Z9 (gm:GM) (b:SM):List D→SM
 | []=>fun ρ=>.ok .nx ρ
 | d::ds=>fun ρ=>match gm d ρ with
  | none=>.bad
  | some ρ1=>(match b ρ1 with
   | .ok .nx ρ2=>Z9 gm b ds ρ2
   | .ok .ct ρ2=>Z9 gm b ds ρ2
   | .ok .bk ρ2=>.ok .nx ρ2
   | r=>r)
def Dy (im:IM) (gm:GM) (b:SM):SM:=fun ρ=>bindR (im ρ) fun ds ρ1=>Z9 gm b ds ρ1
theorem zj {α:Type} {xs:List α} {i:Nat} {x:α} (h:xs[i]?=some x):xs.drop i=x::xs.drop (i+1):=by
 obtain⟨hi,e⟩:=List.getElem?_eq_some_iff.mp h;rw[List.drop_eq_getElem_cons hi,e]
theorem qia {js:List Nat} {wi:TI} {g:TG} {tb:TS} {im:IM} {gm:GM} {b:SM} (hi:qeQ K W wi im) (hg:GOk K js g gm) (hb:Di K W tb b):Di K W (tFor wi g tb) (Dy im gm b):=fun σ G H ρ R D h=>by
 unfold Dy bindR at h;refine hi.fst R (fun ds ρ1 e J G1 H1 S1 R1 wk=>?_) (fun e ρ1 q=>by rw[q]at h;exact J0.x h) (fun q=>by rw[q]at h;exact h);rw[e]at h;have h:=J0.step S1 h;simp only at h;refine⟨fun i m σ' H'=>m=ds.length-i∧i≤ds.length∧∃G' ρ',Same G1 G'∧Rel K σ' G' H' ρ'∧J0 K W σ' G' H' ρ' D (Z9 gm b (ds.drop i) ρ'),⟨ds.length,by simp,Nat.zero_le _,G1,ρ1,Same.refl _,R1,by simpa using h⟩,?_⟩;rintro i m σ' H' ⟨rfl,hi,G',ρ',sG,R',h'⟩;obtain⟨go,stop⟩:=wk G' H' sG R'.same;by_cases hlt:i<ds.length
 ·obtain⟨d,hd⟩:∃d,ds[i]?=some d:=⟨ds[i],List.getElem?_eq_getElem hlt⟩;obtain⟨hgo,hy⟩:=go i d hd;refine .inr ⟨hgo,fun σ2 H2=>∃G2 ρ2,Same G1 G2∧Rel K σ2 G2 H2 ρ2∧J0 K W σ2 G2 H2 ρ2 D (Z9 gm b (ds.drop (i+1)) ρ2),fun σ2 H2 ⟨G2,ρ2,s2,R2,h2⟩=>⟨ds.length-(i+1),by omega,rfl,hlt,G2,ρ2,s2,R2,h2⟩,fun x H2 y=>?_⟩;obtain⟨G2,gr,q2⟩:=hy x H2 y;rw[zj hd]at h';unfold Z9 at h';have h':=J0.step gr.stp h';have R2:=R'.gro gr;split at h'
  ·exact h'.elim
  ·rename_i ρ2 e2;refine hg _ _ _ _ _ _ _ R2 q2 e2 _ fun σ2 T S3 R3=>?_;have h':=J0.step S3 h';refine hb σ2 G2 H2 ρ2 R3 _ ?_;have sg:Same G1 G2:=sG.trans gr.g;cases eb:b ρ2 with
   | bad=>rw[eb]at h';exact h'
   | ex x ρ3=>rw[eb]at h';exact h'
   | ok f ρ3=>
    rw[eb]at h';cases f with
    | nx=>exact fun σ4 G4 H4 S4 R4=>⟨G4,ρ3,sg.trans S4.g,R4,J0.step S4 h'⟩
    | ct=>exact fun σ4 G4 H4 S4 R4=>⟨G4,ρ3,sg.trans S4.g,R4,J0.step S4 h'⟩
    | bk=>exact fun σ4 G4 H4 S4 R4=>h' σ4 G4 H4 S4 R4
    | rt l=>exact h'
 ·have ei:i=ds.length:=by omega
  subst ei;rw[List.drop_length]at h';exact .inl ⟨stop,h' σ' G' H' (Stp.refl _ _ _ _) R'⟩
def Vz (ρ:Env):List Nat→Env
 | []=>ρ
 | j::js=>(Vz ρ js).set j none
def X6 (ρ0 ρ:Env):List Nat→Env
 | []=>ρ
 | j::js=>match ρ0[j]? with
  | some o=>(X6 ρ0 ρ js).set j o
  | none=>X6 ρ0 ρ js
def clean (ρ:Env):List Nat→Bool
 | []=>true
 | j::js=>(match ρ[j]? with
  | some none=>true
  | some (some (.d _))=>true
  | _=>false) && clean ρ js
def qbz (js:List Nat) (gm:GM) (mt:TM) (me:EM) (ρ0:Env):List D→List D→Env→Res (List D)
 | [],acc,ρ=>.ok acc ρ
 | d::ds,acc,ρ=>match gm d (Vz ρ js) with
  | none=>.bad
  | some ρ1=>bindR (mt ρ1) fun t ρ2=>if t=true then bindR (me ρ2) fun x ρ3=>(match fz ρ3 x with
    | some (y,ρ4)=>if acc.length<mx then qbz js gm mt me ρ0 ds (acc++[y]) (X6 ρ0 ρ4 js) else .bad
    | none=>.bad)
   else qbz js gm mt me ρ0 ds acc (X6 ρ0 ρ2 js)
def fLc (im:IM) (js:List Nat) (gm:GM) (mt:TM) (me:EM):FM:=fun ρ=>bindR (im ρ) fun ds ρ1=>if clean ρ1 js=true then (match qbz js gm mt me ρ1 ds [] ρ1 with
  | .ok acc ρ2=>.ok (.lst acc) ρ2
  | _=>.bad) else .bad
theorem zx {ρ:Env} {i:Nat}:∀{js:List Nat},i∉js→(Vz ρ js)[i]?=ρ[i]?
 | [],_=>rfl
 | j::js,h=>by
  unfold Vz;rw[List.getElem?_set_ne (fun z=>h (by rw[z];exact List.mem_cons_self))];exact zx fun z=>h (List.mem_cons_of_mem _ z)
theorem zu {ρ:Env}:∀{js:List Nat},(Vz ρ js).length=ρ.length
 | []=>rfl
 | j::js=>by unfold Vz;rw[List.length_set,zu]
theorem Wr {ρ:Env} {i:Nat} {l:L}:∀{js:List Nat},(Vz ρ js)[i]?=some (some l)→ρ[i]?=some (some l)∧i∉js
 | [],h=>⟨h,by simp⟩
 | j::js,h=>by
  unfold Vz at h;rcases X2 h with ⟨_,e⟩ | ⟨hne,e⟩
  ·cases e
  ·obtain⟨h1,h2⟩:=Wr e;exact⟨h1,by simp only[List.mem_cons,not_or];exact⟨fun e=>hne e.symm,h2⟩⟩
theorem Gh {σ:St} {i:Nat}:∀{js:List Nat},i∉js→(wipe σ js)[i]?=σ[i]?
 | [],_=>rfl
 | j::js,h=>by
  unfold wipe;rw[List.getElem?_set_ne (fun z=>h (by rw[z];exact List.mem_cons_self))];exact Gh fun z=>h (List.mem_cons_of_mem _ z)
theorem yb {σ:St} {i:Nat}:∀{js:List Nat},i∈js→i < σ.length→(wipe σ js)[i]?=some none
 | [],h,_=>by cases h
 | j::js,h,hl=>by
  unfold wipe;by_cases e:j=i
  ·subst e;rw[List.getElem?_set_self (by rw[wipe_length];exact hl)]
  ·rw[List.getElem?_set_ne e];rcases List.mem_cons.mp h with q | q
   ·exact absurd q.symm e
   ·exact yb q hl
theorem qbF {σ σ':St} {js:List Nat} (hl:σ'.length=σ.length) (h:∀i,i∉js→σ'[i]?=σ[i]?):wipe σ' js=wipe σ js:=by
 apply List.ext_getElem?;intro i;by_cases hi:i∈js
 ·by_cases hlt:i < σ.length
  ·rw[yb hi hlt,yb hi (by rw[hl];exact hlt)]
  ·rw[List.getElem?_eq_none (by rw[wipe_length,hl];omega),List.getElem?_eq_none (by rw[wipe_length];omega)]
 ·rw[Gh hi,Gh hi,h i hi]
theorem Ul {ρ0 ρ:Env}:∀{js:List Nat},(X6 ρ0 ρ js).length=ρ.length
 | []=>rfl
 | j::js=>by
  unfold X6;split
  ·rw[List.length_set,Ul]
  ·exact Ul
theorem N8 {ρ0 ρ:Env} {i:Nat}:∀{js:List Nat},i∉js→(X6 ρ0 ρ js)[i]?=ρ[i]?
 | [],_=>rfl
 | j::js,h=>by
  have h2:i∉js:=fun z=>h (List.mem_cons_of_mem _ z);unfold X6;split
  ·rw[List.getElem?_set_ne (fun z=>h (by rw[z];exact List.mem_cons_self))];exact N8 h2
  ·exact N8 h2
theorem Me {ρ0 ρ:Env} {i:Nat} (hl:ρ.length=ρ0.length):∀{js:List Nat},i∈js→(X6 ρ0 ρ js)[i]?=ρ0[i]?
 | [],h=>by cases h
 | j::js,h=>by
  unfold X6;by_cases e:j=i
  ·subst e;split
   ·rename_i o ho;rw[List.getElem?_set_self (by rw[Ul,hl];exact (List.getElem?_eq_some_iff.mp ho).1),ho]
   ·rename_i ho;rw[ho,List.getElem?_eq_none (by rw[Ul,hl];exact List.getElem?_eq_none_iff.mp ho)]
  ·have h2:i∈js:=by
    rcases List.mem_cons.mp h with q | q
    ·exact absurd q.symm e
    ·exact q
   split
   ·rw[List.getElem?_set_ne e];exact Me hl h2
   ·exact Me hl h2
theorem Le {ρ:Env} {i:Nat} {l:L}:∀{js:List Nat},clean ρ js=true→i∈js→ρ[i]?=some (some l)→l.own=false
 | [],_,h,_=>by cases h
 | j::js,hc,h,hl=>by
  unfold clean at hc;rw[Bool.and_eq_true]at hc;rcases List.mem_cons.mp h with q | q
  ·subst q;rw[hl]at hc;cases l with
   | d _=>rfl
   | m _=>exact absurd hc.1 (by simp)
   | r _=>exact absurd hc.1 (by simp)
   | p _=>exact absurd hc.1 (by simp)
   | xh=>rfl
   | u _ _=>rfl
  ·exact Le hc.2 q hl
theorem Rel.block {σ:St} {G H:Hp} {ρ:Env} (R:Rel K σ G H ρ) (js:List Nat):Rel K (wipe σ js) G H (Vz ρ js):=by
 refine⟨R.same,by rw[wipe_length,zu];exact R.len,fun i l e=>?_,R.exo,fun i j l l' a hij e1 e2 o1 o2 e3 e4=>?_⟩
 ·obtain⟨e1,h⟩:=Wr e;rw[Gh h];exact R.at_ i l e1
 ·obtain⟨f1,h1⟩:=Wr e1;obtain⟨f2,h2⟩:=Wr e2;rw[Gh h1]at e3;rw[Gh h2]at e4;exact R.sep i j l l' a hij f1 f2 o1 o2 e3 e4
theorem Rel.turn {σ σ2:St} {G H G3 H3:Hp} {ρ0 ρ ρ2 ρ3:Env} {js:List Nat} (R:Rel K σ G H ρ) (hz:ρ.length=ρ0.length) (h0:∀i∈js,ρ[i]?=ρ0[i]?) (hc:clean ρ0 js=true)
  (ks:List Nat) (hks:∀i∈ks,i∈js) (T:Tg ks (wipe σ js) σ2 (Vz ρ js) ρ2) (S:Stp σ2 ρ2 G H σ2 ρ3 G3 H3) (R3:Rel K σ2 G3 H3 ρ3) :
  Stp σ ρ G H σ (X6 ρ0 ρ3 js) G3 H3∧Rel K σ G3 H3 (X6 ρ0 ρ3 js):=by
 have l3:ρ3.length=ρ0.length:=by
  have e1:=R3.len;have e2:=T.len;rw[wipe_length]at e2;have e3:=R.len;omega
 have out:∀{i:Nat},i∉js→σ2[i]?=σ[i]?:=fun {i} h=>by
  rw[T.out i fun z=>h (hks i z),Gh h]
 have cl:∀{i:Nat} {l:L},(X6 ρ0 ρ3 js)[i]?=some (some l)→l.own=true→i∉js∧ρ3[i]?=some (some l):=fun {i l} e o=>by
  by_cases hi:i∈js
  ·rw[Me l3 hi]at e;rw[Le hc hi e]at o;cases o
  ·rw[N8 hi]at e;exact⟨hi,e⟩
 have ow:∀a,Own σ2 ρ2 a→Own σ ρ a:=fun a ⟨i,l,e1,o,e3⟩=>by
  obtain⟨e4,hi⟩:=Wr (T.own i l e1 o);rw[out hi]at e3;exact⟨i,l,e4,o,e3⟩
 have om:∀a,Bq σ2 ρ2 a→Bq σ ρ a:=fun a ⟨i,l,e1,o,e3⟩=>by
  have o':l.own=true:=by cases l<;>first | rfl | cases o
  obtain⟨e4,hi⟩:=Wr (T.own i l e1 o');rw[out hi]at e3;exact⟨i,l,e4,o,e3⟩
 refine⟨⟨S.g,fun a o e=>?_,fun a o e n=>S.fr a o e fun z=>n (ow a z),S.hn,fun a ⟨i,l,e1,o,e3⟩=>?_,fun a ⟨i,l,e1,o,e3⟩=>?_,fun i x e=>?_⟩,⟨R3.same,?_,fun i l e=>?_,R3.exo,fun i j l l' a hij e1 e2 o1 o2 e3 e4=>?_⟩⟩
 ·rcases S.gf a o e with h | h | h
  ·exact .inl h
  ·exact .inr (.inl h)
  ·exact .inr (.inr (om a h))
 ·obtain⟨hi,e⟩:=cl e1 o;rcases S.ow a ⟨i,l,e,o,by rw[out hi];exact e3⟩ with h | h
  ·exact .inl (ow a h)
  ·exact .inr h
 ·have o':l.own=true:=by cases l<;>first | rfl | cases o
  obtain⟨hi,e⟩:=cl e1 o';rcases S.om a ⟨i,l,e,o,by rw[out hi];exact e3⟩ with h | h
  ·exact .inl (om a h)
  ·exact .inr h
 ·refine⟨rfl,?_⟩;have hi:i∉js:=fun z=>by
   have e':=e;rw[h0 i z]at e';have q:=Le hc z e';cases q
  rw[N8 hi];have e2:ρ2[i]?=some (some (.r x)):=by
   rw[T.oue i fun z=>hi (hks i z),zx hi];exact e
  exact (S.pin i x e2).2
 ·rw[Ul];have e1:=R3.len;have e2:=T.len;rw[wipe_length]at e2;omega
 ·by_cases hi:i∈js
  ·rw[Me l3 hi]at e;have o:=Le hc hi e;rw[← h0 i hi]at e;obtain⟨v,e1,e2⟩:=R.at_ i l e;refine⟨v,e1,?_⟩;cases l with
   | d x=>exact Dq.mono S.g e2
   | m x=>cases o
   | r x=>cases o
   | p x=>cases o
   | xh=>exact e2
   | u _ _=>exact e2
  ·rw[N8 hi]at e;rw[← out hi];exact R3.at_ i l e
 ·obtain⟨h1,f1⟩:=cl e1 o1;obtain⟨h2,f2⟩:=cl e2 o2;rw[← out h1]at e3;rw[← out h2]at e4;exact R3.sep i j l l' a hij f1 f2 o1 o2 e3 e4
theorem Rel.side {σ:St} {G H:Hp} {ρ:Env} {D:Addr} {o:HO} (R:Rel K σ G H ρ) (g:G D=none) (n:¬Own σ ρ D):Rel K σ G (upd H D o) ρ:=by
 refine⟨fun b u e=>?_,R.len,fun i l e=>?_,R.exo,R.sep⟩
 ·rw[upd_ne (ne_of_none e g)];exact R.same b u e
 ·obtain⟨v,e1,e2⟩:=R.at_ i l e;refine⟨v,e1,?_⟩;have ow:∀y,l.own=true→MOk K G H v y→MOk K G (upd H D o) v y:=fun y ol hm=>by
   refine hm.mono (Same.refl _) fun c ec=>?_;subst ec;obtain⟨c',ec',gc,_⟩:=hm.ref;cases ec';refine⟨gc,fun u eu=>?_⟩;have nc:c≠D:=fun q=>by
    subst q;exact n ⟨i,l,e,ol,e1⟩
   rw[upd_ne nc];exact eu
  cases l with
  | d y=>exact e2
  | m y=>exact ow y rfl e2
  | r y=>exact ow y rfl e2
  | p y=>exact⟨ow y rfl e2.1,e2.2⟩
  | xh=>exact e2
  | u _ _=>exact e2
theorem Stp.side {σ σ':St} {G H G' H':Hp} {ρ ρ':Env} {D:Addr} {o:HO} (S:Stp σ ρ G H σ' ρ' G' H') (h:H D=none):Stp σ ρ G H σ' ρ' G' (upd H' D o):=by
 refine⟨S.g,S.gf,fun a u e n=>?_,fun a e=>?_,S.ow,S.om,S.pin⟩
 ·rw[upd_ne (ne_of_none e h)];exact S.fr a u e n
 ·by_cases q:a=D
  ·subst q;exact absurd h e
  ·rw[upd_ne q];exact S.hn a e
theorem qgV {js ks:List Nat} {wi:TI} {g:TG} {tt:TT} {te:TE} {im:IM} {gm:GM} {mt:TM} {me:EM} (hi:qeQ K W wi im) (hg:GOk K ks g gm) (hks:∀i∈ks,i∈js)
  (ht:Ee K (fun _ _ _ _=>False) tt mt) (he:Yx K (fun _ _ _ _=>False) te me):qbB K W (tLc wi g tt te js) (fLc im js gm mt me):=fun σ G H ρ R Q h=>by
 unfold fLc bindR at h;refine hi.fst R (fun ds ρ1 e J G1 H1 S1 R1 wk=>?_) (fun e ρ1 q=>by rw[q]at h;exact h) (fun q=>by rw[q]at h;exact h);rw[e]at h;have h:=Tz.step S1 h;simp only at h;split at h
 ·rename_i hcl;intro D hD;have g1:G1 D=none:=R1.same.free hD;have notOwn:∀{σ':St} {ρ':Env} {G' H':Hp},Stp σ ρ1 G1 H1 σ' ρ' G' H'→¬Own σ ρ1 D:=fun _ ⟨i,l,e1,o,e3⟩=>by
   obtain⟨v,e4,e5⟩:=R1.at_ i l e1;rw[e3]at e4;cases Option.some.inj (Option.some.inj e4);have:∀y,MOk K G1 H1 (.ref D) y→False:=fun y hm=>by
    obtain⟨a,ea,_,hn⟩:=hm.ref;cases ea;exact hn hD
   cases l with
   | d y=>cases o
   | m y=>exact this y e5
   | r y=>exact this y e5
   | p y=>exact this y e5.1
   | xh=>cases o
   | u _ _=>cases o
  have nD1:¬Own σ ρ1 D:=notOwn (Stp.refl _ _ _ _);refine⟨fun i m H'=>m=ds.length-i∧i≤ds.length∧∃G' ρ' acc accV,Stp σ ρ1 G1 H1 σ ρ' G' H'∧Rel K σ G' H' ρ'∧H' D=some (.lst accV)∧G' D=none∧¬Own σ ρ' D∧DqA K G' accV acc∧ρ'.length=ρ1.length∧(∀i∈js,ρ'[i]?=ρ1[i]?)∧
    Tz K W σ G1 H1 ρ1 Q (match qbz js gm mt me ρ1 (ds.drop i) acc ρ' with | .ok acc ρ2=>.ok (.lst acc) ρ2 | _=>.bad),⟨ds.length,?_⟩,?_⟩
  ·refine⟨by simp,Nat.zero_le _,G1,ρ1,[],[],(Stp.refl _ _ _ _).side hD,R1.side g1 nD1,upd_same,g1,nD1,.nil,rfl,fun _ _=>rfl,by simpa using h⟩
  ·rintro i m H' ⟨rfl,hil,G',ρ',acc,accV,S',R',hH,gD,nO,qa,hlen,hsame,h'⟩;obtain⟨go,stop⟩:=wk G' H' S'.g R'.same;by_cases hlt:i<ds.length
   ·obtain⟨d,hd⟩:∃d,ds[i]?=some d:=⟨ds[i],List.getElem?_eq_getElem hlt⟩;obtain⟨hgo,hy⟩:=go i d hd;rw[zj hd]at h';refine .inr ⟨hgo,fun H2=>∃G2 ρ2 qsg qkN,Stp σ ρ1 G1 H1 σ ρ2 G2 H2∧Rel K σ G2 H2 ρ2∧H2 D=some (.lst qkN)∧G2 D=none∧¬Own σ ρ2 D∧DqA K G2 qkN qsg∧ρ2.length=ρ1.length∧(∀i∈js,ρ2[i]?=ρ1[i]?)∧
     Tz K W σ G1 H1 ρ1 Q (match qbz js gm mt me ρ1 (ds.drop (i+1)) qsg ρ2 with | .ok acc ρ2=>.ok (.lst acc) ρ2 | _=>.bad),fun H2 z=>⟨ds.length-(i+1),by omega,rfl,hlt,z⟩,fun x H2 y=>?_⟩
    obtain⟨G2,gr,q2⟩:=hy x H2 y;have R2:=R'.gro gr;have S2:=S'.trans (gr.stp (σ:=σ) (ρ:=ρ'));have hH2:H2 D=some (.lst accV):=gr.h D _ hH;have gD2:G2 D=none:=by
     cases q:G2 D with
     | none=>rfl
     | some o=>
      rcases gr.gf D o q with z | z
      ·rw[gD]at z;cases z
      ·rw[hH]at z;cases z
    unfold qbz at h';split at h'
    ·rename_i e2;split at e2
     ·cases e2
     ·rename_i ρ2 e3;refine hg _ _ _ _ _ _ _ (R2.block js) q2 e3 _ fun σ2 T S3 R3=>?_;have wEq:wipe σ2 js=wipe σ js:=by
       rw[qbF (σ:=wipe σ js) T.len fun i hi=>T.out i fun z=>hi (hks i z)];exact qbF (wipe_length _ _) fun i hi=>Gh hi
      refine⟨wEq,?_⟩;have leave:∀{ρ3:Env} {G3 H3:Hp},Stp σ2 ρ2 G2 H2 σ2 ρ3 G3 H3→Rel K σ2 G3 H3 ρ3→Stp σ ρ1 G1 H1 σ (X6 ρ1 ρ3 js) G3 H3∧Rel K σ G3 H3 (X6 ρ1 ρ3 js)∧H3 D=some (.lst accV)∧G3 D=none∧¬Own σ (X6 ρ1 ρ3 js) D∧DqA K G3 accV acc∧(X6 ρ1 ρ3 js).length=ρ1.length∧(∀i∈js,(X6 ρ1 ρ3 js)[i]?=ρ1[i]?):=fun {ρ3 G3 H3} S4 R4=>by
       obtain⟨S5,R5⟩:=Rel.turn R2 hlen hsame hcl ks hks T S4 R4;have l3:ρ3.length=ρ1.length:=by
        have e1:=R4.len;have e2:=T.len;rw[wipe_length]at e2;have e3:=R2.len;omega
       refine⟨S2.trans S5,R5,S5.fr D _ hH2 nO,?_,fun z=>?_,(qa.mono gr.g).mono S5.g,by rw[Ul];exact l3,fun i hi=>Me l3 hi⟩
       ·cases q:G3 D with
        | none=>rfl
        | some o=>
         rcases S5.gf D o q with z | z | z
         ·rw[gD2]at z;cases z
         ·rw[hH2]at z;cases z
         ·exact absurd z.own nO
       ·rcases S5.ow D z with z | z
        ·exact nO z
        ·rw[hH2]at z;cases z
      refine ht σ2 G2 H2 ρ2 R3 _ ?_;unfold bindR at e2;cases et:mt ρ2 with
      | bad=>rw[et]at e2;cases e2
      | ex x ρ3=>rw[et]at e2;cases e2
      | ok t ρ3=>
       rw[et]at e2;intro G3 H3 S4 R4;cases t with
       | false=>
        simp only[Bool.false_eq_true,if_false]at e2 ⊢;obtain⟨a1,a2,a3,a4,a5,a6,a7,a8⟩:=leave S4 R4;exact⟨G3,_,acc,accV,a1,a2,a3,a4,a5,a6,a7,a8,by rw[e2];exact h'⟩
       | true=>
        simp only[if_true]at e2 ⊢;refine he σ2 G3 H3 ρ3 R4 _ ?_;cases ee:me ρ3 with
        | bad=>rw[ee]at e2;cases e2
        | ex x ρ3=>rw[ee]at e2;cases e2
        | ok z ρ4=>
         rw[ee]at e2;intro v G4 H4 S5 R5 x5;simp only at e2;split at e2
         ·rename_i y' ρ5 e5;obtain⟨G5,S6,R6,q6⟩:=Bk R5 x5 e5;split at e2
          ·rename_i hz;obtain⟨a1,a2,a3,a4,a5,a6,a7,a8⟩:=leave ((S4.trans S5).trans S6) R6;refine⟨accV,a3,by rw[a6.length];exact Cf hz,G5,_,acc++[y'],accV++[v],a1.side hD,a2.side a4 a5,upd_same,a4,a5,a6.append (.one q6),a7,a8,by rw[e2];exact h'⟩
          ·cases e2
         ·cases e2
    ·exact h'.elim
   ·have ei:i=ds.length:=by omega
    subst ei;rw[List.drop_length]at h';refine .inl ⟨stop,h' _ G' H' S' R' ⟨⟨D,accV,rfl,gD,hH,qa⟩,fun a ea=>?_⟩⟩;cases ea;exact⟨hD,nO⟩
 ·exact h.elim
end DL
namespace DL
open PySem PySem.Spec PyProof.Rows L2
def qkP (K:Kx) (H G' H':Hp) (v:V):L→Prop
 | .d x=>Dq K G' v x
 | .m x=>MOk K G' H' v x∧∀a,v=.ref a→H a=none
 | .u d x=>∃t va vb,v=.ref t∧SqN K.k G' t (qpk d va vb)∧Dq K.k G' va (qmi d)∧MOk K G' H' vb x∧∀a,vb=.ref a→H a=none
 | _=>False
def qdL (K:Kx) (G H:Hp) (vs:List V) (as:List L):Prop:=Rel K (vs.map some) G H (as.map some)∧∀l∈as,l.ism=false
def qkS (K:Kx) (vs:List V) (as:List L) (G H:Hp) (Q:VK) (E:XK):FRes→Prop
 | .ok l as'=>∀v G' H',Stp (vs.map some) (as.map some) G H (vs.map some) (as'.map some) G' H'→Rel K (vs.map some) G' H' (as'.map some)→qkP K H G' H' v l→Q v H'
 | .ex e as'=>∀c d G' H',Stp (vs.map some) (as.map some) G H (vs.map some) (as'.map some) G' H'→Rel K (vs.map some) G' H' (as'.map some)→ExOk K G' c d e→E c d H'
 | .bad=>False
def spF (K:PySem.W.Frag) (n:Nat) (F:List L→FRes):Sp:=fun vs H Q E=>vs.length=n∧∃G as,qdL ⟨K,none⟩ G H vs as∧qkS ⟨K,none⟩ vs as G H Q E (F as)
def qbx (a:L) (o:Option (Option L)):L:=match a,o with
 | .r _,some (some l)=>l
 | a,_=>a
def Gg (ρ':Env):Nat→List L→List L
 | _,[]=>[]
 | i,a::as=>qbx a ρ'[i]?::Gg ρ' (i+1) as
def Ze (n:Nat) (body:SM) (as:List L):FRes:=match body (as.map some++List.replicate (n-as.length) none) with
 | .ok .nx ρ'=>.ok (.d .non) (Gg ρ' 0 as)
 | .ok (.rt l) ρ'=>.ok l (Gg ρ' 0 as)
 | .ex e ρ'=>.ex e (Gg ρ' 0 as)
 | _=>.bad
theorem O7 {ρ':Env} {i:Nat}:∀{k:Nat} {as:List L},(Gg ρ' k as)[i]?=(as[i]?).map fun a=>qbx a ρ'[k+i]?
 | k,[]=>by simp[Gg]
 | k,a::as=>by
  unfold Gg;cases i with
  | zero=>simp
  | succ i=>
   rw[List.getElem?_cons_succ,List.getElem?_cons_succ,O7];rw[show k+1+i=k+(i+1) by omega]
theorem xw {ρ':Env}:∀{k:Nat} {as:List L},(Gg ρ' k as).length=as.length
 | k,[]=>rfl
 | k,a::as=>by unfold Gg;rw[List.length_cons,List.length_cons,xw]
section
variable {K:Kx} {G H G' H':Hp} {vs:List V} {as:List L} {n:Nat} {σ':L2.St} {ρ':Env}
theorem Ux {α:Type} {xs:List α} {i:Nat} {o:Option α} (h:(xs.map some)[i]?=some o):∃x,xs[i]?=some x∧o=some x:=by
 rw[List.getElem?_map]at h;cases e:xs[i]? with
 | none=>rw[e]at h;cases h
 | some x=>rw[e]at h;exact⟨x,rfl,(Option.some.inj h).symm⟩
theorem get_map {α:Type} {xs:List α} {i:Nat} {x:α} (h:xs[i]?=some x):(xs.map some)[i]?=some (some x):=by
 rw[List.getElem?_map,h];rfl
theorem K6 {α:Type} {xs:List α} {i m:Nat} {x:α} (h:(xs.map some++List.replicate m none)[i]?=some (some x)):xs[i]?=some x:=by
 by_cases hi:i<xs.length
 ·rw[List.getElem?_append_left (by simpa using hi)]at h;obtain⟨y,e1,e2⟩:=Ux h;cases Option.some.inj e2;exact e1
 ·rw[List.getElem?_append_right (by simpa using hi)]at h;rw[List.getElem?_replicate]at h;split at h
  ·cases Option.some.inj h
  ·cases h
theorem qan {α:Type} {xs:List α} {i m:Nat} {x:α} (h:xs[i]?=some x):(xs.map some++List.replicate m none)[i]?=some (some x):=by
 rw[List.getElem?_append_left (by simpa using (List.getElem?_eq_some_iff.mp h).1)];exact get_map h
theorem Rel.enter (A:qdL K G H vs as):Rel K (vs.map some++List.replicate n none) G H (as.map some++List.replicate n none):=by
 obtain⟨R,_⟩:=A;refine⟨R.same,?_,fun i l e=>?_,R.exo,fun i j l l' a hij e1 e2 o1 o2 e3 e4=>?_⟩
 ·rw[List.length_append,List.length_append,R.len,List.length_replicate,List.length_replicate]
 ·obtain⟨v,h1,h2⟩:=R.at_ i l (get_map (K6 e));obtain⟨u,e1,e2⟩:=Ux h1;cases Option.some.inj e2;exact⟨v,qan e1,h2⟩
 ·exact R.sep i j l l' a hij (get_map (K6 e1)) (get_map (K6 e2)) o1 o2 (get_map (K6 e3)) (get_map (K6 e4))
theorem qgb {l:L} (h:l.own=true) (h2:l.ism=false):∃x,l=.r x:=by
 cases l with
 | d _=>cases h
 | m _=>cases h2
 | r x=>exact⟨x,rfl⟩
 | p _=>cases h2
 | xh=>cases h
 | u _ _=>cases h
theorem Rel.leave (A:qdL K G H vs as) (S:Stp (vs.map some++List.replicate n none) (as.map some++List.replicate n none) G H σ' ρ' G' H') (R:Rel K σ' G' H' ρ') :
  Stp (vs.map some) (as.map some) G H (vs.map some) ((Gg ρ' 0 as).map some) G' H'∧Rel K (vs.map some) G' H' ((Gg ρ' 0 as).map some):=by
 obtain⟨R0,hm⟩:=A;have om0:∀a,¬Bq (vs.map some++List.replicate n none) (as.map some++List.replicate n none) a:=fun a ⟨i,l,e1,o,_⟩=>by
  have:=hm l (List.mem_of_getElem? (K6 e1));rw[o]at this;cases this
 have owU:∀a,Own (vs.map some++List.replicate n none) (as.map some++List.replicate n none) a→Own (vs.map some) (as.map some) a:=fun a ⟨i,l,e1,o,e3⟩=>⟨i,l,get_map (K6 e1),o,get_map (K6 e3)⟩;have at':∀{i:Nat} {l:L},((Gg ρ' 0 as).map some)[i]?=some (some l)→(∃x y,as[i]?=some (.r x)∧l=.r y∧ρ'[i]?=some (some (.r y))∧σ'[i]?=(vs.map some)[i]?)∨(as[i]?=some l∧∀x,l≠.r x):=fun {i l} e=>by
  obtain⟨l',e1,e2⟩:=Ux e;cases Option.some.inj e2;rw[O7]at e1;cases ea:as[i]? with
  | none=>rw[ea]at e1;cases e1
  | some a=>
   rw[ea]at e1;have e1:qbx a ρ'[0+i]?=l:=Option.some.inj e1;rw[Nat.zero_add]at e1;cases a with
   | r x=>
    obtain⟨h1,y,h2⟩:=S.pin i x (qan ea);rw[h2]at e1;refine .inl ⟨x,y,rfl,e1.symm,h2,?_⟩;rw[h1];obtain⟨v,h3,_⟩:=R0.at_ i _ (get_map ea);obtain⟨u,h4,h5⟩:=Ux h3;rw[qan h4,get_map h4]
   | d x=>exact .inr ⟨by rw[← e1];rfl,fun y=>by rw[← e1];exact fun z=>nomatch z⟩
   | m x=>exact .inr ⟨by rw[← e1];rfl,fun y=>by rw[← e1];exact fun z=>nomatch z⟩
   | p x=>exact .inr ⟨by rw[← e1];rfl,fun y=>by rw[← e1];exact fun z=>nomatch z⟩
   | xh=>exact .inr ⟨by rw[← e1];rfl,fun y=>by rw[← e1];exact fun z=>nomatch z⟩
   | u _ _=>exact .inr ⟨by rw[← e1];rfl,fun y=>by rw[← e1];exact fun z=>nomatch z⟩
 have own':∀{i:Nat} {l:L},((Gg ρ' 0 as).map some)[i]?=some (some l)→l.own=true→(∃x,as[i]?=some (.r x))∧ρ'[i]?=some (some l)∧σ'[i]?=(vs.map some)[i]?∧l.ism=false:=fun {i l} e o=>by
  rcases at' e with ⟨x,y,h1,rfl,h2,h3⟩ | ⟨h1,h2⟩
  ·exact⟨⟨x,h1⟩,h2,h3,rfl⟩
  ·obtain⟨x,rfl⟩:=qgb o (hm l (List.mem_of_getElem? h1));exact absurd rfl (h2 x)
 refine⟨⟨S.g,fun a o e=>?_,fun a o e nn=>S.fr a o e fun z=>nn (owU a z),S.hn,fun a ⟨i,l,e1,o,e3⟩=>?_,fun a ⟨i,l,e1,o,e3⟩=>?_,fun i x e=>?_⟩,⟨R.same,?_,fun i l e=>?_,R.exo,fun i j l l' a hij e1 e2 o1 o2 e3 e4=>?_⟩⟩
 ·rcases S.gf a o e with h | h | h
  ·exact .inl h
  ·exact .inr (.inl h)
  ·exact absurd h (om0 a)
 ·obtain⟨⟨x,h1⟩,h2,h3,_⟩:=own' e1 o;exact .inl ⟨i,_,get_map h1,rfl,e3⟩
 ·have o':l.own=true:=by cases l<;>first | rfl | cases o
  obtain⟨_,_,_,h⟩:=own' e1 o';rw[o]at h;cases h
 ·refine⟨rfl,?_⟩;obtain⟨l,e1,e2⟩:=Ux e;cases Option.some.inj e2;obtain⟨_,y,h2⟩:=S.pin i x (qan e1);refine⟨y,get_map ?_⟩;rw[O7,e1,Nat.zero_add,h2];rfl
 ·rw[List.length_map,List.length_map,xw];simpa using R0.len
 ·rcases at' e with ⟨x,y,h1,rfl,h2,h3⟩ | ⟨h1,h2⟩
  ·rw[← h3];exact R.at_ i _ h2
  ·obtain⟨v,h3,h4⟩:=R0.at_ i l (get_map h1);refine⟨v,h3,?_⟩;have hm1:=hm l (List.mem_of_getElem? h1);cases l with
   | d x=>exact Dq.mono S.g h4
   | m x=>cases hm1
   | r x=>exact absurd rfl (h2 x)
   | p x=>cases hm1
   | xh=>exact h4
   | u _ _=>exact h4
 ·obtain⟨_,f1,g1,_⟩:=own' e1 o1;obtain⟨_,f2,g2,_⟩:=own' e2 o2;rw[← g1]at e3;rw[← g2]at e4;exact R.sep i j l l' a hij f1 f2 o1 o2 e3 e4
end
def JSs (X:Cx) (xa:Option XA) (W:WX) (st:List Stmt) (m:SM):Prop:=∃t,PSs X st t∧Di ⟨X.K,xa⟩ W t m
theorem fn_ok {P:Program} {w:World} {K:PySem.W.Frag} {mg:Str→Option Value} {base:Heap} {x qual:Str} {st:Stmt} {f:Addr} {fd:FuncData} {N ps:List Str} {k:Nat} {body:SM} (F:Fun K x qual st f fd) (S:FnScope N ps (defScope st))
  (hb:∀(cdv:Value) (A:Around) (outer:List PySem.Env) (s:Shared) (H:Hp) (E:XK),Room k (A.deeper (envOfC qual (defScope st) s.heap.objs.size f cdv))→
   JSs (cxOf (L2.CX P w) P w K mg base N qual (defScope st) f cdv A outer s H E) none (fun cls d _ H=>E cls d H) (defBody st) body) :
  FnOk P w K mg base (L2.CX P w) (k+1) f fd ps (spF K ps.length (Ze N.length body)):=by
 refine F.okX S (fun vs H Q E h=>h.1) (fun cdv A outer s H vs Q E hr h=>?_);obtain⟨hl,G,as,Aok,hp⟩:=h;obtain⟨t,h1,h2⟩:=hb cdv A outer s H E hr;refine⟨t,h1,?_⟩;have len:as.length=vs.length:=by
  have:=Aok.1.len;simpa using this.symm
 have est:L2.start N vs=vs.map some++List.replicate (N.length-as.length) none:=by
  unfold L2.start;rw[len]
 rw[est];refine h2 _ G H (as.map some++List.replicate (N.length-as.length) none) (Rel.enter Aok) _ ?_;unfold Ze at hp;cases e:body (as.map some++List.replicate (N.length-as.length) none) with
 | bad=>rw[e]at hp;exact hp
 | ex x ρ'=>
  rw[e]at hp;intro c d σ' G' H' S' R' q;obtain⟨a,b⟩:=Rel.leave Aok S' R';exact hp c d G' H' a b q
 | ok fl ρ'=>
  rw[e]at hp;cases fl with
  | nx=>
   intro σ' G' H' S' R';obtain⟨a,b⟩:=Rel.leave Aok S' R';exact hp _ G' H' a b .non
  | bk=>exact hp.elim
  | ct=>exact hp.elim
  | rt l=>
   intro σ' v G' H' S' R' q;obtain⟨a,b⟩:=Rel.leave Aok S' R';refine hp v G' H' a b ?_;cases l with
   | d x=>exact q
   | r x=>exact q.elim
   | p x=>exact q.elim
   | xh=>exact q.elim
   | u _ _=>
    obtain⟨t,va,vb,h1,h2,h3,h4,h5⟩:=q;refine⟨t,va,vb,h1,h2,h3,h4,fun b eb=>?_⟩;rcases h5 b eb with h | ⟨i,l,e1,o,_⟩
    ·exact h
    ·have:=Aok.2 l (List.mem_of_getElem? (K6 e1));rw[o]at this;cases this
   | m x=>
    refine⟨q.1,fun b eb=>?_⟩;rcases q.2 b eb with h | ⟨i,l,e1,o,_⟩
    ·exact h
    ·have:=Aok.2 l (List.mem_of_getElem? (K6 e1));rw[o]at this;cases this
def mkArg (ρ:Env):X→Option L
 | .d x=>some (.d x)
 | .s i=>match ρ[i]? with
  | some (some (.m x))=>some (.r x)
  | some (some (.r x))=>some (.r x)
  | some (some (.d x))=>some (.d x)
  | _=>none
def Xf (ρ:Env):List X→Option (List L)
 | []=>some []
 | x::xs=>match mkArg ρ x,Xf ρ xs with
  | some a,some as=>some (a::as)
  | _,_=>none
theorem Bb {ρ:Env}:∀{xs:List X} {as:List L},Xf ρ xs=some as→as.length=xs.length∧∀(k:Nat) (x:X),xs[k]?=some x→∃a,as[k]?=some a∧mkArg ρ x=some a
 | [],as,e=>by
  cases Option.some.inj e;exact⟨rfl,fun k x h=>by simp at h⟩
 | x::xs,as,e=>by
  unfold Xf at e;split at e
  ·rename_i a as' e1 e2;cases Option.some.inj e;obtain⟨h1,h2⟩:=Bb e2;refine⟨by rw[List.length_cons,List.length_cons,h1],fun k y h=>?_⟩;cases k with
   | zero=>
    cases Option.some.inj h;exact⟨a,rfl,e1⟩
   | succ k=>exact h2 k y h
  ·cases e
theorem Lj {xs:List X} {i:Nat}:i∈slots xs↔∃k:Nat,xs[k]?=some (X.s i):=by
 induction xs with
 | nil=>simp[slots]
 | cons x xs ih=>
  cases x with
  | d y=>
   show i∈slots xs↔_;rw[ih];constructor
   ·rintro⟨k,h⟩;exact⟨k+1,h⟩
   ·rintro⟨k,h⟩;cases k with
    | zero=>cases Option.some.inj h
    | succ k=>exact⟨k,h⟩
  | s j=>
   show i∈j::slots xs↔_;rw[List.mem_cons,ih];constructor
   ·rintro (rfl | ⟨k,h⟩)
    ·exact⟨0,rfl⟩
    ·exact⟨k+1,h⟩
   ·rintro⟨k,h⟩;cases k with
    | zero=>
     cases Option.some.inj h;exact .inl rfl
    | succ k=>exact .inr ⟨k,h⟩
theorem qbN {xs:List X} (hn:(slots xs).Nodup) {k k' i:Nat} (h:xs[k]?=some (.s i)) (h':xs[k']?=some (.s i)):k=k':=by
 induction xs generalizing k k' with
 | nil=>simp at h
 | cons x xs ih=>
  cases x with
  | d y=>
   cases k with
   | zero=>cases Option.some.inj h
   | succ k=>
    cases k' with
    | zero=>cases Option.some.inj h'
    | succ k'=>rw[ih hn h h']
  | s j=>
   have hn:(j::slots xs).Nodup:=hn;rw[List.nodup_cons]at hn;cases k with
   | zero=>
    cases Option.some.inj h;cases k' with
    | zero=>rfl
    | succ k'=>exact absurd (Lj.mpr ⟨k',h'⟩) hn.1
   | succ k=>
    cases k' with
    | zero=>
     cases Option.some.inj h';exact absurd (Lj.mpr ⟨k,h⟩) hn.1
    | succ k'=>rw[ih hn.2 h h']
theorem putS_get {ρ:Env} {i j:Nat} {y:D}:(putS ρ i y)[j]?=if i=j then (ρ[j]?).map (fun o=>o.map fun l=>l.put y) else ρ[j]?:=by
 unfold putS;by_cases e:i=j
 ·subst e;rw[if_pos rfl];split
  ·rename_i l hl;rw[List.getElem?_set_self (List.getElem?_eq_some_iff.mp hl).1,hl];rfl
  ·rename_i hn;cases h:ρ[i]? with
   | none=>rfl
   | some o=>
    cases o with
    | none=>rfl
    | some l=>exact absurd h (hn l)
 ·rw[if_neg e];split
  ·rw[List.getElem?_set_ne e]
  ·rfl
theorem Ct {j:Nat}:∀{xs:List X} {as bs:List L} {ρ:Env},(slots xs).Nodup→as.length=xs.length→bs.length=xs.length→
  (∃(k:Nat) (x y:D),xs[k]?=some (X.s j)∧as[k]?=some (.r x)∧bs[k]?=some (.r y)∧(Yp ρ xs as bs)[j]?=(ρ[j]?).map (fun o=>o.map fun l=>l.put y))∨
  ((∀(k:Nat) (x y:D),xs[k]?=some (X.s j)→as[k]?=some (.r x)→bs[k]?≠some (.r y))∧(Yp ρ xs as bs)[j]?=ρ[j]?)
 | [],as,bs,ρ,_,_,_=>.inr ⟨fun k x y h=>by simp at h,by unfold Yp;rfl⟩
 | x::xs,[],_,_,_,h,_=>by cases h
 | x::xs,_::_,[],_,_,_,h=>by cases h
 | x::xs,a::as,b::bs,ρ,hn,ha,hb=>by
  have ha':as.length=xs.length:=Nat.succ.inj ha;have hb':bs.length=xs.length:=Nat.succ.inj hb;have hn':(slots xs).Nodup:=by
   cases x with
   | d _=>exact hn
   | s i=>exact (List.nodup_cons.mp (show (i::slots xs).Nodup from hn)).2
  have skip:(∀x' y,x=.s j→a=.r x'→b≠.r y)→Yp ρ (x::xs) (a::as) (b::bs)=Yp ρ xs as bs→
    (∃(k:Nat) (x' y:D),(x::xs)[k]?=some (.s j)∧(a::as)[k]?=some (.r x')∧(b::bs)[k]?=some (.r y)∧(Yp ρ (x::xs) (a::as) (b::bs))[j]?=(ρ[j]?).map (fun o=>o.map fun l=>l.put y))∨
    ((∀(k:Nat) (x' y:D),(x::xs)[k]?=some (.s j)→(a::as)[k]?=some (.r x')→(b::bs)[k]?≠some (.r y))∧(Yp ρ (x::xs) (a::as) (b::bs))[j]?=ρ[j]?):=fun h0 h1=>by
   rw[h1];rcases Ct (j:=j) (ρ:=ρ) hn' ha' hb' with ⟨k,x',y,e1,e2,e3,e4⟩ | ⟨e1,e2⟩
   ·exact .inl ⟨k+1,x',y,e1,e2,e3,e4⟩
   ·refine .inr ⟨fun k x' y f1 f2 f3=>?_,e2⟩;cases k with
    | zero=>exact h0 x' y (Option.some.inj f1) (Option.some.inj f2) (Option.some.inj f3)
    | succ k=>exact e1 k x' y f1 f2 f3
  cases x with
  | d z=>exact skip (fun _ _ q=>nomatch q) (by cases a<;>cases b<;>rfl)
  | s i=>
   cases a with
   | r u=>
    cases b with
    | r y=>
     have e0:Yp ρ (.s i::xs) (.r u::as) (.r y::bs)=Yp (putS ρ i y) xs as bs:=rfl;rw[e0];have hni:=(List.nodup_cons.mp (show (i::slots xs).Nodup from hn)).1;by_cases e:i=j
     ·subst e;rcases Ct (j:=i) (ρ:=putS ρ i y) hn' ha' hb' with ⟨k,x',y',e1,e2,e3,e4⟩ | ⟨e1,e2⟩
      ·exact absurd (Lj.mpr ⟨k,e1⟩) hni
      ·refine .inl ⟨0,u,y,rfl,rfl,rfl,?_⟩;rw[e2,putS_get,if_pos rfl]
     ·rcases Ct (j:=j) (ρ:=putS ρ i y) hn' ha' hb' with ⟨k,x',y',e1,e2,e3,e4⟩ | ⟨e1,e2⟩
      ·refine .inl ⟨k+1,x',y',e1,e2,e3,?_⟩;rw[e4,putS_get,if_neg e]
      ·refine .inr ⟨fun k x' y f1 f2 f3=>?_,?_⟩
       ·cases k with
        | zero=>
         cases Option.some.inj f1;exact e rfl
        | succ k=>exact e1 k x' y f1 f2 f3
       ·rw[e2,putS_get,if_neg e]
    | d _=>exact skip (fun _ _ _ _ q=>nomatch q) rfl
    | m _=>exact skip (fun _ _ _ _ q=>nomatch q) rfl
    | p _=>exact skip (fun _ _ _ _ q=>nomatch q) rfl
    | xh=>exact skip (fun _ _ _ _ q=>nomatch q) rfl
    | u _ _=>exact skip (fun _ _ _ _ q=>nomatch q) rfl
   | d _=>exact skip (fun _ _ _ q=>nomatch q) (by cases b<;>rfl)
   | m _=>exact skip (fun _ _ _ q=>nomatch q) (by cases b<;>rfl)
   | p _=>exact skip (fun _ _ _ q=>nomatch q) (by cases b<;>rfl)
   | xh=>exact skip (fun _ _ _ q=>nomatch q) (by cases b<;>rfl)
   | u _ _=>exact skip (fun _ _ _ q=>nomatch q) (by cases b<;>rfl)
section
variable {K:Kx} {σ:L2.St} {G H G' H':Hp} {ρ:Env} {vs:List V} {xs:List X} {as bs:List L}
theorem Tx.get:∀{xs:List X} {vs:List V} {k:Nat} {x:X},Tx K σ G vs xs→xs[k]?=some x→∃v,vs[k]?=some v∧XOk K σ G v x
 | _,_,_,_,.nil,e=>by simp at e
 | _,_,0,_,.cons h _,e=>by cases Option.some.inj e;exact⟨_,rfl,h⟩
 | _,_,k+1,x,.cons _ t,e=>Tx.get (k:=k) t e
theorem Tx.len:∀{xs:List X} {vs:List V},Tx K σ G vs xs→vs.length=xs.length
 | _,_,.nil=>rfl
 | _,_,.cons _ t=>by rw[List.length_cons,List.length_cons,Tx.len t]
theorem C3 {v:V} {x:X} {a:L} (R:Rel K σ G H ρ) (h:XOk K σ G v x) (e:mkArg ρ x=some a) :
  LOk K G H v a∧a.ism=false∧(a.own=true→∃i l,x=.s i∧ρ[i]?=some (some l)∧l.own=true∧σ[i]?=some (some v)):=by
 cases x with
 | d y=>
  cases Option.some.inj e;exact⟨h,rfl,fun z=>nomatch z⟩
 | s i=>
  have hv:σ[i]?=some (some v):=h;unfold mkArg at e;simp only at e;split at e
  ·rename_i y hy;cases Option.some.inj e;obtain⟨u,h1,h2⟩:=R.at_ i _ hy;rw[hv]at h1;cases Option.some.inj (Option.some.inj h1);exact⟨h2,rfl,fun _=>⟨i,_,rfl,hy,rfl,hv⟩⟩
  ·rename_i y hy;cases Option.some.inj e;obtain⟨u,h1,h2⟩:=R.at_ i _ hy;rw[hv]at h1;cases Option.some.inj (Option.some.inj h1);exact⟨h2,rfl,fun _=>⟨i,_,rfl,hy,rfl,hv⟩⟩
  ·rename_i y hy;cases Option.some.inj e;obtain⟨u,h1,h2⟩:=R.at_ i _ hy;rw[hv]at h1;cases Option.some.inj (Option.some.inj h1);exact⟨h2,rfl,fun z=>nomatch z⟩
  ·cases e
theorem z6 (R:Rel K σ G H ρ) (X1:Tx K σ G vs xs) (e:Xf ρ xs=some as) (hn:(slots xs).Nodup):qdL ⟨K.k,none⟩ G H vs as:=by
 obtain⟨hl,hg⟩:=Bb e;have at':∀{k:Nat} {a:L},as[k]?=some a→∃x v,xs[k]?=some x∧vs[k]?=some v∧XOk K σ G v x∧mkArg ρ x=some a:=fun {k a} ha=>by
  have hk:k<xs.length:=by rw[← hl];exact (List.getElem?_eq_some_iff.mp ha).1
  obtain⟨a',h1,h2⟩:=hg k xs[k] (List.getElem?_eq_getElem hk);rw[ha]at h1;cases Option.some.inj h1;obtain⟨v,h3,h4⟩:=X1.get (List.getElem?_eq_getElem hk);exact⟨_,v,List.getElem?_eq_getElem hk,h3,h4,h2⟩
 refine⟨⟨R.same,?_,fun k a e1=>?_,(fun y h=>nomatch h),fun k k' a a' b hkk e1 e2 o1 o2 e3 e4=>?_⟩,fun a ha=>?_⟩
 ·rw[List.length_map,List.length_map,X1.len,hl]
 ·obtain⟨a',e2,e3⟩:=Ux e1;cases Option.some.inj e3;obtain⟨x,v,h1,h2,h3,h4⟩:=at' e2;obtain⟨q,q2,_⟩:=C3 R h3 h4;refine⟨v,get_map h2,?_⟩;cases a with
  | d x=>exact q
  | m x=>exact q
  | r x=>exact q
  | p x=>exact⟨q.1,fun y e=>nomatch e⟩
  | xh=>
   unfold mkArg at h4;split at h4
   ·cases h4
   ·split at h4<;>cases h4
  | u _ _=>
   unfold mkArg at h4;split at h4
   ·cases h4
   ·split at h4<;>cases h4
 ·obtain⟨c,f1,f2⟩:=Ux e1;cases Option.some.inj f2;obtain⟨c',g1,g2⟩:=Ux e2;cases Option.some.inj g2;obtain⟨x,v,h1,h2,h3,h4⟩:=at' f1;obtain⟨x',v',h1',h2',h3',h4'⟩:=at' g1;obtain⟨_,_,q⟩:=C3 R h3 h4;obtain⟨_,_,q'⟩:=C3 R h3' h4';obtain⟨i,l,rfl,p1,p2,p3⟩:=q o1;obtain⟨i',l',rfl,p1',p2',p3'⟩:=q' o2;have hii:i≠i':=fun z=>by
   subst z;exact hkk (qbN hn h1 h1')
  rw[get_map h2]at e3;cases Option.some.inj (Option.some.inj e3);rw[get_map h2']at e4;cases Option.some.inj (Option.some.inj e4);exact R.sep i i' l l' b hii p1 p1' p2 p2' p3 p3'
 ·obtain⟨k,hk⟩:=List.getElem?_of_mem ha;obtain⟨x,v,h1,h2,h3,h4⟩:=at' hk;exact (C3 R h3 h4).2.1
theorem Li (R:Rel K σ G H ρ) (X1:Tx K σ G vs xs) (e:Xf ρ xs=some as) (hn:(slots xs).Nodup)
  (S:Stp (vs.map some) (as.map some) G H (vs.map some) (bs.map some) G' H') (R':Rel ⟨K.k,none⟩ (vs.map some) G' H' (bs.map some)):Stp σ ρ G H σ (Yp ρ xs as bs) G' H'∧Rel K σ G' H' (Yp ρ xs as bs)∧∀a,Own σ (Yp ρ xs as bs) a→Own σ ρ a:=by
 obtain⟨hl,hg⟩:=Bb e;have hb:bs.length=xs.length:=by
  have:=R'.len;rw[List.length_map,List.length_map,X1.len]at this;exact this.symm
 have arg:∀{k:Nat} {x:D},as[k]?=some (.r x)→∃i l v,xs[k]?=some (.s i)∧vs[k]?=some v∧ρ[i]?=some (some l)∧l.own=true∧σ[i]?=some (some v):=fun {k x} ha=>by
  have hk:k<xs.length:=by rw[← hl];exact (List.getElem?_eq_some_iff.mp ha).1
  obtain⟨a',h1,h2⟩:=hg k xs[k] (List.getElem?_eq_getElem hk);rw[ha]at h1;cases Option.some.inj h1;obtain⟨v,h3,h4⟩:=X1.get (List.getElem?_eq_getElem hk);obtain⟨i,l,e1,e2,e3,e4⟩:=(C3 R h4 h2).2.2 rfl;exact⟨i,l,v,by rw[List.getElem?_eq_getElem hk,e1],h3,e2,e3,e4⟩
 have asm:∀a∈as,a.ism=false:=(z6 R X1 e hn).2;have ow0:∀a,Own (vs.map some) (as.map some) a→Own σ ρ a:=fun a ⟨k,l,e1,o,e3⟩=>by
  obtain⟨l',f1,f2⟩:=Ux e1;cases Option.some.inj f2;obtain⟨x,rfl⟩:=qgb o (asm l (List.mem_of_getElem? f1));obtain⟨i,l2,v,h1,h2,h3,h4,h5⟩:=arg f1;rw[get_map h2]at e3;cases Option.some.inj (Option.some.inj e3);exact⟨i,l2,h3,h4,h5⟩
 have om0:∀a,¬Bq (vs.map some) (as.map some) a:=fun a ⟨k,l,e1,o,e3⟩=>by
  obtain⟨l',f1,f2⟩:=Ux e1;cases Option.some.inj f2;rw[asm l (List.mem_of_getElem? f1)]at o;cases o
 have at':∀{j:Nat} {l:L},(Yp ρ xs as bs)[j]?=some (some l)→(∃(k:Nat) (x y:D) (l0:L) (v:V),xs[k]?=some (X.s j)∧as[k]?=some (.r x)∧bs[k]?=some (.r y)∧ρ[j]?=some (some l0)∧l0.own=true∧l=l0.put y∧vs[k]?=some v∧σ[j]?=some (some v))∨
   (ρ[j]?=some (some l)∧∀(k:Nat) (x y:D),xs[k]?=some (X.s j)→as[k]?=some (.r x)→bs[k]?≠some (.r y)):=fun {j l} hj=>by
  rcases Ct (j:=j) (ρ:=ρ) hn hl hb with ⟨k,x,y,e1,e2,e3,e4⟩ | ⟨e1,e2⟩
  ·rw[e4]at hj;obtain⟨i,l0,v,h1,h2,h3,h4,h5⟩:=arg e2;rw[e1]at h1;cases Option.some.inj h1;rw[h3]at hj;exact .inl ⟨k,x,y,l0,v,e1,e2,e3,h3,h4,(Option.some.inj (Option.some.inj hj)).symm,h2,h5⟩
  ·rw[e2]at hj;exact .inr ⟨hj,e1⟩
 have own':∀{j:Nat} {l:L},(Yp ρ xs as bs)[j]?=some (some l)→l.own=true→∃l0,ρ[j]?=some (some l0)∧l0.own=true∧l0.ism=l.ism:=fun {j l} hj o=>by
  rcases at' hj with ⟨k,x,y,l0,v,_,_,_,h4,h5,rfl,_⟩ | ⟨h,_⟩
  ·exact⟨l0,h4,h5,(L.qbW l0 y).symm⟩
  ·exact⟨l,h,o,rfl⟩
 have apart:∀{j:Nat} {l:L} {a:Addr},ρ[j]?=some (some l)→l.own=true→σ[j]?=some (some (.ref a))→(∀(k:Nat) (x y:D),xs[k]?=some (X.s j)→as[k]?=some (.r x)→bs[k]?≠some (.r y))→¬Own (vs.map some) (as.map some) a:=fun {j l a} h1 h2 h3 h4 ⟨k,l',e1,o,e3⟩=>by
  obtain⟨l'',f1,f2⟩:=Ux e1;cases Option.some.inj f2;obtain⟨x,rfl⟩:=qgb o (asm l' (List.mem_of_getElem? f1));obtain⟨i,l2,v,g1,g2,g3,g4,g5⟩:=arg f1;rw[get_map g2]at e3;cases Option.some.inj (Option.some.inj e3);by_cases q:i=j
  ·subst q;obtain⟨_,y,p2⟩:=S.pin k x e1;obtain⟨z,p3,p4⟩:=Ux p2;cases Option.some.inj p4;exact h4 k x y g1 f1 p3
  ·exact R.sep i j l2 l a q g3 h1 g4 h2 g5 h3
 refine⟨⟨S.g,fun a o h=>?_,fun a o h n=>S.fr a o h fun z=>n (ow0 a z),S.hn,fun a ⟨j,l,e1,o,e3⟩=>?_,fun a ⟨j,l,e1,o,e3⟩=>?_,fun j x h=>?_⟩,⟨R'.same,?_,fun j l h=>?_,fun y h=>(R.exo y h).mono S.g,fun j j' l l' a hjj e1 e2 o1 o2 e3 e4=>?_⟩,fun a ⟨j,l,e1,o,e3⟩=>?_⟩
 ·rcases S.gf a o h with h | h | h
  ·exact .inl h
  ·exact .inr (.inl h)
  ·exact absurd h (om0 a)
 ·obtain⟨l0,h1,h2,_⟩:=own' e1 o;exact .inl ⟨j,l0,h1,h2,e3⟩
 ·have o':l.own=true:=by cases l<;>first | rfl | cases o
  obtain⟨l0,h1,h2,h3⟩:=own' e1 o';exact .inl ⟨j,l0,h1,by rw[h3];exact o,e3⟩
 ·refine⟨rfl,?_⟩;rcases Ct (j:=j) (ρ:=ρ) hn hl hb with ⟨k,x',y,_,_,_,e4⟩ | ⟨_,e2⟩
  ·rw[e4,h];exact⟨y,rfl⟩
  ·rw[e2];exact⟨x,h⟩
 ·have:∀{xs:List X} {as bs:List L} {ρ:Env},(Yp ρ xs as bs).length=ρ.length:=fun {xs}=>by
   induction xs with
   | nil=>intro as bs ρ;unfold Yp;rfl
   | cons x xs ih=>
    intro as bs ρ;have lp:∀{ρ:Env} {i:Nat} {y:D},(putS ρ i y).length=ρ.length:=fun {ρ i y}=>by
     unfold putS;split
     ·rw[List.length_set]
     ·rfl
    cases as with
    | nil=>cases x<;>rfl
    | cons a as=>
     cases bs with
     | nil=>cases x<;>cases a<;>rfl
     | cons b bs=>
      cases x with
      | d _=>exact (show (Yp ρ xs as bs).length=_ from ih)
      | s i=>
       cases a with
       | r u=>
        cases b with
        | r y=>exact (show (Yp (putS ρ i y) xs as bs).length=_ from ih.trans lp)
        | d _=>exact (show (Yp ρ xs as bs).length=_ from ih)
        | m _=>exact (show (Yp ρ xs as bs).length=_ from ih)
        | p _=>exact (show (Yp ρ xs as bs).length=_ from ih)
        | xh=>exact (show (Yp ρ xs as bs).length=_ from ih)
        | u _ _=>exact (show (Yp ρ xs as bs).length=_ from ih)
       | d _=>exact (show (Yp ρ xs as bs).length=_ from by cases b<;>exact ih)
       | m _=>exact (show (Yp ρ xs as bs).length=_ from by cases b<;>exact ih)
       | p _=>exact (show (Yp ρ xs as bs).length=_ from by cases b<;>exact ih)
       | xh=>exact (show (Yp ρ xs as bs).length=_ from by cases b<;>exact ih)
       | u _ _=>exact (show (Yp ρ xs as bs).length=_ from by cases b<;>exact ih)
  rw[this];exact R.len
 ·rcases at' h with ⟨k,x,y,l0,v,h1,h2,h3,h4,h5,rfl,h7,h8⟩ | ⟨h1,h2⟩
  ·obtain⟨u,q1,q2⟩:=R'.at_ k _ (get_map h3);rw[get_map h7]at q1;cases Option.some.inj (Option.some.inj q1);refine⟨v,h8,?_⟩;cases l0 with
   | d _=>cases h5
   | p _=>
    obtain⟨u',z1,z2⟩:=R.at_ _ _ h4;rw[h8]at z1;cases Option.some.inj (Option.some.inj z1);exact⟨q2,z2.2⟩
   | xh=>cases h5
   | u _ _=>cases h5
   | m _=>exact q2
   | r _=>exact q2
  ·obtain⟨v,q1,q2⟩:=R.at_ j l h1;refine⟨v,q1,?_⟩;have ow:∀y,l.own=true→MOk K G H v y→MOk K G' H' v y:=fun y ol hm=>by
    refine hm.mono S.g fun a ea=>?_;subst ea;obtain⟨a',ea',ga,ha⟩:=hm.ref;cases ea';have np:=apart h1 ol q1 h2;refine⟨?_,fun o ho=>S.fr a o ho np⟩;cases q:G' a with
    | none=>rfl
    | some o=>
     rcases S.gf a o q with z | z | z
     ·rw[ga]at z;cases z
     ·exact absurd z ha
     ·exact absurd z (om0 a)
   cases l with
   | d y=>exact Dq.mono S.g q2
   | m y=>exact ow y rfl q2
   | r y=>exact ow y rfl q2
   | p y=>exact⟨ow y rfl q2.1,q2.2⟩
   | xh=>exact q2
   | u _ _=>exact q2
 ·obtain⟨l0,h1,h2,_⟩:=own' e1 o1;obtain⟨l0',h1',h2',_⟩:=own' e2 o2;exact R.sep j j' l0 l0' a hjj h1 h1' h2 h2' e3 e4
 ·obtain⟨l0,h1,h2,_⟩:=own' e1 o;exact⟨j,l0,h1,h2,e3⟩
end
def Q6 (n:Nat) (F:List L→FRes) (ma:AM):EM:=fun ρ=>bindR (ma ρ) fun xs ρ1=>match Xf ρ1 xs with
 | none=>.bad
 | some as=>if xs.length=n∧(slots xs).Nodup then (match F as with
  | .ok (.d x) bs=>.ok (.d x) (Yp ρ1 xs as bs)
  | .ok (.m x) bs=>.ok (.d x) (Yp ρ1 xs as bs)
  | .ok _ _=>.bad
  | .ex e bs=>.ex e (Yp ρ1 xs as bs)
  | .bad=>.bad) else .bad
def vi (n:Nat) (F:List L→FRes) (ma:AM):FM:=fun ρ=>bindR (ma ρ) fun xs ρ1=>match Xf ρ1 xs with
 | none=>.bad
 | some as=>if xs.length=n∧(slots xs).Nodup then (match F as with
  | .ok (.m x) bs=>.ok x (Yp ρ1 xs as bs)
  | .ok _ _=>.bad
  | .ex e bs=>.ex e (Yp ρ1 xs as bs)
  | .bad=>.bad) else .bad
def qhu (ma:AM) (ds:List D):AM:=fun ρ=>bindR (ma ρ) fun xs ρ1=>.ok (xs++ds.map .d) ρ1
def qpG (t:TA) (dvs:List V):TA:=fun σ H Q=>t σ H fun vs H1=>Q (vs++dvs) H1
theorem DqA.xs {K:Kx} {σ:L2.St} {G:Hp}:∀{vs:List V} {ds:List D},DqA K G vs ds→Tx K σ G vs (ds.map .d)
 | _,_,.nil=>.nil
 | _,_,.cons h t=>.cons h (DqA.xs t)
theorem Tx.app {K:Kx} {σ:L2.St} {G:Hp}:∀{vs us:List V} {xs ys:List X},Tx K σ G vs xs→Tx K σ G us ys→Tx K σ G (vs++us) (xs++ys)
 | _,_,_,_,.nil,h=>h
 | _,_,_,_,.cons h t,u=>.cons h (Tx.app t u)
theorem qkJ {K:Kx} {W:WX} {t:TA} {ma:AM} {dvs:List V} {ds:List D} (ht:Bx K W t ma) (hd:∀G,DqA K G dvs ds):Bx K W (qpG t dvs) (qhu ma ds):=fun σ G H ρ R Q h=>by
 unfold qhu bindR at h;refine ht.fst R (fun x ρ1 e v G1 H1 S1 R1 x1=>?_) (fun e ρ1 q=>by rw[q]at h;exact h) (fun q=>by rw[q]at h;exact h);rw[e]at h;have h:=Iy.step S1 h;exact h _ G1 H1 (Stp.refl _ _ _ _) R1 (x1.app (hd G1).xs)
theorem Own.there {K:Kx} {σ:L2.St} {G H:Hp} {ρ:Env} {a:Addr} (R:Rel K σ G H ρ) (h:Own σ ρ a):H a≠none:=by
 obtain⟨i,l,h1,h2,h3⟩:=h;obtain⟨v,h4,h5⟩:=R.at_ i l h1;rw[h3]at h4;cases Option.some.inj (Option.some.inj h4);have own:∀x,MOk K G H (.ref a) x→H a≠none:=fun x hm=>by
  obtain⟨b,eb,_,h⟩:=hm.ref;cases eb;exact h
 cases l with
 | d x=>cases h2
 | m x=>exact own x h5
 | r x=>exact own x h5
 | p x=>exact own x h5.1
 | xh=>cases h2
 | u _ _=>cases h2
variable {K:Kx} {W:WX}
theorem qc8 {n:Nat} {F:List L→FRes} {t:TA} {ma:AM} (ht:Bx K W t ma):Yx K W (tCallSD (spF K.k n F) [] (WE W) t) (Q6 n F ma):=fun σ G H ρ R Q h=>by
 unfold Q6 bindR at h;refine ht.fst R (fun xs ρ1 e vs G1 H1 S1 R1 x1=>?_) (fun e ρ1 q=>by rw[q]at h;exact h) (fun q=>by rw[q]at h;exact h);rw[e]at h;have h:=EPost.step S1 h;simp only at h;split at h
 ·exact h.elim
 ·rename_i as ea;split at h
  ·rename_i hnn;have hnd:=hnn.2;have A:=z6 R1 x1 ea hnd;rw[List.append_nil];refine⟨x1.len.trans hnn.1,G1,as,A,?_⟩;cases eF:F as with
   | bad=>rw[eF]at h;exact h
   | ex x bs=>
    rw[eF]at h;intro c d G' H' S' R' q;obtain⟨a,b,_⟩:=Li R1 x1 ea hnd S' R';exact h c d G' H' a b q
   | ok l bs=>
    rw[eF]at h;intro v G' H' S' R' q;obtain⟨a,b,o⟩:=Li R1 x1 ea hnd S' R';cases l with
    | d x=>exact h v G' H' a b q
    | m x=>
     have F:Frs K σ H1 (Yp ρ1 xs as bs) G' H' v x:=⟨q.1,fun a ea=>⟨q.2 a ea,fun z=>Own.there R1 (o a z) (q.2 a ea)⟩⟩;obtain⟨G2,S2,R2,q2⟩:=Frs.lock a b F;exact h v G2 H' S2 R2 q2
    | r x=>exact h.elim
    | p x=>exact h.elim
    | xh=>exact h.elim
    | u _ _=>exact h.elim
  ·exact h.elim
theorem qgW {n:Nat} {F:List L→FRes} {t:TA} {ma:AM} (ht:Bx K W t ma):qbB K W (tCallSD (spF K.k n F) [] (WE W) t) (vi n F ma):=fun σ G H ρ R Q h=>by
 unfold vi bindR at h;refine ht.fst R (fun xs ρ1 e vs G1 H1 S1 R1 x1=>?_) (fun e ρ1 q=>by rw[q]at h;exact h) (fun q=>by rw[q]at h;exact h);rw[e]at h;have h:=Tz.step S1 h;simp only at h;split at h
 ·exact h.elim
 ·rename_i as ea;split at h
  ·rename_i hnn;have hnd:=hnn.2;have A:=z6 R1 x1 ea hnd;rw[List.append_nil];refine⟨x1.len.trans hnn.1,G1,as,A,?_⟩;cases eF:F as with
   | bad=>rw[eF]at h;exact h
   | ex x bs=>
    rw[eF]at h;intro c d G' H' S' R' q;obtain⟨a,b,_⟩:=Li R1 x1 ea hnd S' R';exact h c d G' H' a b q
   | ok l bs=>
    rw[eF]at h;intro v G' H' S' R' q;obtain⟨a,b,o⟩:=Li R1 x1 ea hnd S' R';cases l with
    | m x=>exact h v G' H' a b ⟨q.1,fun a ea=>⟨q.2 a ea,fun z=>Own.there R1 (o a z) (q.2 a ea)⟩⟩
    | d x=>exact h.elim
    | r x=>exact h.elim
    | p x=>exact h.elim
    | xh=>exact h.elim
    | u _ _=>exact h.elim
  ·exact h.elim
variable {X:Cx}
section
variable {K:PySem.W.Frag} {G H:Hp} {v:V}
theorem Vw.int {i:Int} (h:Vw K G H v (.int i)):v=.int i:=by cases h;rfl
theorem Vw.bl {i:Bool} (h:Vw K G H v (.bl i)):v=.bl i:=by cases h;rfl
theorem Vw.str {i:Str} (h:Vw K G H v (.str i)):v=.str i:=by cases h;rfl
theorem Vw.non (h:Vw K G H v .non):v=.non:=by cases h;rfl
theorem Vw.tup {ds:List D} (h:Vw K G H v (.tup ds)):∃p xs,v=.ref p∧SqN K G p xs∧DqA K G xs ds:=by
 cases h with
 | tup h a=>exact⟨_,_,rfl,h,a⟩
theorem Vw.lst {ds:List D} (h:Vw K G H v (.lst ds)):∃p xs,v=.ref p∧H p=some (.lst xs)∧DqA K G xs ds:=h
theorem qeL {d:D} {Q:VK} {w:V} (s:Same G H) (h:x6 K G H d Q) (q:Dq K G w d):Q w H:=h w G H (Gro.refl s) q
theorem J7 {i:Int} {Q:VK} (s:Same G H) (h:x6 K G H (.int i) Q):Q (.int i) H:=qeL s h (.int i)
theorem Rk {b:Bool} {Q:VK} (s:Same G H) (h:x6 K G H (.bl b) Q):Q (.bl b) H:=qeL s h (.bl b)
theorem qeK {b:Str} {Q:VK} (s:Same G H) (h:x6 K G H (.str b) Q):Q (.str b) H:=qeL s h (.str b)
theorem Lc {ds:List D} {xs:List V} {Q:VK} {p:Addr} (s:Same G H) (hp:H p=none) (q:DqA K G xs ds) (h:x6 K G H (.lst ds) Q):Q (.ref p) (upd H p (.lst xs)):=by
 have g:=Gro.new (o:=.lst xs) s hp;exact h _ _ _ g (.lst upd_same (q.mono g.g))
theorem Lb {ds:List D} {xs:List V} {Q:VK} (s:Same G H) (q:DqA K G xs ds) (h:x6 K G H (.tup ds) Q):qhP H xs Q:=fun p o ho hp=>by
 have g:=Gro.new (o:=.frz o (.tup xs)) s hp;exact h _ _ _ g (.tup (.inl ⟨o,upd_same,ho⟩) (q.mono g.g))
def qaV:D→Option (List D)
 | .lst ds=>some ds
 | .ro ds=>some ds
 | _=>none
def qig:D→Option (List D)
 | .lst ds=>some ds
 | .ro ds=>some ds
 | .tup ds=>some ds
 | _=>none
theorem Mc {a:D} {ds:List D} (s:Same G H) (h:Vw K G H v a) (e:qaV a=some ds):∃p xs,v=.ref p∧SqL K H p xs∧DqA K G xs ds:=by
 cases a with
 | lst es=>
  cases Option.some.inj e;obtain⟨p,xs,e,h,q⟩:=h;exact⟨p,xs,e,.inl (.inl h),q⟩
 | ro es=>
  cases Option.some.inj e;cases h with
  | ro h a=>exact⟨_,_,rfl,s.seq h,a⟩
 | _=>cases e
theorem qbP {a:D} {ds:List D} (s:Same G H) (h:Vw K G H v a) (e:qig a=some ds):∃p xs,v=.ref p∧(SqL K H p xs∨SqT K H p xs)∧DqA K G xs ds:=by
 cases a with
 | lst es=>
  obtain⟨p,xs,h1,h2,h3⟩:=Mc s h (show qaV (.lst es)=some ds from e);exact⟨p,xs,h1,.inl h2,h3⟩
 | ro es=>
  obtain⟨p,xs,h1,h2,h3⟩:=Mc s h (show qaV (.ro es)=some ds from e);exact⟨p,xs,h1,.inl h2,h3⟩
 | tup es=>
  cases Option.some.inj e;obtain⟨p,xs,h1,h2,h3⟩:=Vw.tup h;exact⟨p,xs,h1,.inr (Same.seqN s h2).sq,h3⟩
 | _=>cases e
theorem DqA.isNil {xs:List V} {ds:List D} (q:DqA K G xs ds):xs=[]↔ds=[]:=by
 cases q with
 | nil=>simp
 | cons _ _=>simp
end
def Vb:D→D→Option D
 | .int i,.int j=>some (.int (i+j))
 | .str x,.str y=>if x.length+y.length≤mx then some (.str (x++y)) else none
 | .lst x,.lst y=>if x.length+y.length≤mx then some (.lst (x++y)) else none
 | .tup x,.tup y=>if x.length+y.length≤mx then some (.tup (x++y)) else none
 | _,_=>none
theorem Qv:OpR X (binaryOp .Add) (rD2 X.K Vb):=by
 intro pins s σ H x y v u Q I rx ry h;obtain⟨G,a,b,d,sG,va,vb,e,q⟩:=h;unfold Vb at e;split at e
 ·cases Option.some.inj e;rw[va.int]at rx;rw[vb.int]at ry;exact op_add pins s σ H _ _ v u Q I rx ry ⟨_,_,rfl,rfl,J7 sG q⟩
 ·split at e
  ·rename_i hz;cases Option.some.inj e;rw[va.str]at rx;rw[vb.str]at ry;exact op_add_str pins s σ H _ _ v u Q I rx ry ⟨_,_,rfl,rfl,Yc hz,qeK sG q⟩
  ·cases e
 ·split at e
  ·rename_i hz;cases Option.some.inj e;obtain⟨p,xs,rfl,h1,h2⟩:=va.lst;obtain⟨p',ys,rfl,h1',h2'⟩:=vb.lst;exact op_cat pins s σ H _ _ v u Q I rx ry ⟨p,p',xs,ys,rfl,rfl,h1,h1',by rw[h2.length,h2'.length];exact Yc hz,fun r hr=>Lc sG hr (h2.append h2') q⟩
  ·cases e
 ·split at e
  ·rename_i hz;cases Option.some.inj e;obtain⟨p,xs,rfl,h1,h2⟩:=va.tup;obtain⟨p',ys,rfl,h1',h2'⟩:=vb.tup;refine qgg pins s σ H _ _ v u Q I rx ry ⟨p,p',xs,ys,rfl,rfl,(Same.seqN sG h1).sq,(Same.seqN sG h1').sq,by rw[h2.length,h2'.length];exact Yc hz,fun z=>?_,fun _ z=>?_,fun _ _=>Lb sG (h2.append h2') q⟩
   ·rw[h2.isNil]at z;subst z;exact qeL sG q (.tup h1' h2')
   ·rw[h2'.isNil]at z;subst z;rw[List.append_nil]at q;exact qeL sG q (.tup h1 h2)
  ·cases e
 ·cases e
def Gi:D→D→Option D
 | .int i,.int j=>some (.int (i-j))
 | _,_=>none
theorem Zq:OpR X (binaryOp .Sub) (rD2 X.K Gi):=by
 intro pins s σ H x y v u Q I rx ry h;obtain⟨G,a,b,d,sG,va,vb,e,q⟩:=h;unfold Gi at e;split at e
 ·cases Option.some.inj e;rw[va.int]at rx;rw[vb.int]at ry;exact op_sub pins s σ H _ _ v u Q I rx ry ⟨_,_,rfl,rfl,J7 sG q⟩
 ·cases e
def big:Nat:=2 ^ 5000
theorem qj {i:Nat} (h:i<big):i.log2<5000:=PySem.Flt.log2_lt_of (by decide) h
def Jj (i j:Int):Prop:=i.natAbs<2 ^ 64∨j.natAbs<2 ^ 64∨(i.natAbs<big∧j.natAbs<big)
instance (i j:Int):Decidable (Jj i j):=inferInstanceAs (Decidable (_∨_∨_))
theorem Jj.ok {i j:Int} (h:Jj i j):IntMulOk i j:=by
 rcases h with h | h | ⟨h1,h2⟩
 ·exact CMul.ok (.inl ⟨by omega,by omega⟩)
 ·exact CMul.ok (.inr ⟨by omega,by omega⟩)
 ·refine CMulW.ok ?_;have a:=qj h1;have b:=qj h2;unfold CMulW;omega
def qp1 (k:Int) (ds:List D):Option (List D):=if -(2 ^ 63)≤k∧k<2 ^ 63∧ds.length*k.toNat≤mx then some (List.replicate k.toNat ds).flatten else none
theorem DqA.rep {K:PySem.W.Frag} {G:Hp} {xs:List V} {ds:List D} (q:DqA K G xs ds):∀n:Nat,DqA K G (List.replicate n xs).flatten (List.replicate n ds).flatten
 | 0=>.nil
 | n+1=>by
  rw[List.replicate_succ,List.replicate_succ,List.flatten_cons,List.flatten_cons];exact q.append (DqA.rep q n)
def Kz:D→D→Option D
 | .int i,.int j=>if Jj i j then some (.int (i*j)) else none
 | .lst x,.int k=>(qp1 k x).map .lst
 | _,_=>none
theorem Q4:OpR X (binaryOp .Mult) (rD2 X.K Kz):=by
 intro pins s σ H x y v u Q I rx ry h;obtain⟨G,a,b,d,sG,va,vb,e,q⟩:=h;unfold Kz at e;split at e
 ·split at e
  ·rename_i hz;cases Option.some.inj e;rw[va.int]at rx;rw[vb.int]at ry;obtain⟨t,rfl⟩:=rx;obtain⟨t',rfl⟩:=ry;exact mul_int ⟨.int _,H,I.tok _,⟨_,rfl⟩,J7 sG q⟩ hz.ok
  ·cases e
 ·obtain⟨es,e1,rfl⟩:=Option.map_eq_some_iff.mp e;unfold qp1 at e1;split at e1
  ·rename_i hz;cases Option.some.inj e1;obtain⟨p,xs,rfl,h1,h2⟩:=va.lst;rw[vb.int]at ry;exact op_rep pins s σ H _ _ v u Q I rx ry ⟨p,_,xs,rfl,rfl,h1,hz.1,hz.2.1,by rw[h2.length];exact Yc hz.2.2,fun r hr=>Lc sG hr (h2.rep _) q⟩
  ·cases e1
 ·cases e
def Bn (j:Int):Prop:=j≠0∧j.natAbs<big
instance (j:Int):Decidable (Bn j):=inferInstanceAs (Decidable (_∧_))
theorem Bn.ok {i j:Int} (h:Bn j):Builtin.divisionGoesByPylong i j=false:=PyProof.noPylong_of_log2 (Nat.lt_trans (qj h.2) (by decide))
def Sz:D→D→Option D
 | .int i,.int j=>if Bn j then some (.int (i.fdiv j)) else none
 | _,_=>none
theorem V8:OpR X (binaryOp .FloorDiv) (rD2 X.K Sz):=by
 intro pins s σ H x y v u Q I rx ry h;obtain⟨G,a,b,d,sG,va,vb,e,q⟩:=h;unfold Sz at e;split at e
 ·split at e
  ·rename_i hz;cases Option.some.inj e;rw[va.int]at rx;rw[vb.int]at ry;obtain⟨t,rfl⟩:=rx;obtain⟨t',rfl⟩:=ry;exact floordiv_int hz.1 ⟨.int _,H,I.tok _,⟨_,rfl⟩,J7 sG q⟩ (.inl hz.ok)
  ·cases e
 ·cases e
def qba:D→D→Option D
 | .int i,.int j=>if j≠0 then some (.int (i.fmod j)) else none
 | _,_=>none
theorem Pb:OpR X (binaryOp .Mod) (rD2 X.K qba):=by
 intro pins s σ H x y v u Q I rx ry h;obtain⟨G,a,b,d,sG,va,vb,e,q⟩:=h;unfold qba at e;split at e
 ·split at e
  ·rename_i hz;cases Option.some.inj e;rw[va.int]at rx;rw[vb.int]at ry;exact op_modN pins s σ H _ _ v u Q I rx ry ⟨_,_,rfl,rfl,hz,J7 sG q⟩
  ·cases e
 ·cases e
def qk8:D→D→Option D
 | .int i,.int j=>if 0≤j∧j≤1000000∧i.natAbs<2 ^ 64 then some (.int (i ^ j.toNat)) else none
 | _,_=>none
theorem qgf:OpR X (binaryOp .Pow) (rD2 X.K qk8):=by
 intro pins s σ H x y v u Q I rx ry h;obtain⟨G,a,b,d,sG,va,vb,e,q⟩:=h;unfold qk8 at e;split at e
 ·split at e
  ·rename_i hz;cases Option.some.inj e;rw[va.int]at rx;rw[vb.int]at ry;exact op_pow pins s σ H _ _ v u Q I rx ry ⟨_,_,rfl,rfl,hz,J7 sG q⟩
  ·cases e
 ·cases e
def Sv:D→Option D
 | .int i=>some (.int (-i))
 | _=>none
theorem Ju:UnR X (unaryOp .USub) (rD1 X.K Sv):=by
 intro pins s σ H x v Q I rx h;obtain⟨G,a,d,sG,va,e,q⟩:=h;unfold Sv at e;split at e
 ·cases Option.some.inj e;rw[va.int]at rx;exact un_neg pins s σ H _ v Q I rx ⟨_,rfl,J7 sG q⟩
 ·cases e
def qhM (f:Int→Int→Bool):D→D→Option D
 | .int i,.int j=>some (.bl (f i j))
 | _,_=>none
theorem Ew {op:CmpOp} {f:Int→Int→Bool} (ho:OpR X (compareOp op) (rI0 fun i j=>.bl (f i j))):OpR X (compareOp op) (rD2 X.K (qhM f)):=by
 intro pins s σ H x y v u Q I rx ry h;obtain⟨G,a,b,d,sG,va,vb,e,q⟩:=h;unfold qhM at e;split at e
 ·cases Option.some.inj e;rw[va.int]at rx;rw[vb.int]at ry;exact ho pins s σ H _ _ v u Q I rx ry ⟨_,_,rfl,rfl,Rk sG q⟩
 ·cases e
abbrev ltD:D→D→Option D:=qhM fun i j=>decide (i<j)
abbrev leD:D→D→Option D:=qhM fun i j=>decide (i≤j)
abbrev gtD:D→D→Option D:=qhM fun i j=>decide (j<i)
abbrev geD:D→D→Option D:=qhM fun i j=>decide (j≤i)
theorem Rb:OpR X (compareOp .Lt) (rD2 X.K ltD):=Ew op_lt
theorem qiG:OpR X (compareOp .LtE) (rD2 X.K leD):=Ew op_le
theorem Ng:OpR X (compareOp .Gt) (rD2 X.K gtD):=Ew op_gt
theorem qeX:OpR X (compareOp .GtE) (rD2 X.K geD):=Ew op_ge
mutual
def toP:D→Option PyData
 | .non=>some .none
 | .bl b=>some (.bool b)
 | .int i=>some (.int i)
 | .str x=>some (.str x)
 | .lst ds=>(qag ds).map .list
 | .ro ds=>(qag ds).map .list
 | .tup ds=>(qag ds).map .tuple
 | .dct _=>none
 | .ins _ _=>none
 | .dcT _=>none
def qag:List D→Option (List PyData)
 | []=>some []
 | d::ds=>match toP d,qag ds with
  | some p,some ps=>some (p::ps)
  | _,_=>none
end
section
variable {K:PySem.W.Frag} {G H:Hp} (s:Same G H)
include s
mutual
theorem Dq.dp:∀{d:D} {v:V} {p:PyData},Dq K G v d→toP d=some p→Dp K H v p
 | .non,_,_,h,e=>by cases h;unfold toP at e;cases Option.some.inj e;exact .non
 | .bl b,_,_,h,e=>by cases h;unfold toP at e;cases Option.some.inj e;exact .bl b
 | .int b,_,_,h,e=>by cases h;unfold toP at e;cases Option.some.inj e;exact .int b
 | .str b,_,_,h,e=>by cases h;unfold toP at e;cases Option.some.inj e;exact .str b
 | .lst ds,_,_,h,e=>by
  cases h with
  | lst hq ha=>
   unfold toP at e;obtain⟨ps,e1,rfl⟩:=Option.map_eq_some_iff.mp e;exact .lst (.inl (.inl (s _ _ hq))) (DqA.dp ha e1)
 | .ro ds,_,_,h,e=>by
  cases h with
  | ro hq ha=>
   unfold toP at e;obtain⟨ps,e1,rfl⟩:=Option.map_eq_some_iff.mp e;exact .lst (s.seq hq) (DqA.dp ha e1)
 | .tup ds,_,_,h,e=>by
  cases h with
  | tup hq ha=>
   unfold toP at e;obtain⟨ps,e1,rfl⟩:=Option.map_eq_some_iff.mp e;exact .tup ((Same.seqN s hq).sq) (DqA.dp ha e1)
 | .dct ds,_,_,h,e=>by unfold toP at e;cases e
 | .ins _ ds,_,_,h,e=>by unfold toP at e;cases e
 | .dcT ds,_,_,h,e=>by unfold toP at e;cases e
theorem DqA.dp:∀{ds:List D} {vs:List V} {ps:List PyData},DqA K G vs ds→qag ds=some ps→DpAll K H vs ps
 | [],_,_,h,e=>by cases h;unfold qag at e;cases Option.some.inj e;exact .nil
 | d::ds,_,_,h,e=>by
  cases h with
  | cons h1 h2=>
   unfold qag at e;split at e
   ·rename_i p ps e1 e2;cases Option.some.inj e;exact .cons (Dq.dp h1 e1) (DqA.dp h2 e2)
   ·cases e
end
theorem Vw.dp {d:D} {v:V} {p:PyData} (h:Vw K G H v d) (e:toP d=some p):Dp K H v p:=by
 cases d with
 | lst ds=>
  obtain⟨a,xs,rfl,h1,h2⟩:=h;unfold toP at e;obtain⟨ps,e1,rfl⟩:=Option.map_eq_some_iff.mp e;exact .lst (.inl (.inl h1)) (DqA.dp s h2 e1)
 | dct ds=>unfold toP at e;cases e
 | non=>exact Dq.dp s h e
 | bl _=>exact Dq.dp s h e
 | int _=>exact Dq.dp s h e
 | str _=>exact Dq.dp s h e
 | ro _=>exact Dq.dp s h e
 | tup _=>exact Dq.dp s h e
 | ins _ _=>unfold toP at e;cases e
 | dcT _=>unfold toP at e;cases e
end
def eqB:D→D→Option Bool
 | .int i,.int j=>some (decide (i=j))
 | a,b=>match toP a,toP b with
  | some p,some q=>if SeqAt.shaped p=true∧SeqAt.shaped q=true then some (PyData.eqv p q) else none
  | _,_=>none
def eqD (a b:D):Option D:=(eqB a b).map .bl
def neD (a b:D):Option D:=(eqB a b).map fun c=>.bl (!c)
theorem Zl (hu:X.A.units+64<cLine):OpR X (compareOp .Eq) (rD2 X.K eqD):=by
 intro pins s σ H x y v u Q I rx ry h;obtain⟨G,a,b,d,sG,va,vb,e,q⟩:=h;obtain⟨c,e1,rfl⟩:=Option.map_eq_some_iff.mp e;have q:=Rk sG q;unfold eqB at e1;split at e1
 ·cases Option.some.inj e1;rw[va.int]at rx;rw[vb.int]at ry;refine op_eq pins s σ H _ _ v u Q I rx ry ⟨rfl,?_⟩;rw[dec_int,show ∀i j:Int,(i == j)=decide (i=j) from fun i j=>by by_cases z:i=j<;>simp[z]];exact q
 ·split at e1
  ·rename_i p p' ep ep';split at e1
   ·rename_i hz;cases Option.some.inj e1;exact op_eqD hu pins s σ H _ _ v u Q I rx ry ⟨p,p',Vw.dp sG va ep,Vw.dp sG vb ep',hz.1,hz.2,q⟩
   ·cases e1
  ·cases e1
theorem Ss (hu:X.A.units+64<cLine):OpR X (compareOp .NotEq) (rD2 X.K neD):=by
 intro pins s σ H x y v u Q I rx ry h;obtain⟨G,a,b,d,sG,va,vb,e,q⟩:=h;obtain⟨c,e1,rfl⟩:=Option.map_eq_some_iff.mp e;have q:=Rk sG q;unfold eqB at e1;split at e1
 ·cases Option.some.inj e1;rw[va.int]at rx;rw[vb.int]at ry;refine op_ne pins s σ H _ _ v u Q I rx ry ⟨rfl,?_⟩;rw[dec_int,show ∀i j:Int,(i == j)=decide (i=j) from fun i j=>by by_cases z:i=j<;>simp[z]];exact q
 ·split at e1
  ·rename_i p p' ep ep';split at e1
   ·rename_i hz;cases Option.some.inj e1;exact op_neD hu pins s σ H _ _ v u Q I rx ry ⟨p,p',Vw.dp sG va ep,Vw.dp sG vb ep',hz.1,hz.2,q⟩
   ·cases e1
  ·cases e1
def isD:D→D→Option D
 | a,.non=>some (.bl (isNone a))
 | .bl x,.bl y=>some (.bl (decide (x=y)))
 | _,_=>none
def qjJ:D→D→Option D
 | a,.non=>some (.bl (!isNone a))
 | .bl x,.bl y=>some (.bl (!decide (x=y)))
 | _,_=>none
theorem Vw.isNone {K:PySem.W.Frag} {G H:Hp} {v:V} {a:D} (h:Vw K G H v a):decide (v=.non)=DL.isNone a:=by
 cases a with
 | lst _=>obtain⟨p,xs,rfl,_⟩:=h;rfl
 | dct _=>obtain⟨p,xs,rfl,_⟩:=h;rfl
 | non=>cases h;rfl
 | bl _=>cases h;rfl
 | int _=>cases h;rfl
 | str _=>cases h;rfl
 | ro _=>cases h;rfl
 | tup _=>cases h;rfl
 | ins _ _=>obtain⟨p,dx,xs,rfl,_⟩:=h;rfl
 | dcT _=>obtain⟨p,xs,ob,rfl,_⟩:=h;rfl
theorem qeW:OpR X (compareOp .Is) (rD2 X.K isD):=by
 intro pins s σ H x y v u Q I rx ry h;obtain⟨G,a,b,d,sG,va,vb,e,q⟩:=h;unfold isD at e;split at e
 ·cases Option.some.inj e;rw[vb.non]at ry;refine op_isN pins s σ H _ _ v u Q I rx ry ⟨rfl,?_⟩;rw[va.isNone];exact Rk sG q
 ·cases Option.some.inj e;rw[va.bl]at rx;rw[vb.bl]at ry;exact op_isBl pins s σ H _ _ v u Q I rx ry ⟨_,_,rfl,rfl,Rk sG q⟩
 ·cases e
theorem qcd:OpR X (compareOp .IsNot) (rD2 X.K qjJ):=by
 intro pins s σ H x y v u Q I rx ry h;obtain⟨G,a,b,d,sG,va,vb,e,q⟩:=h;unfold qjJ at e;split at e
 ·cases Option.some.inj e;rw[vb.non]at ry;refine op_notN pins s σ H _ _ v u Q I rx ry ⟨rfl,?_⟩;rw[va.isNone];exact Rk sG q
 ·cases Option.some.inj e;rw[va.bl]at rx;rw[vb.bl]at ry;exact op_notBl pins s σ H _ _ v u Q I rx ry ⟨_,_,rfl,rfl,Rk sG q⟩
 ·cases e
def qj1:D→Bool
 | .non=>true
 | .bl _=>true
 | .int _=>true
 | .str _=>true
 | _=>false
def eqF:D→D→Bool
 | .non,.non=>true
 | .bl a,.bl b=>a == b
 | .bl a,.int b=>(if a then 1 else 0) == b
 | .int a,.bl b=>a == (if b then 1 else 0)
 | .int a,.int b=>a == b
 | .str a,.str b=>a == b
 | _,_=>false
def inB (a b:D):Option Bool:=match qig b with
 | some ds=>if qj1 a=true∧ds.all qj1=true then some (ds.any fun d=>eqF d a) else none
 | none=>none
theorem DqA.atI {K:PySem.W.Frag} {G:Hp} {xs:List V} {ds:List D} {i:Int} {d:D} (q:DqA K G xs ds) (h:L2.atI ds i=some d):∃v,L2.atI xs i=some v∧Dq K G v d:=by
 unfold L2.atI at h ⊢;rw[q.length];obtain⟨j,h1,h2⟩:=Option.bind_eq_some_iff.mp h;obtain⟨v,h3,h4⟩:=q.get h2;exact⟨v,by rw[h1];exact h3,h4⟩
def ixD:D→D→Option D
 | a,.int i=>match qig a with
  | some ds=>atI ds i
  | none=>none
 | _,_=>none
theorem qtb:IxR X (rD2 X.K ixD):=by
 intro value slice pins s σ H x y v u Q I rx ry h hs;obtain⟨G,a,b,d,sG,va,vb,e,q⟩:=h;unfold ixD at e;split at e
 ·split at e
  ·rename_i i ds es;obtain⟨p,xs,rfl,h1,h2⟩:=qbP sG va es;obtain⟨w,h3,h4⟩:=h2.atI e;rw[vb.int]at ry;rcases h1 with h1 | h1
   ·exact ix_list value slice pins s σ H _ _ v u Q I rx ry ⟨p,xs,_,w,rfl,rfl,h1,h3,qeL sG q h4⟩ hs
   ·exact ix_tup value slice pins s σ H _ _ v u Q I rx ry ⟨p,xs,_,w,rfl,rfl,h1,h3,qeL sG q h4⟩ hs
  ·cases e
 ·cases e
def cutD (ds:List D) (lo hi:Option Int):List D:=(ds.drop (HT.sIx ds.length 0 lo)).take (HT.sIx ds.length ds.length hi-HT.sIx ds.length 0 lo)
theorem DqA.cut {K:PySem.W.Frag} {G:Hp} {xs:List V} {ds:List D} (q:DqA K G xs ds) (lo hi:Option Int):DqA K G (cutV xs lo hi) (cutD ds lo hi):=by
 unfold cutV cutD;rw[q.length];exact (q.drop _).take _
def slD:D→Option Int→Option Int→Option D
 | .lst ds,lo,hi=>some (.lst (cutD ds lo hi))
 | .ro ds,lo,hi=>some (.lst (cutD ds lo hi))
 | .tup ds,lo,hi=>some (.tup (cutD ds lo hi))
 | _,_,_=>none
theorem qbn {ds:List D} {lo hi:Option Int} (h:HT.sIx ds.length 0 lo=0∧HT.sIx ds.length ds.length hi=ds.length):cutD ds lo hi=ds:=by
 unfold cutD;rw[h.1,h.2];simp
theorem qsx:SlR X (rSl X.K slD):=by
 intro pins s σ H x v vl vu lo hi sl Q I rx hs pl pu h;obtain⟨G,a,d,sG,va,e,q⟩:=h;cases a with
 | lst ds=>
  cases Option.some.inj e;obtain⟨p,xs,rfl,h1,h2⟩:=va.lst;exact sl_list pins s σ H _ v vl vu lo hi sl Q I rx hs pl pu ⟨p,xs,rfl,.inl (.inl h1),fun r hr=>Lc sG hr (h2.cut lo hi) q⟩
 | ro ds=>
  cases Option.some.inj e;obtain⟨p,xs,rfl,h1,h2⟩:=Mc sG va rfl;exact sl_list pins s σ H _ v vl vu lo hi sl Q I rx hs pl pu ⟨p,xs,rfl,h1,fun r hr=>Lc sG hr (h2.cut lo hi) q⟩
 | non=>cases e
 | bl _=>cases e
 | int _=>cases e
 | str _=>cases e
 | dct _=>cases e
 | ins _ _=>cases e
 | dcT _=>cases e
 | tup ds=>
  cases Option.some.inj e;obtain⟨p,xs,rfl,h1,h2⟩:=va.tup;refine qfU pins s σ H _ v vl vu lo hi sl Q I rx hs pl pu ⟨p,xs,rfl,(Same.seqN sG h1).sq,fun z=>?_,fun _=>Lb sG (h2.cut lo hi) q⟩;rw[h2.length]at z;rw[qbn z]at q;exact qeL sG q (.tup h1 h2)
def idxs (lo hi st:Option Int) (n:Nat):List Nat:=sliceRange (sliceBounds lo hi st n).1 (sliceBounds lo hi st n).2.1 (sliceBounds lo hi st n).2.2
def Ra {α:Type} (ds:List α) (lo hi st:Option Int):List α:=(idxs lo hi st ds.length).filterMap (ds[·]?)
theorem DqA.pick {K:PySem.W.Frag} {G:Hp} {xs:List V} {ds:List D} (q:DqA K G xs ds) (lo hi st:Option Int):DqA K G (Ra xs lo hi st) (Ra ds lo hi st):=by
 unfold Ra;rw[q.length];induction idxs lo hi st ds.length with
 | nil=>exact .nil
 | cons i r ih=>
  rw[List.filterMap_cons,List.filterMap_cons];cases e:ds[i]? with
  | none=>
   rw[List.getElem?_eq_none (by rw[q.length];exact List.getElem?_eq_none_iff.mp e)];exact ih
  | some d=>
   obtain⟨v,h1,h2⟩:=q.get e;rw[h1];exact .cons h2 ih
def qpz (K:PySem.W.Frag) (te:TE) (tl th ts:TO):TE:=fun σ H Q=>te σ H fun x H1=>tl σ H1 fun lo H2=>th σ H2 fun hi H3=>ts σ H3 fun st H4=>∃a xs,x=.ref a∧SqL K H4 a xs∧st≠some 0∧(Ra xs lo hi st).length≤sizeLine∧∀p,H4 p=none→Q (.ref p) (upd H4 p (.lst (Ra xs lo hi st)))
theorem qb6 {e:Expr} {te:TE} {tl th ts:TO} {lo hi:Option Expr} {st:Expr} {p3 pos:Pos} (he:PE X e te) (hl:PO X lo tl) (hh:PO X hi th) (hs:PO X (some st) ts)
  (hst:∀a b,subscripted (.Slice lo hi (some st) p3) false (.ref a) (.ref b)=operate [.ref a,.ref b] (getItem (.ref a) (.ref b)):=by intro _ _;with_unfolding_all rfl):PE X (.Subscript e (.Slice lo hi (some st) p3) pos) (qpz X.K te tl th ts):=by
 refine⟨fun pins s σ H Q I h=>?_⟩;refine Subscript_ (thn (he.run pins s σ H _ I h) fun v s1 ⟨x,H1,I1,r1,q1⟩=>?_);refine wpAny_Slice (thn (hl.run pins s1 σ H1 _ I1 q1) fun vl s2 ⟨l,H2,I2,pl,q2⟩=>?_);refine thn (hh.run pins s2 σ H2 _ I2 q2) fun vu s3 ⟨u,H3,I3,pu,q3⟩=>?_;refine thn (hs.run pins s3 σ H3 _ I3 q3) fun vs s4 ⟨o,H4,I4,ps,a,xs,ex,hx,h0,hz',q⟩=>?_;subst ex;cases r1;have I5:Inv X pins σ H4 { s4 with heap:=s4.heap.push { cls:=.type "slice",data:=.fields #[vl,vu,vs] } }:=I4.kept (t':=s4.toks) fun b ob q=>Heap.get?_push_of_some _ q;obtain⟨its,r,ht,hz⟩:=I5.list hx;have hlen:=r.length;show wpAny (model X.prog X.w) X.A (subscriptTail e (.Slice lo hi (some st) p3) (.ref a) (.ref s4.heap.objs.size)) (EP X pins σ Q) X.xe { s4 with heap:=s4.heap.push { cls:=.type "slice",data:=.fields #[vl,vu,vs] } };refine tail_any (ops:=[.ref a,.ref s4.heap.objs.size]) ht.isList.typeIs (PySem.slot_list_getitem.lookup) ?_ (hst _ _);refine wpAny_getItem_list_slice ht.isList (Heap.IsSliceOf.new _ vl vu vs) pl pu ps h0 ?_ (by rw[List.size_toArray];omega);have hp:slicePick its.toArray l u o=(Ra its l u o).toArray:=by
  unfold slicePick Ra idxs;rw[List.size_toArray];congr 1;congr 1;funext i
  simp
 have rp:Vals (Ra xs l u o) (Ra its l u o):=by
  unfold Ra;rw[hlen];induction idxs l u o its.length with
  | nil=>exact .nil
  | cons i w ih=>
   rw[List.filterMap_cons,List.filterMap_cons];cases e:xs[i]? with
   | none=>
    rw[r.none_of e];exact ih
   | some d=>
    obtain⟨v,h1,h2⟩:=r.get e;rw[h1];exact .cons h2 ih
 rw[hp];refine⟨.ref _,_,I5.laid (t':=s4.toks) (o:=.lst (Ra xs l u o)) (fun b ob q=>Heap.get?_push_of_some _ q) (Nat.le_refl _) ?_,rfl,q _ (I5.hok.fresh (Nat.le_refl _))⟩;exact⟨hz',_,0,rp,Heap.get?_push_size _ rfl⟩
variable {K:Kx} {W:WX}
def qj2 (ma:EM) (ml mh ms:OM):FM:=fun ρ=>bindR (ma ρ) fun x ρ1=>bindR (ml ρ1) fun lo ρ2=>bindR (mh ρ2) fun hi ρ3=>bindR (ms ρ3) fun st ρ4=>match look ρ4 x with
 | some a=>(match qaV a with
  | some ds=>if st≠some 0∧(Ra ds lo hi st).length≤mx then .ok (.lst (Ra ds lo hi st)) ρ4 else .bad
  | none=>.bad)
 | none=>.bad
theorem qjW {ta:TE} {tl th ts:TO} {ma:EM} {ml mh ms:OM} (ha:Yx K W ta ma) (hl:qdH K W tl ml) (hh:qdH K W th mh) (hs:qdH K W ts ms):qbB K W (qpz K ta tl th ts) (qj2 ma ml mh ms):=fun σ G H ρ R Q h=>by
 unfold qj2 bindR at h;refine ha.fst R (fun x ρ1 e v G1 H1 S1 R1 x1=>?_) (fun e ρ1 q=>by rw[q]at h;exact h) (fun q=>by rw[q]at h;exact h);rw[e]at h;have h:=Tz.step S1 h;simp only at h;refine hl.fst R1 (fun lo ρ2 e2 G2 H2 S2 R2=>?_) (fun e ρ1 q=>by rw[q]at h;exact h) (fun q=>by rw[q]at h;exact h);rw[e2]at h;have h:=Tz.step S2 h;simp only at h;refine hh.fst R2 (fun hi ρ3 e3 G3 H3 S3 R3=>?_) (fun e ρ1 q=>by rw[q]at h;exact h) (fun q=>by rw[q]at h;exact h);rw[e3]at h;have h:=Tz.step S3 h;simp only at h;refine hs.fst R3 (fun st ρ4 e4 G4 H4 S4 R4=>?_) (fun e ρ1 q=>by rw[q]at h;exact h) (fun q=>by rw[q]at h;exact h);rw[e4]at h;have h:=Tz.step S4 h;simp only at h;split at h
 ·rename_i a ea;split at h
  ·rename_i ds es;split at h
   ·rename_i hz;obtain⟨p,xs,rfl,h1,h2⟩:=Mc R4.same (Xn R4 (((x1.mono S2.g).mono S3.g).mono S4.g) ea) es;have q:=h2.pick lo hi st;exact⟨p,xs,rfl,h1,hz.1,by rw[q.length];exact Yc hz.2,fun r hr=>qmf.of R4 h r _ hr q⟩
   ·exact h.elim
  ·exact h.elim
 ·exact h.elim
theorem qd8 {α:Type} (ds:List α):Ra ds none none (some (-1))=ds.reverse:=by
 unfold Ra idxs;rw[PySem.W.krv_bounds];show (sliceRange ((ds.length:Int)-1) (-1) (-1)).filterMap (ds[·]?)=_;rw[PySem.W.krv_sliceRange,PySem.W.krv_range,List.filterMap_reverse];congr 1;have:=PySem.W.krv_all ds.toArray;simpa using this
def F8:List D→Option D
 | [.str x]=>if x.length≤mx then some (.int x.length) else none
 | [a]=>(qig a).map fun ds=>.int ds.length
 | _=>none
theorem jd {α β:Type} {R:α→β→Prop} {xs:List α} {y:β} (h:Paired R xs [y]):∃x,xs=[x]∧R x y:=by
 cases h with
 | cons h t=>cases t;exact⟨_,rfl,h⟩
theorem qiD {α β:Type} {R:α→β→Prop} {xs:List α} {y z:β} (h:Paired R xs [y,z]):∃x w,xs=[x,w]∧R x y∧R w z:=by
 cases h with
 | cons h t=>
  obtain⟨w,rfl,h2⟩:=jd t;exact⟨_,w,rfl,h,h2⟩
theorem Y8:CallR X (.builtin "len") (rDn X.K F8):=by
 intro pins s σ H xs us Q I r h;obtain⟨G,as,d,sG,va,e,q⟩:=h;unfold F8 at e;split at e
 ·split at e
  ·rename_i hz;cases Option.some.inj e;obtain⟨x,rfl,hx⟩:=jd va;rw[hx.str]at r;exact call_len pins s σ H _ us Q I r ⟨_,_,rfl,⟨Yc hz,rfl⟩,J7 sG q⟩
  ·cases e
 ·obtain⟨ds,es,rfl⟩:=Option.map_eq_some_iff.mp e;obtain⟨x,rfl,hx⟩:=jd va;obtain⟨p,xs,rfl,h1,h2⟩:=qbP sG hx es;rw[← h2.length]at q;exact call_len_seq pins s σ H _ us Q I r ⟨p,xs,rfl,h1,J7 sG q⟩
 ·cases e
def qma:List D→Option D
 | [.int i]=>some (.int (if i<0 then -i else i))
 | _=>none
theorem qhh:CallR X (.builtin "abs") (rDn X.K qma):=by
 intro pins s σ H xs us Q I r h;obtain⟨G,as,d,sG,va,e,q⟩:=h;unfold qma at e;split at e
 ·cases Option.some.inj e;obtain⟨x,rfl,hx⟩:=jd va;rw[hx.int]at r;exact call_abs pins s σ H _ us Q I r ⟨_,rfl,J7 sG q⟩
 ·cases e
def Aj:List D→Option (List Int)
 | []=>some []
 | .int i::ds=>(Aj ds).map (i::·)
 | _=>none
theorem A9:∀{ds:List D} {ns:List Int},Aj ds=some ns→ds=ns.map D.int
 | [],_,e=>by cases Option.some.inj e;rfl
 | d::ds,_,e=>by
  cases d with
  | int i=>
   obtain⟨ms,e1,rfl⟩:=Option.map_eq_some_iff.mp e;rw[A9 e1];rfl
  | _=>cases e
theorem Og (ns:List Int):Aj (ns.map D.int)=some ns:=by
 induction ns with
 | nil=>rfl
 | cons n r ih=>
  show (Aj (r.map D.int)).map (n::·)=_;rw[ih];rfl
def qcr:Int→List Int→Int
 | m,[]=>m
 | m,n::r=>qcr (if n > m then n else m) r
def qco:Int→List Int→Int
 | m,[]=>m
 | m,n::r=>qco (if n<m then n else m) r
theorem L8:∀(r:List Int) (m:Int),(qcr m r=m∨qcr m r∈r)∧m≤qcr m r∧∀y∈r,y≤qcr m r
 | [],m=>⟨.inl rfl,Int.le_refl _,fun y h=>by cases h⟩
 | n::r,m=>by
  unfold qcr;obtain⟨h1,h2,h3⟩:=L8 r (if n > m then n else m);refine⟨?_,?_,fun y hy=>?_⟩
  ·rcases h1 with h | h
   ·rw[h];split
    ·exact .inr List.mem_cons_self
    ·exact .inl rfl
   ·exact .inr (List.mem_cons_of_mem _ h)
  ·refine Int.le_trans ?_ h2;split<;>omega
  ·rcases List.mem_cons.mp hy with rfl | hy
   ·refine Int.le_trans ?_ h2;split<;>omega
   ·exact h3 y hy
theorem L7:∀(r:List Int) (m:Int),(qco m r=m∨qco m r∈r)∧qco m r≤m∧∀y∈r,qco m r≤y
 | [],m=>⟨.inl rfl,Int.le_refl _,fun y h=>by cases h⟩
 | n::r,m=>by
  unfold qco;obtain⟨h1,h2,h3⟩:=L7 r (if n<m then n else m);refine⟨?_,?_,fun y hy=>?_⟩
  ·rcases h1 with h | h
   ·rw[h];split
    ·exact .inr List.mem_cons_self
    ·exact .inl rfl
   ·exact .inr (List.mem_cons_of_mem _ h)
  ·refine Int.le_trans h2 ?_;split<;>omega
  ·rcases List.mem_cons.mp hy with rfl | hy
   ·refine Int.le_trans h2 ?_;split<;>omega
   ·exact h3 y hy
def qi:List D→Option D
 | [.int i,.int j]=>some (.int (if j > i then j else i))
 | _=>none
def qg:List D→Option D
 | [.int i,.int j]=>some (.int (if j<i then j else i))
 | _=>none
theorem Tq (hc:X.calm=true):CallR X (.builtin "max") (rDn X.K qi):=by
 intro pins s σ H xs us Q I r h;obtain⟨G,as,d,sG,va,e,q⟩:=h;unfold qi at e;split at e
 ·cases Option.some.inj e;obtain⟨x,w,rfl,hx,hw⟩:=qiD va;rw[hx.int,hw.int]at r;exact call_max2 hc pins s σ H _ us Q I r ⟨_,_,rfl,J7 sG q⟩
 ·cases e
theorem Tp (hc:X.calm=true):CallR X (.builtin "min") (rDn X.K qg):=by
 intro pins s σ H xs us Q I r h;obtain⟨G,as,d,sG,va,e,q⟩:=h;unfold qg at e;split at e
 ·cases Option.some.inj e;obtain⟨x,w,rfl,hx,hw⟩:=qiD va;rw[hx.int,hw.int]at r;exact call_min2 hc pins s σ H _ us Q I r ⟨_,_,rfl,J7 sG q⟩
 ·cases e
def Ec (f:List Int→Option Int):List D→Option D
 | [a]=>match qaV a with
  | some ds=>(match Aj ds with
   | some ns=>(f ns).map .int
   | none=>none)
  | none=>none
 | _=>none
theorem Om {K:PySem.W.Frag} {G H:Hp} {f:List Int→Option Int} {xs:List V} {as:List D} {d:D} (sG:Same G H) (va:Paired (Vw K G H) xs as) (e:Ec f as=some d):∃p ns i,xs=[.ref p]∧SqL K H p (ns.map V.int)∧f ns=some i∧d=.int i:=by
 unfold Ec at e;split at e
 ·split at e
  ·rename_i ds es;split at e
   ·rename_i ns en;obtain⟨i,ei,rfl⟩:=Option.map_eq_some_iff.mp e;obtain⟨x,rfl,hx⟩:=jd va;obtain⟨p,ys,rfl,h1,h2⟩:=Mc sG hx es;rw[A9 en]at h2;rw[h2.ints]at h1;exact⟨p,ns,i,rfl,h1,ei,rfl⟩
   ·cases e
  ·cases e
 ·cases e
def qnh:List Int→Option Int
 | []=>none
 | n::r=>some (qcr n r)
def qqK:List Int→Option Int
 | []=>none
 | n::r=>some (qco n r)
abbrev maxD:List D→Option D:=Ec qnh
abbrev minD:List D→Option D:=Ec qqK
abbrev qmq:List D→Option D:=Ec fun ns=>some ns.sum
theorem qhg (hc:X.calm=true):CallR X (.builtin "max") (rDn X.K maxD):=by
 intro pins s σ H xs us Q I r h;obtain⟨G,as,d,sG,va,e,q⟩:=h;obtain⟨p,ns,i,rfl,h1,h2,rfl⟩:=Om sG va e;cases ns with
 | nil=>cases h2
 | cons n ms=>
  cases Option.some.inj h2;obtain⟨k1,k2,k3⟩:=L8 ms n;refine cr_max hc pins s σ H _ us Q I r ⟨p,n::ms,rfl,h1,Nat.succ_pos _,fun m hm hy=>?_⟩;have e1:m≤qcr n ms:=by
   rcases List.mem_cons.mp hm with rfl | hm
   ·exact k2
   ·exact k3 m hm
  have e2:qcr n ms≤m:=by
   rcases k1 with z | z
   ·rw[z];exact hy n List.mem_cons_self
   ·exact hy _ (List.mem_cons_of_mem _ z)
  rw[Int.le_antisymm e1 e2];exact J7 sG q
theorem qhf (hc:X.calm=true):CallR X (.builtin "min") (rDn X.K minD):=by
 intro pins s σ H xs us Q I r h;obtain⟨G,as,d,sG,va,e,q⟩:=h;obtain⟨p,ns,i,rfl,h1,h2,rfl⟩:=Om sG va e;cases ns with
 | nil=>cases h2
 | cons n ms=>
  cases Option.some.inj h2;obtain⟨k1,k2,k3⟩:=L7 ms n;refine cr_min hc pins s σ H _ us Q I r ⟨p,n::ms,rfl,h1,Nat.succ_pos _,fun m hm hy=>?_⟩;have e1:qco n ms≤m:=by
   rcases List.mem_cons.mp hm with rfl | hm
   ·exact k2
   ·exact k3 m hm
  have e2:m≤qco n ms:=by
   rcases k1 with z | z
   ·rw[z];exact hy n List.mem_cons_self
   ·exact hy _ (List.mem_cons_of_mem _ z)
  rw[Int.le_antisymm e2 e1];exact J7 sG q
theorem qdo (hc:X.calm=true):CallR X (.builtin "sum") (rDn X.K qmq):=by
 intro pins s σ H xs us Q I r h;obtain⟨G,as,d,sG,va,e,q⟩:=h;obtain⟨p,ns,i,rfl,h1,h2,rfl⟩:=Om sG va e;cases Option.some.inj h2;exact cr_sum hc pins s σ H _ us Q I r ⟨p,ns,rfl,h1,J7 sG q⟩
def intD:List D→Option D
 | [.int i]=>some (.int i)
 | [.bl b]=>some (.int (if b then 1 else 0))
 | _=>none
theorem Pf:CallR X (.type "int") (rDn X.K intD):=by
 intro pins s σ H xs us Q I r h;obtain⟨G,as,d,sG,va,e,q⟩:=h;unfold intD at e;split at e
 ·cases Option.some.inj e;obtain⟨x,rfl,hx⟩:=jd va;rw[hx.int]at r;exact call_int1 pins s σ H _ us Q I r (.inl ⟨_,rfl,J7 sG q⟩)
 ·cases Option.some.inj e;obtain⟨x,rfl,hx⟩:=jd va;rw[hx.bl]at r;exact call_int1 pins s σ H _ us Q I r (.inr ⟨_,rfl,J7 sG q⟩)
 ·cases e
def Cd:List D→Option D
 | [a]=>(qig a).map .tup
 | _=>none
theorem Py:CallR X (.type "tuple") (rDn X.K Cd):=by
 intro pins s σ H xs us Q I r h;obtain⟨G,as,d,sG,va,e,q⟩:=h;unfold Cd at e;split at e
 ·rename_i a;obtain⟨ds,es,rfl⟩:=Option.map_eq_some_iff.mp e;obtain⟨x,rfl,hx⟩:=jd va;cases a with
  | tup ys=>
   cases Option.some.inj es;obtain⟨p,ys,rfl,h1,h2⟩:=hx.tup;exact Uo pins s σ H _ us Q I r ⟨p,ys,rfl,.inr ⟨(Same.seqN sG h1).sq,qeL sG q (.tup h1 h2)⟩⟩
  | lst ys=>
   obtain⟨p,ys,rfl,h1,h2⟩:=Mc sG hx (show qaV (.lst ys)=some ds from es);exact Uo pins s σ H _ us Q I r ⟨p,ys,rfl,.inl ⟨h1,Lb sG h2 q⟩⟩
  | ro ys=>
   obtain⟨p,ys,rfl,h1,h2⟩:=Mc sG hx (show qaV (.ro ys)=some ds from es);exact Uo pins s σ H _ us Q I r ⟨p,ys,rfl,.inl ⟨h1,Lb sG h2 q⟩⟩
  | _=>cases es
 ·cases e
def qhB:D→Option String
 | .non=>some "NoneType"
 | .bl _=>some "bool"
 | .int _=>some "int"
 | .str _=>some "str"
 | .lst _=>some "list"
 | .tup _=>some "tuple"
 | .dct _=>some "dict"
 | _=>none
theorem qfC {K:PySem.W.Frag} {G H:Hp} {v:V} {a:D} {t:String} (sG:Same G H) (h:Vw K G H v a) (e:qhB a=some t):TyX K H v (.type t):=by
 cases a with
 | non=>cases Option.some.inj e;rw[h.non];exact .base .non
 | bl b=>cases Option.some.inj e;rw[h.bl];exact .base (.bl b)
 | int i=>cases Option.some.inj e;rw[h.int];exact .base (.int i)
 | str x=>cases Option.some.inj e;rw[h.str];exact .base (.str x)
 | lst ds=>
  cases Option.some.inj e;obtain⟨p,xs,rfl,h1,_⟩:=h.lst;exact .base (.lst h1)
 | tup ds=>
  cases Option.some.inj e;obtain⟨p,xs,rfl,h1,_⟩:=h.tup;rcases (Same.seqN sG h1).sq with (h1 | ⟨o,h1⟩) | ⟨o,its,n,hk,hc,_⟩
  ·exact .base (.tup h1)
  ·exact .fTuple h1
  ·exact .kTuple hk hc
 | dct ds=>
  cases Option.some.inj e;obtain⟨p,kvs,rfl,h1,_⟩:=h;exact .base (.dK h1)
 | ro _=>cases e
 | ins _ _=>cases e
 | dcT _=>cases e
def qmN (K:PySem.W.Frag) (g:D→Option D) (T:String):List V→Hp→VK→Prop:=fun xs H Q=>∃x,xs=[x,.ty T]∧rD1 K g x H Q
def x9 (t T:String):Bool:=t == T || (t == "bool" && T == "int") || T == "object"
def qfe (T:String) (a:D):Option D:=(qhB a).map fun t=>.bl (x9 t T)
theorem qky {T:String} (hk:∀t∈["NoneType","bool","int","str","list","tuple","dict"],PySem.W.kitOne X.K (.type t) (.type T)=some (x9 t T)):CallR X (.builtin "isinstance") (qmN X.K (qfe T) T):=by
 intro pins s σ H xs us Q I r h;obtain⟨x,rfl,G,a,d,sG,va,e,q⟩:=h;unfold qfe at e;obtain⟨t,et,rfl⟩:=Option.map_eq_some_iff.mp e;have hm:t∈["NoneType","bool","int","str","list","tuple","dict"]:=by
  cases a<;>first | (cases Option.some.inj et;decide) | cases et
 exact call_isi pins s σ H _ us Q I r ⟨x,_,_,_,_,rfl,.ty T,qfC sG va et,hk t hm,Rk sG q⟩
def qeG (T:String) (ma:EM):EM:=eUn (qfe T) ma
theorem qkg {T:String} {ta:TE} {ma:EM} (ha:Yx K W ta ma):Yx K W (tCB (qmN K (qfe T) T) (tCons ta (tCons (tC (.ty T)) tNil))) (qeG T ma):=fun σ G H ρ R Q h=>by
 have:=qj6 (g:=qfe T) ha σ G H ρ R Q h;unfold tUn at this;refine ha.fst R (T:=fun x H1=>qmN K.k (qfe T) T [x,.ty T] H1 Q) ?_ ?_ ?_;all_goals
  unfold qeG eUn bindR at h
 ·intro x ρ1 e v G1 H1 S1 R1 x1;rw[e]at h;have h:=EPost.step S1 h;simp only at h;split at h
  ·rename_i a ea;unfold oD at h;split at h
   ·rename_i d hd;exact⟨v,rfl,G1,a,d,R1.same,Xn R1 x1 ea,hd,x6.of R1 h⟩
   ·exact h.elim
  ·exact h.elim
 ·intro e ρ1 q;rw[q]at h;exact h
 ·intro q;rw[q]at h;exact h
end DL
set_option maxHeartbeats 2000000
namespace PySem
namespace ErrX
open PySem.W PySem.Calls PyProof.Rows PySem.HandSPX
def qaW (f:Str):Scope:={ kind:=.function,names:=[(PySem.Str.ofString "self",.local),(f,.local),(PySem.Str.ofString "__class__",.free),(PySem.Str.ofString "super",.globalImplicit)],isGenerator:=false,isCoroutine:=false,more:=[] }
structure IniTxt (P:Program) (K:Frag) (f:Str) (C fI cc cda:Addr) (ps:Arguments) (bd:List Stmt) (sc:Scope):Prop where
 fn:∃oc od osl qual kV doc pm an ct,K.lookup fI=some ⟨oc,od,.func (ksFn "__init__" qual ps bd sc .none kV doc pm an (.ref cda) ct cc),osl⟩∧codeIn K (.ref cda) qual=true∧
  ∀(s:Shared) (x v:Value),BindsTo s (ksFn "__init__" qual ps bd sc .none kV doc pm an (.ref cda) ct cc) ⟨[x,v],[]⟩ [("self",x),(f,v)]
 code:∃ccl cdd vs ccs file tf,K.lookup cda=some ⟨ccl,cdd,.fields vs,ccs⟩∧vs[2]?=some (.str file tf)∧((P.main.file:Str) == file)=true
 cell:∃cl cld csl,K.lookup cc=some ⟨cl,cld,.cell (some (.ref C)),csl⟩
 bd:∃msg p0 p1 p2 p3 p4 p5 q1 q2 q3 q4,(p2.endLine == p4.line)=true∧bd=body f msg p0 p1 p2 p3 p4 p5 q1 q2 q3 q4
 p1:∃ar,(ps.posonlyargs++ps.args).head?=some ar∧ar.arg="self"
 kS:sc.names.lookup ("self" : Str)=some .local
 kF:sc.names.lookup f=some .local
 kC:sc.names.lookup ("__class__" : Str)=some .free
 kU:sc.names.lookup ("super" : Str)=some .globalImplicit
 ncell:∀x∈sc.names,x.2≠.cell
 scE:sc=qaW f
 nd:("self" : Str)≠f
 dbg:(f == ("__debug__" : Str))=false
structure ErrTxt (P:Program) (K:Frag) (mg:Str→Option Value) (nm f:Str) (C:Addr):Prop where
 gC:mg nm=some (.ref C)
 cls:∃nm q N bs bm sn sub ab col dd k0 k1 k2 k3 k5,K.lookup C=some (excClassObj nm q C N bs bm true sn sub ab col dd k0 k1 k2 k3 k5 "ValueError.__new__")∧refsVE bm=true
 sa:findIn K (.ref C) "__setattr__"=some (some (.builtin "object.__setattr__"))
 noN:findIn K (.ref C) f=some none
 kC:keepIn K (.ref C)=true
 exC:subIn K (.ref C) (.type "BaseException")=some true
 veC:subIn K (.ref C) (.type "ValueError")=some true
 tyC:typeIn K (.ref C)=some (.type "type")
 mC:mroIn K C (.ref C)=some true
 along:ks_superIn K C C "__init__"=some (some (.builtin "ValueError.__init__"))
 opq:nsIn K cStatics "thirdparty.any"=some none
 sup:nsIn K mainGlobals "super"=some none
 top:(P.main.scope.names.lookup ("super" : Str)).isSome=false
 ini:∃fI cc cda ps bd sc,findIn K (.ref C) "__init__"=some (some (.ref fI))∧typeIn K (.ref fI)=some (.type "function")∧IniTxt P K f C fI cc cda ps bd sc
theorem qdr {o e:Expr} {env:Env} {name:Str} {p2 p4:Pos} (hl:(p2.endLine == p4.line)=true) (he:starEach [e] env=[(false,eval e env)]:=by rfl) :
  eval (.Call (.Attribute o name p2) [e] [] p4) env=(do
   let ov ← attributeBase o name env (eval o env)
   standAt p2.atName
   let (f,first) ← holding [ov] (getMethod ov name (do return (← importBound o env).getD true))
   callWith p4 f first (backTo p4 (starEach [e] env)) []):=by
 show (do
  let ov ← attributeBase o name env (eval o env)
  standAt p2.atName
  methodCall o name p2 p4 env ov 1 (backTo p4 (starEach [e] env)) [])=_
 have h1:∀few,methodCallPos few o env p2 p4=pure p4:=fun few=>by
  unfold methodCallPos;rw[hl,Bool.or_true];rfl
 unfold methodCall;simp only[h1,pure_bind];rw[he];rfl
theorem qap (v:Value):[v].length≤sizeLine:=by
 rw[sizeLine_eq];exact (by decide:1≤16777216)
theorem qeo {K:Frag} {h h':Heap} {x:Addr} (X:K.In h) (hx:K.lookup x=none) (k:∀b o,b≠x→h.get? b=some o→h'.get? b=some o):K.In h':=fun a o e=>
 k a o (fun z=>by rw[z,hx]at e;cases e) (X a o e)
structure InitEnd (h h':Heap) (x C dx t1:Addr) (f:Str) (v:Value):Prop where
 keep:∀b o,b≠x→h.get? b=some o→h'.get? b=some o
 obj:h'.get? x=some { cls:=.ref C,dict:=some dx,data:=.fields #[.ref t1,.none,.none,.none,.bool false,.none] }
 dbig:h.objs.size≤dx
 dne:dx≠x
 ns:h'.Ns1 dx (fun y=>if y=f then some v else none)
structure OwnMade (h h':Heap) (e C d:Addr) (f:Str) (v:Value):Prop where
 keep:∀b o,h.get? b=some o→h'.get? b=some o
 new:h.objs.size≤e
 obj:∃oe vs,h'.get? e=some oe∧oe.cls=.ref C∧oe.dict=some d∧oe.data=.fields vs∧vs[1]?=some .none
 dbig:h.objs.size≤d
 dne:d≠e
 ns:h'.Ns1 d (fun y=>if y=f then some v else none)
section
variable {prog:Program} {w:World} {A:Around} {E:Value→Shared→Prop} {h:Heap} {g:Array GenState} {d:Drawn} {t:Nat} {os:OsState}
variable {nm q:Str} {C N:Addr} {bs bm:List Value} {hdct:Bool} {sn:List Str} {sub:List Value} {ab:Bool} {col:Option Bool} {dd:Option Addr} {k0 k1 k2 k3 k5:Option Value}
theorem qhm {u e t0:Addr} {rest:List Value} {Q:Value→Shared→Prop}
  (hC:h.get? C=some (excClassObj nm q C N bs bm hdct sn sub ab col dd k0 k1 k2 k3 k5 "ValueError.__new__")) (he:h.get? e=some (excO C t0)) (hu:h.get? u=some (kxs_mw "ValueError.__init__" e)) (hrest:rest.length≤sizeLine)
  (hq:∀h' t1,h.objs.size≤h'.objs.size→(∀b o,b≠e→h.get? b=some o→h'.get? b=some o)→h'.get? e=some (excO C t1)→Q .none ⟨h',g,d,t,os⟩) :
  wpAny (model prog w) A (call (.ref u) rest) Q E ⟨h,g,d,t,os⟩:=by
 have FB:=F.excBase_ValueError;refine wpAny_call (codeAny_of_tree ?_);show wpAny _ A.in1 (callAny (.ref u) ⟨rest,[]⟩) _ _ _;simp only[callAny];refine wpAny_bind (wpAny_load hu ?_);simp only[kxs_mw,show (Value.type "method-wrapper" == Value.type "method" || Value.type "method-wrapper" == Value.type "builtin_function_or_method" || Value.type "method-wrapper" == Value.type "method-wrapper")=true by decide,if_true];refine KFB.if_so (by decide) ?_;refine wpAny_bind (check_bound_init FB.toExcCallFacts hC he rfl ?_);refine wpAny_bind (wpAny_pure (wpAny_pure ?_));refine⟨plainId_quiet FB.init.plain _,codeAny_builtin FB.initEntry ?_⟩;refine exc_init_tree (cls:=.ref C) (t0:=t0) (dv:=none) (c2:=.none) (c3:=.none) (b4:=.bool false) he hrest fun h' k e' t'=>hq h' h.objs.size ?_ k e';exact Nat.le_of_lt (Heap.lt_size t')
end
section
variable {prog:Program} {w:World} {A:Around} {E:Value→Shared→Prop} {R:Result→Shared→Prop} {s:Shared} {K:Frag} {mg mb:Str→Option Value} {nm f:Str} {C:Addr}
theorem qeC (T:ErrTxt prog K mg nm f C) {fI cc cda:Addr} {ps:Arguments} {bd:List Stmt} {sc:Scope} (J:IniTxt prog K f C fI cc cda ps bd sc)
  {x t0:Addr} {v:Value} (X:K.In s.heap) (hG:s.heap.Ns mainGlobals mg) (hB:s.heap.Ns builtinsNs mb) (hb:∀y:Str,y≠"__name__"→mb y=bootBuiltins y) (hlim:s.heap.NoLimit) (hx:s.heap.get? x=some (excO C t0)) (hnx:K.lookup x=none) (hroom:A.depth<recursionLimit)
  (hq:∀h' tk dx t1,InitEnd s.heap h' x C dx t1 f v→R (.ok (.ret .none)) { s with heap:=h',toks:=tk }) :
  codeAny (model prog w) A (.call (.ref fI) ⟨[.ref x,v],[]⟩) R s:=by
 obtain⟨oc,od,osl,qual,kV,doc,pm,an,ct,ho,hcd,hbind⟩:=J.fn;obtain⟨ccl,cdd,vs,ccs,file,tf,hcda,hvs,hfile⟩:=J.code;obtain⟨cl,cld,csl,hcc⟩:=J.cell;obtain⟨cnm,q,N,bs,bm,sn,sub,ab,col,dd,k0,k1,k2,k3,k5,hC,hbm⟩:=T.cls;obtain⟨ar,har,hars⟩:=J.p1;obtain⟨msg,p0,p1,p2,p3,p4,p5,q1,q2,q3,q4,hline,hbd⟩:=J.bd;subst hbd;have hsc:=J.scE;subst hsc;have hcl:clsIn K C=some { name:=cnm,bases:=bs,mro:=.ref C::bm,ns:=N,qualname:=q,hasDict:=true,slotNames:=sn,subclasses:=sub,abstract:=ab,collection:=col,hasDel:=false }:=by unfold clsIn;rw[hC]<;>rfl
 refine ks_codeAny_call_defAt (binds:=[("self",.ref x),(f,v)]) hroom (X _ _ ho) rfl hlim (codeRec_of X hcd) rfl (hbind _ _ _) J.ncell (by
  intro y hy;rcases List.mem_cons.mp hy with rfl | hy
  ·exact J.kS
  ·rcases List.mem_cons.mp hy with rfl | hy
   ·exact J.kF
   ·exact absurd hy (List.not_mem_nil)) (fun h₁ hns hk₁=>?_) rfl rfl rfl
 have X₁:K.In h₁:=X.keeps hk₁;have hx₁:=hk₁ _ _ hx;have hself:(List.reverse [(("self" : Str),Value.ref x),(f,v)]).lookup ("self" : Str)=some (Value.ref x):=by
  show List.lookup ("self" : Str) [(f,v),(("self" : Str),Value.ref x)]=_;simp[List.lookup,show (("self" : Str) == f)=false from by simpa using J.nd]
 have hfv:(List.reverse [(("self" : Str),Value.ref x),(f,v)]).lookup f=some v:=by
  show List.lookup f [(f,v),(("self" : Str),Value.ref x)]=_;simp[List.lookup]
 have hL:s.heap.objs.size≠x:=Nat.ne_of_gt (Heap.lt_size hx);have hxC:x≠C:=fun z=>by rw[z,hC]at hnx;cases hnx
 show _root_.PySem.wpAt _ (A.deeper (ksEnv qual (qaW f) s.heap.objs.size fI (.ref cda) cc)) (.func _ (ksEnv qual (qaW f) s.heap.objs.size fI (.ref cda) cc)) (execs _ (ksEnv qual (qaW f) s.heap.objs.size fI (.ref cda) cc)) _ _ _;refine ks_wpAt_execs_cons (ks_wpAt_Expr_any (ks_wpAt_MethodCall (pl:=(do return (← importBound (.Call (.Name "super" p0) [] [] p1) (ksEnv qual (qaW f) s.heap.objs.size fI (.ref cda) cc)).getD true)) ?_ (qdr hline)));obtain⟨hp,gg,dr,tk,os⟩:=s;refine ks_wpAt_super_base (env:=ksEnv qual (qaW f) hp.objs.size fI (.ref cda) cc) J.kU J.kC (by decide) rfl (X₁ _ _ ho) rfl har rfl (X₁ _ _ hcda) rfl hvs hfile T.top ?_;refine ks_loadName_global rfl J.kU (loadGlobal_builtin (env:=ksEnv qual (qaW f) hp.objs.size fI (.ref cda) cc) (hG.keeps hk₁) (mg_none_of X hG T.sup) (hB.keeps hk₁) ((hb _ (by decide +kernel)).trans (by first | boot_by_name | rfl | kernel_rfl)) ⟨rfl,?_⟩);refine wpAny_loadName_free rfl J.kC rfl ⟨_,X₁ _ _ hcc,rfl⟩ ?_;rw[hars];refine wpAny_loadName_local rfl J.kS hns hself ?_;have hC₁:h₁.get? C=_:=X₁ _ _ hC;refine ks_wpAny_isType_cls hC₁ rfl ⟨rfl,?_⟩;refine ks_wpAny_call_super hC₁ rfl hx₁ rfl (fun _ z=>nomatch z) (looks_mroIn X₁ T.mC) (fun h₂ e₂ hk₂=>?_);have X₂:K.In h₂:=X₁.keeps hk₂;have hx₂:=hk₂ _ _ hx₁;have I₂:InstAt h₂ x (excO C t0) C none:=⟨hx₂,rfl,rfl,trivial⟩;have hal:alongIn K "__init__" (((Value.ref C::bm).dropWhile (· != .ref C)).drop 1)=some (some (.builtin "ValueError.__init__")):=by
  have q:=T.along;unfold ks_superIn at q;rw[hcl]at q;exact q
 refine kxs_getMethod kxs_ValueError e₂ (looks_opaque X₂ T.opq) (l₀:=.ref C::bm) (fun A Q E s k q=>wpAny_bind ((looks_clsIn X₂ hcl) A _ E s k (wpAny_pure q))) rfl X₂ hal (I₂.type.andThen (looks_subIn X₂ T.veC)) hxC (by decide) ?_;have hk₃ : ∀b o,h₂.get? b=some o→(h₂.push (kxs_mw "ValueError.__init__" x)).get? b=some o:=fun b o e=>Heap.get?_push_of_some _ e;refine kxs_callWith (i:="ValueError.__init__") (x:=x) rfl (evalArgs_plain (spliced_cons (Calls.Constant_str (pos:=p3) (k:=0) (spliced_nil ⟨Heap.get?_push_at rfl rfl,?_⟩))));refine qhm (X₂.keeps hk₃ _ _ hC) (hk₃ _ _ hx₂) (Heap.get?_push_at rfl rfl) (qap _) fun h₄ t₄ hsz₄ k₄ hx₄=>?_;have k4:∀b o,b≠x→hp.get? b=some o→h₄.get? b=some o:=fun b o hb e=>k₄ b o hb (hk₃ _ _ (hk₂ _ _ (hk₁ _ _ e)));have k14:∀b o,b≠x→h₁.get? b=some o→h₄.get? b=some o:=fun b o hb e=>k₄ b o hb (hk₃ _ _ (hk₂ _ _ e));have X₄ : K.In h₄:=qeo X hnx k4;have hns₄ : h₄.Ns hp.objs.size (fun y=>(List.reverse [(("self" : Str),Value.ref x),(f,v)]).lookup y):=by
  obtain⟨oL,es,ep,hoL,r⟩:=hns;exact⟨oL,es,ep,k14 _ _ hL hoL,r⟩
 show _root_.PySem.wpAt _ _ _ (execs _ _) _ _ _;refine wpAt_of_wpAny (wpAny_execs_cons (plainObj_wpAny_Assign_Attribute ?_ (by rfl)));refine wpAny_Name (wpAny_loadName_local rfl J.kF hns₄ hfv (wpAny_Name (wpAny_loadName_local rfl J.kS hns₄ hself ?_) (by decide))) J.dbg;refine set_plain X₄ (ox:=excO C t₄) (od:=none) ⟨hx₄,rfl,rfl,trivial⟩ T.sa ?_;refine exc_osa X₄ hx₄ hcl (show refsVE (.ref C::bm)=true from hbm) rfl T.noN (fun h₅ tk₅ dx k₅ dn dne hx₅ hn₅=>?_);show wpAny _ _ (execs _ _) _ _ _;have z:hp.objs.size<h₄.objs.size:=hns₄.lt;exact wpAny_execs_nil (hq h₅ tk₅ dx t₄ ⟨fun b o hb e=>k₅ b o hb (k4 b o hb e),hx₅,Nat.le_of_lt (Nat.lt_of_lt_of_le z dn),dne,hn₅⟩)
theorem qeB (T:ErrTxt prog K mg nm f C) {v:Value} (X:K.In s.heap) (hG:s.heap.Ns mainGlobals mg) (hB:s.heap.Ns builtinsNs mb) (hb:∀y:Str,y≠"__name__"→mb y=bootBuiltins y) (hlim:s.heap.NoLimit) (hroom:A.depth+1<recursionLimit)
  (hq:∀h' tk e d,OwnMade s.heap h' e C d f v→R (.ok (.ret (.ref e))) { s with heap:=h',toks:=tk }) :
  codeAny (model prog w) A (.call (.ref C) ⟨[v],[]⟩) R s:=by
 obtain⟨cnm,q,N,bs,bm,sn,sub,ab,col,dd,k0,k1,k2,k3,k5,hC,hbm⟩:=T.cls;obtain⟨fI,cc,cda,ps,bd,sc,iC,tI,J⟩:=T.ini;obtain⟨hp,g,dr,tk,os⟩:=s;have k:∀b o,hp.get? b=some o→((hp.push (kdv_tup [v])).push (excO C hp.objs.size)).get? b=some o:=fun b o e=>Heap.get?_push_of_some _ (Heap.get?_push_of_some _ e);have hget:((hp.push (kdv_tup [v])).push (excO C hp.objs.size)).get? (hp.objs.size+1)=some (excO C hp.objs.size):=by heap_get
 have hnx:K.lookup (hp.objs.size+1)=none:=by
  cases e:K.lookup (hp.objs.size+1) with
  | none=>rfl
  | some o=>
   have z:hp.get? (hp.objs.size+1)=some o:=X _ _ e;exact absurd (Nat.lt_of_succ_lt (Heap.lt_size z)) (Nat.lt_irrefl _)
 refine call_own F.excBase_ValueError (fun X=>refsVE_contains X bm hbm) (X _ _ hC) (looks_findIn X iC) (fun self=>bind_fn X self tI) (qap v) ?_;refine qeC (s:=⟨(hp.push (kdv_tup [v])).push (excO C hp.objs.size),g,dr,tk,os⟩) T J (X.keeps k) (hG.keeps k) (hB.keeps k) hb (hlim.keeps k) hget hnx ?_ fun h' tk' dx t1 ⟨k',hx,dn,dne,hns⟩=>?_
 ·show A.depth+1<recursionLimit;exact hroom
 ·have old:∀b o,hp.get? b=some o→h'.get? b=some o:=fun b o e=>k' b o (Nat.ne_of_lt (Nat.lt_succ_of_lt (Heap.lt_size e))) (k b o e);have z:hp.objs.size+1+1≤dx:=by
   first
    | (simpa only [Heap.size_push] using dn)
    | exact dn
    | (have q:=dn;rw[Heap.size_push,Heap.size_push]at q;exact q)
  exact⟨rfl,hq h' tk' (hp.objs.size+1) dx ⟨old,Nat.le_succ _,⟨_,_,hx,rfl,rfl,rfl,rfl⟩,Nat.le_trans (Nat.le_trans (Nat.le_succ _) (Nat.le_succ _)) z,dne,hns⟩⟩
end
end ErrX
end PySem
namespace DL
open PySem PySem.Spec PyProof.Rows L2
variable {K:Kx} {W:WX}
def tOf (K:Kx) (W:WX) (m:SM):TS:=fun D σ H=>∃G ρ,Rel K σ G H ρ∧J0 K W σ G H ρ D (m ρ)
def qpD (K:Kx) (W:WX) (m:EM):TE:=fun σ H Q=>∃G ρ,Rel K σ G H ρ∧EPost K W σ G H ρ Q (m ρ)
def qpC (K:Kx) (W:WX) (m:TM):TT:=fun σ H Q=>∃G ρ,Rel K σ G H ρ∧Ia K W σ G H ρ Q (m ρ)
theorem qg7 {m:EM}:Yx K W (qpD K W m) m:=fun σ G H ρ R D h=>⟨G,ρ,R,h⟩
theorem qmk {m:TM}:Ee K W (qpC K W m) m:=fun σ G H ρ R D h=>⟨G,ρ,R,h⟩
def qdM:D→Option Bool
 | .non=>some false
 | .bl b=>some b
 | .int i=>some (i != 0)
 | .str y=>if y.length≤mx then some ((y.length:Int) != 0) else none
 | .lst ds=>some (!ds.isEmpty)
 | .ro ds=>some (!ds.isEmpty)
 | .tup ds=>some (!ds.isEmpty)
 | .dct kvs=>some (!kvs.isEmpty)
 | .ins _ _=>none
 | .dcT _=>none
theorem DqA.empty {K:PySem.W.Frag} {G:Hp} {xs:List V} {ds:List D} (q:DqA K G xs ds):xs.isEmpty=ds.isEmpty:=by
 cases q<;>rfl
theorem DqK.empty {K:PySem.W.Frag} {G:Hp} {xs:List (Key×V)} {ds:List (Key×D)} (q:DqK K G xs ds):xs.isEmpty=ds.isEmpty:=by
 cases q<;>rfl
theorem qfG {K:PySem.W.Frag} {G H:Hp} {v:V} {a:D} {b:Bool} (s:Same G H) (h:Vw K G H v a) (e:qdM a=some b):TruV K v H b:=by
 cases a with
 | non=>cases h;cases e;exact rfl
 | bl c=>cases h;cases e;exact rfl
 | int i=>cases h;cases e;exact rfl
 | str y=>
  cases h;have e:(if y.length≤mx then some ((y.length:Int) != 0) else none)=some b:=e;split at e
  ·rename_i hy;cases e;exact⟨Yc hy,rfl⟩
  ·cases e
 | lst ds=>
  obtain⟨p,xs,rfl,hp,q⟩:=h;cases e;exact .inl ⟨xs,SqL.of hp,by rw[q.empty]⟩
 | ro ds=>
  have h:Dq K G v (.ro ds):=h;cases h with
  | ro hp q=>
   cases e;exact .inl ⟨_,s.seq hp,by rw[q.empty]⟩
 | tup ds=>
  have h:Dq K G v (.tup ds):=h;cases h with
  | tup hp q=>
   cases e;exact .inr (.inl ⟨_,(Same.seqN s hp).sq,by rw[q.empty]⟩)
 | dct kvs=>
  obtain⟨p,xs,rfl,hp,q⟩:=h;cases e;exact .inr (.inr ⟨xs,hp,by rw[q.empty]⟩)
 | ins C fs=>cases e
 | dcT fs=>cases e
def Ag (ma:EM):TM:=fun ρ=>bindR (ma ρ) fun x ρ1=>match (look ρ1 x).bind qdM with
 | some b=>.ok b ρ1
 | none=>.bad
theorem qhV {ta:TE} {ma:EM} (ha:Yx K W ta ma):Ee K W (qsu K ta) (Ag ma):=fun σ G H ρ R Q h=>by
 unfold Ag bindR at h;refine ha.fst R (fun x ρ1 e v G1 H1 S1 R1 x1=>?_) (fun e ρ1 q=>by rw[q]at h;exact h) (fun q=>by rw[q]at h;exact h);rw[e]at h;have h:=Ia.step S1 h;simp only at h;cases e1:look ρ1 x with
 | none=>rw[e1]at h;exact h.elim
 | some a=>
  rw[e1]at h;cases e2:qdM a with
  | none=>rw[show (some a).bind qdM=qdM a from rfl,e2]at h;exact h.elim
  | some b=>
   rw[show (some a).bind qdM=qdM a from rfl,e2]at h;exact⟨b,qfG R1.same (Xn R1 x1 e1) e2,h G1 H1 (Stp.refl _ _ _ _) R1⟩
section
variable {X:Cx}
def qpE (C:Addr) (f:Str) (ta:TA):L2.St→Hp→XK→Prop:=fun σ H Q=>ta σ H fun vs H1=>∃v,vs=[v]∧∀d,H1 d=none→Q (.ref C) (some d) (upd H1 d (.xd [(f,v)]))
theorem qin {f:Str} {v:V} {v':Value} (r:RelV v v') (g:Str):RelO (List.lookup g [(f,v)]) (if g=f then some v' else none):=by
 by_cases hw:g=f
 ·subst hw;rw[if_pos rfl];have q:List.lookup g [(g,v)]=some v:=by simp[List.lookup]
  rw[q];exact r
 ·rw[if_neg hw];have qw:(g == f)=false:=by simpa using hw
  have q2:List.lookup g [(f,v)]=none:=by simp[List.lookup,qw]
  rw[q2];trivial
theorem qf5 {nm f:Str} {C:Addr} {a:Expr} {ta:TA} {p pos:Pos} {k:Nat} (T:PySem.ErrX.ErrTxt X.prog X.K X.mg nm f C) (hr:Room k X.A) (ha:PA X [a] ta) (hg:Gl X nm) (hdb:(nm == ("__debug__" : Str))=false)
  (he:starEach (a::[]) X.env=(false,eval a X.env)::starEach [] X.env) (hpl:(backTo pos (starEach [] X.env)).any (·.1)=false) :
  PMk X (.Call (.Name nm p) [a] [] pos) (qpE C f ta):=by
 intro pins s σ H Q I h;refine wpAny_Call_Name_kw (ld_glob I hg T.gC ?_ hdb);refine PySem.W.callWith_K (h₀:=X.base) I.ok.mod.kin T.kC (thn (ha.run pos pins s σ H _ I h) fun us s1 hh=>?_) he hpl;obtain⟨vs,H1,I1,r1,v,ev,q1⟩:=hh;subst ev;refine⟨I1.kIn,?_⟩;cases r1 with
 | cons rv rn=>
  rename_i v' us';cases rn;show wpAny _ _ (call (.ref C) [v']) _ _ _;have hlim:=I1.nolimit;obtain⟨mb,hb1,hb2⟩:=I1.mod.blt;have hG:=I1.mod.glob.keeps I1.bk;have hB:=hb1.keeps I1.bk;obtain⟨hp,g,dr,tk,os⟩:=s1;refine wpAny_call (PySem.ErrX.qeB T I1.kIn hG hB hb2 hlim (by have:=hr.dp;omega) fun h' tk' e d M=>?_);show MkP X pins σ Q (.ref e) ⟨h',g,dr,tk',os⟩;obtain⟨oe,fv,hoe,hc,hd,hdat,h1⟩:=M.obj;have hns:=M.ns;obtain⟨G',g1,g2⟩:=restrict h' fun b=>decide (b≠e);have gk:∀b,b≠e→G'.get? b=h'.get? b:=fun b hb=>g1 b (decide_eq_true hb);have ge:G'.get? e=none:=g2 e (by simp);have old:∀b o,hp.get? b=some o→G'.get? b=some o:=fun b o q=>(gk b (Nat.ne_of_lt (Nat.lt_of_lt_of_le (Heap.lt_size q) M.new))).trans (M.keep b o q);have ob:ObjOk X.prog X.w (upd H1 d (.xd [(f,v)])) G' d (.xd [(f,v)]):=
   ⟨_,hns.at (fun o q=>(gk d M.dne).trans q),fun g=>qin rv g⟩
  have J:Inv X pins σ (upd H1 d (.xd [(f,v)])) ⟨G',g,dr,tk',os⟩:=I1.laid (t':=tk') old M.dbig ob;refine⟨e,oe,fv,⟨G',g,dr,tk',os⟩,_,.ref C,some d,rfl,J,fun b o q=>?_,ge,hoe,⟨hc,hd⟩,hdat,h1,?_,rfl,I1.bare,raises_own T.exC T.tyC,q1 d (I1.hok.fresh M.dbig)⟩
  ·by_cases hb:b=e
   ·have q':G'.get? b=some o:=q;rw[hb,ge]at q';cases q'
   ·exact (gk b hb).symm.trans q
  ·rw[upd_ne (Ne.symm M.dne)];exact I1.hok.fresh M.new
end
def Gp (c:Str) (f:Str) (ma:AM):SM:=fun ρ=>bindR (ma ρ) fun xs ρ1=>match xs with
 | [x]=>match fz ρ1 x with
  | some (d,ρ2)=>.ex ⟨c,some [(f,d)]⟩ ρ2
  | none=>.bad
 | _=>.bad
theorem qdY {C:Str} {f:Str} {ta:TA} {ma:AM} (ha:Bx K W ta ma):Di K W (fun _ σ H=>qpE (cA K C) f ta σ H fun cls d H'=>W cls d σ H') (Gp C f ma):=fun σ G H ρ R D h=>by
 unfold Gp bindR at h;refine ha.fst R (fun xs ρ1 e vs G1 H1 S1 R1 x1=>?_) (fun e ρ1 q=>by rw[q]at h;exact J0.x h) (fun q=>by rw[q]at h;exact h);rw[e]at h;have h:=J0.step S1 h;simp only at h;split at h
 ·rename_i x;split at h
  ·rename_i d ρ2 e2;cases x1 with
   | cons hx ht=>
    cases ht;obtain⟨G2,S2,R2,q2⟩:=Bk R1 hx e2;refine⟨_,rfl,fun a ha=>?_⟩;have g:=fun o=>Gro.new (o:=o) R2.same ha;exact h _ _ σ _ _ (S2.trans (g _).stp) (R2.gro (g _)) ⟨rfl,a,_,rfl,upd_same,.cons (q2.mono (g _).g) .nil⟩
  ·exact h.elim
 ·exact h.elim
def xl (ρ:Env):Env:=ρ.map fun o=>match o with
 | some .xh=>none
 | some (.p _)=>none
 | o=>o
theorem qaM {ρ:Env} {i:Nat} {l:L} (h:(xl ρ)[i]?=some (some l)):ρ[i]?=some (some l)∧l≠.xh∧∀x,l≠.p x:=by
 unfold xl at h;rw[List.getElem?_map]at h;cases e:ρ[i]? with
 | none=>rw[e]at h;cases h
 | some o=>
  rw[e]at h;cases o with
  | none=>cases h
  | some l'=>
   cases l' with
   | xh=>cases h
   | u _ _=>cases h;exact⟨rfl,(fun z=>nomatch z),fun _ z=>nomatch z⟩
   | p x=>cases h
   | d x=>cases h;exact⟨rfl,(fun z=>nomatch z),fun _ z=>nomatch z⟩
   | m x=>cases h;exact⟨rfl,(fun z=>nomatch z),fun _ z=>nomatch z⟩
   | r x=>cases h;exact⟨rfl,(fun z=>nomatch z),fun _ z=>nomatch z⟩
theorem qft {ρ:Env} {i:Nat} {x:D} (h:ρ[i]?=some (some (.r x))):(xl ρ)[i]?=some (some (.r x)):=by
 unfold xl;rw[List.getElem?_map,h];rfl
theorem qaL {ρ:Env}:(xl ρ).length=ρ.length:=by simp[xl]
def vn (ρ:Env) (i:Nat):Option Env:=match ρ[i]? with
 | some (some (.r _))=>none
 | _=>some (ρ.set i none)
theorem qbm {ρ ρ':Env} {i:Nat} (h:vn ρ i=some ρ'):ρ'=ρ.set i none∧∀x,ρ[i]?≠some (some (.r x)):=by
 unfold vn at h;split at h
 ·cases h
 ·rename_i hn;cases h;exact⟨rfl,fun x e=>hn x e⟩
def fin (i:Nat):Res Fl→Res Fl
 | .ok f ρ=>match vn ρ i with
  | some ρ'=>.ok f ρ'
  | none=>.bad
 | _=>.bad
abbrev ExF:=Str→Option Bool
def qc7 (C:Str):ExF:=fun c=>if c=C then some true else none
def qhD (ex:ExF) (i:Nat) (mb:SM) (ms:Exn→SM):SM:=fun ρ=>match mb ρ with
 | .ex e ρ1=>match ex e.cls with
  | some true=>match Bz (xl ρ1) i .xh with
   | some ρ2=>fin i (ms e ρ2)
   | none=>.bad
  | some false=>.ex e ρ1
  | none=>.bad
 | r=>r
theorem LOk.xa {K:PySem.W.Frag} {x y:Option XA} {G H:Hp} {v:V} {l:L} (h:LOk ⟨K,x⟩ G H v l) (n:l≠.xh∧∀x,l≠.p x):LOk ⟨K,y⟩ G H v l:=by
 cases l with
 | d a=>exact h
 | m a=>cases a<;>exact h
 | r a=>cases a<;>exact h
 | p a=>exact absurd rfl (n.2 a)
 | xh=>exact absurd rfl n.1
 | u _ _=>exact h
theorem LOk.off {K:PySem.W.Frag} {x:Option XA} {G H:Hp} {v:V} {l:L} (h:LOk ⟨K,x⟩ G H v l):LOk ⟨K,none⟩ G H v l:=by
 cases l with
 | d a=>exact h
 | m a=>cases a<;>exact h
 | r a=>cases a<;>exact h
 | p a=>exact⟨by have:=h.1;cases a<;>exact this,fun y e=>nomatch e⟩
 | xh=>exact fun y e=>nomatch e
 | u _ _=>exact h.elim
abbrev WF:WX:=fun _ _ _ _=>False
section
variable {F:PySem.W.Frag} {σ:L2.St} {G H:Hp} {ρ:Env}
theorem Rel.suite {a:Addr} {c:Value} {d:Option Addr} {e:Exn} {i:Nat} {ρ2:Env} (R:Rel ⟨F,none⟩ σ G H ρ) (q:ExOk F G c d e) (h:Bz (xl ρ) i .xh=some ρ2) :
  Stp σ ρ G H (σ.set i (some (.ref a))) ρ2 G H∧Rel ⟨F,some ⟨a,c,d,e⟩⟩ (σ.set i (some (.ref a))) G H ρ2:=by
 obtain⟨rfl,hi,hr⟩:=Cg h;have hi':i < σ.length:=by rw[R.len,← qaL];exact hi
 have own:∀{j:Nat} {l:L} {b:Addr},((xl ρ).set i (some .xh))[j]?=some (some l)→l.own=true→(σ.set i (some (.ref a)))[j]?=some (some (.ref b))→ρ[j]?=some (some l)∧σ[j]?=some (some (.ref b)):=fun {j l b} e1 o e3=>by
  rcases X2 e1 with ⟨rfl,e⟩ | ⟨hne,e⟩
  ·cases Option.some.inj e;cases o
  ·rw[List.getElem?_set_ne hne]at e3;exact⟨(qaM e).1,e3⟩
 refine⟨⟨Same.refl _,fun _ _ h=>.inl h,fun _ _ h _=>h,fun _ h=>h,fun a ⟨j,l,e1,e2,e3⟩=>?_,fun a ⟨j,l,e1,e2,e3⟩=>?_,fun j y e=>?_⟩,⟨R.same,?_,fun j l e=>?_,fun y h=>?_,fun j k l l' b hjk e1 e2 o1 o2 e3 e4=>?_⟩⟩
 ·obtain⟨h1,h2⟩:=own e1 e2 e3;exact .inl ⟨j,l,h1,e2,h2⟩
 ·have o:l.own=true:=by cases l<;>first | rfl | cases e2
  obtain⟨h1,h2⟩:=own e1 o e3;exact .inl ⟨j,l,h1,e2,h2⟩
 ·have hne:i≠j:=fun q=>by subst q;exact hr y (qft e)
  rw[List.getElem?_set_ne hne,List.getElem?_set_ne hne];exact⟨rfl,y,qft e⟩
 ·rw[List.length_set,List.length_set,qaL];exact R.len
 ·rcases X2 e with ⟨hij,e'⟩ | ⟨hne,e⟩
  ·subst hij;cases Option.some.inj e';exact⟨_,List.getElem?_set_self hi',fun y hy=>by cases hy;rfl⟩
  ·rw[List.getElem?_set_ne hne];obtain⟨h1,h2⟩:=qaM e;obtain⟨v,h3,h4⟩:=R.at_ j l h1;exact⟨v,h3,h4.xa h2⟩
 ·cases h;exact q
 ·obtain⟨h1,h2⟩:=own e1 o1 e3;obtain⟨h3,h4⟩:=own e2 o2 e4;exact R.sep j k l l' b hjk h1 h3 o1 o2 h2 h4
theorem Rel.off {x:Option XA} (R:Rel ⟨F,x⟩ σ G H ρ):Rel ⟨F,none⟩ σ G H ρ:=
 ⟨R.same,R.len,fun j l e=>let ⟨v,h1,h2⟩:=R.at_ j l e;⟨v,h1,h2.off⟩,(fun y h=>nomatch h),R.sep⟩
theorem Rel.gone {x:Option XA} {i:Nat} {ρ':Env} (R:Rel ⟨F,x⟩ σ G H ρ) (h:vn ρ i=some ρ'):Stp σ ρ G H (σ.set i none) ρ' G H∧Rel ⟨F,none⟩ (σ.set i none) G H ρ':=by
 obtain⟨rfl,hr⟩:=qbm h;have own:∀{j:Nat} {l:L},(ρ.set i none)[j]?=some (some l)→i≠j∧ρ[j]?=some (some l):=fun {j l} e1=>by
  rcases X2 e1 with ⟨_,e⟩ | ⟨h,e⟩
  ·cases e
  ·exact⟨h,e⟩
 have sg:∀{j:Nat} {b:Addr},i≠j→(σ.set i none)[j]?=some (some (.ref b))→σ[j]?=some (some (.ref b)):=fun {j b} h e=>by
  rw[List.getElem?_set_ne h]at e;exact e
 refine⟨⟨Same.refl _,fun _ _ h=>.inl h,fun _ _ h _=>h,fun _ h=>h,fun a ⟨j,l,e1,e2,e3⟩=>.inl ⟨j,l,(own e1).2,e2,sg (own e1).1 e3⟩,fun a ⟨j,l,e1,e2,e3⟩=>.inl ⟨j,l,(own e1).2,e2,sg (own e1).1 e3⟩,fun j y e=>?_⟩,
  ⟨R.same,by rw[List.length_set,List.length_set];exact R.len,fun j l e=>?_,(fun y h=>nomatch h),fun j k l l' b hjk e1 e2 o1 o2 e3 e4=>?_⟩⟩
 ·have hne:i≠j:=fun q=>by subst q;exact hr y e
  rw[List.getElem?_set_ne hne,List.getElem?_set_ne hne];exact⟨rfl,y,e⟩
 ·obtain⟨h1,h2⟩:=own e;rw[List.getElem?_set_ne h1];obtain⟨v,h3,h4⟩:=R.at_ j l h2;exact⟨v,h3,h4.off⟩
 ·exact R.sep j k l l' b hjk (own e1).2 (own e2).2 o1 o2 (sg (own e1).1 e3) (sg (own e2).1 e4)
end
theorem qdQ.kx {F:PySem.W.Frag} {x y:Option XA} {σ:L2.St} {ρ:Env} {H G' H':Hp} {v:V} {l:L} (h:qdQ ⟨F,x⟩ σ ρ H G' H' v l):qdQ ⟨F,y⟩ σ ρ H G' H' v l:=by
 cases l with
 | d a=>exact h
 | m a=>exact⟨by have:=h.1;cases a<;>exact this,h.2⟩
 | r a=>exact h
 | p a=>exact h
 | xh=>exact h
 | u _ _=>obtain⟨t,va,vb,h1,h2,h3,h4,h5⟩:=h;exact⟨t,va,vb,h1,h2,h3,(by rename_i x;cases x<;>exact h4),h5⟩
def tsT (F:PySem.W.Frag) (ms:Exn→SM):Addr→Value→Option Addr→TS:=fun a cls d D σ H=>∃e:Exn,.ref (cA F e.cls)=cls∧tOf ⟨F,some ⟨a,cls,d,e⟩⟩ WF (ms e) D σ H
theorem qh6 {F:PySem.W.Frag} {c:Value} {i:Nat} {mb:SM} {ms:Exn→SM} {ex:ExF} (hex:∀cls b,ex cls=some b→PySem.W.exmOne F (.ref (cA F cls)) c=some b) :
  Di ⟨F,none⟩ W (fun D σ H=>tOf ⟨F,none⟩ (wAs F c i (tsT F ms) W D) mb D σ H) (qhD ex i mb ms):=fun σ G H ρ R D h=>by
 refine⟨G,ρ,R,?_⟩;unfold qhD at h;cases eb:mb ρ with
 | bad=>rw[eb]at h;exact h
 | ok fl ρ1=>rw[eb]at h;cases fl<;>exact h
 | ex e ρ1=>
  rw[eb]at h;simp only at h;intro c' d σ' G' H' S' R' q;have q1:c'=.ref (cA F e.cls):=q.1;subst q1;cases ee:ex e.cls with
  | none=>rw[ee]at h;exact h.elim
  | some b=>
   rw[ee]at h;refine⟨b,hex _ _ ee,fun hb a na=>?_,fun hb=>?_⟩
   ·subst hb;simp only at h;cases e2:Bz (xl ρ1) i .xh with
    | none=>rw[e2]at h;exact h.elim
    | some ρ2=>
     rw[e2]at h;simp only at h;obtain⟨S2,R2⟩:=Rel.suite (a:=a) R' q e2;refine⟨e,rfl,G',ρ2,R2,?_⟩;cases e3:ms e ρ2 with
     | bad=>rw[e3]at h;exact h.elim
     | ex _ _=>rw[e3]at h;exact h.elim
     | ok f ρ3=>
      rw[e3]at h;unfold fin at h;simp only at h;cases e4:vn ρ3 i with
      | none=>rw[e4]at h;exact h.elim
      | some ρ4=>
       rw[e4]at h;have S02:=S'.trans S2;cases f with
       | nx=>
        intro σ3 G3 H3 S3 R3;obtain⟨S4,R4⟩:=Rel.gone R3 e4;exact h _ _ _ ((S02.trans S3).trans S4) R4
       | bk=>
        intro σ3 G3 H3 S3 R3;obtain⟨S4,R4⟩:=Rel.gone R3 e4;exact h _ _ _ ((S02.trans S3).trans S4) R4
       | ct=>
        intro σ3 G3 H3 S3 R3;obtain⟨S4,R4⟩:=Rel.gone R3 e4;exact h _ _ _ ((S02.trans S3).trans S4) R4
       | rt l=>
        intro σ3 v G3 H3 S3 R3 qr;obtain⟨S4,R4⟩:=Rel.gone R3 e4;exact h _ v _ _ ((S02.trans S3).trans S4) R4 (qdQ.step S02 (qdQ.kx qr))
   ·subst hb;simp only at h;exact h _ _ _ _ _ S' R' q
def eXf (e:Exn) (c:Str) (f:Str) (i:Nat):EM:=fun ρ=>match ρ[i]? with
 | some (some .xh)=>if e.cls=c then (match e.fs with
  | some fs=>match fs.lookup f with
   | some d=>.ok (.d d) ρ
   | none=>.bad
  | none=>.bad) else .bad
 | _=>.bad
theorem DqF.look {K:PySem.W.Frag} {G:Hp} {f:Str}:∀{vs:List (Str×V)} {ds:List (Str×D)} {d:D},DqF K G vs ds→ds.lookup f=some d→∃v,vs.lookup f=some v∧Dq K G v d
 | _,_,_,.nil,e=>by cases e
 | _,_,d,.cons (k:=k) (v:=v) h t,e=>by
  unfold List.lookup at e ⊢;cases q:f == k with
  | true=>rw[q]at e;cases e;exact⟨v,rfl,h⟩
  | false=>rw[q]at e;exact DqF.look t e
theorem qox {F:PySem.W.Frag} {a:Addr} {c:Value} {d:Option Addr} {e:Exn} {C:Str} {f:Str} {i:Nat}:Yx ⟨F,some ⟨a,c,d,e⟩⟩ W (tXf a c d (cA F C) f (tVar i)) (eXf e C f i):=fun σ G H ρ R Q h=>by
 unfold eXf at h;split at h
 ·rename_i hx;split at h
  ·rename_i hc;cases e1:e.fs with
   | none=>rw[e1]at h;exact h.elim
   | some fs=>
    rw[e1]at h;simp only at h;cases e2:fs.lookup f with
    | none=>rw[e2]at h;exact h.elim
    | some y=>
     rw[e2]at h;obtain⟨v,hv,hl⟩:=R.at_ i _ hx;have hl:=hl ⟨a,c,d,e⟩ rfl;subst hl;obtain⟨x1,x2⟩:=R.exo ⟨a,c,d,e⟩ rfl;simp only[e1]at x2;obtain⟨dd,vs,rfl,hg,hf⟩:=x2;obtain⟨u,hu,qu⟩:=DqF.look hf e2;exact⟨_,hv,rfl,x1.trans (by rw[hc]),dd,vs,u,rfl,R.same _ _ hg,hu,h u G H (Stp.refl _ _ _ _) R qu⟩
  ·exact h.elim
 ·exact h.elim
section
variable (X:Cx) (xa:Option XA) (W:WX)
def JE (e:Expr) (m:EM):Prop:=∃t,PE X e t∧Yx ⟨X.K,xa⟩ W t m
def JF (e:Expr) (m:FM):Prop:=∃t,PE X e t∧qbB ⟨X.K,xa⟩ W t m
def JT (e:Expr) (m:TM):Prop:=∃t,PT X e t∧Ee ⟨X.K,xa⟩ W t m
def JW (e:Expr) (m:TM):Prop:=∃t,PW X e t∧Ee ⟨X.K,xa⟩ W t m
def JA (es:List Expr) (m:AM):Prop:=∃t,PA X es t∧Bx ⟨X.K,xa⟩ W t m
def JO (e:Option Expr) (m:OM):Prop:=∃t,PO X e t∧qdH ⟨X.K,xa⟩ W t m
def JI (tg e:Expr) (m:IM):Prop:=∃t,PI X tg e t∧qeQ ⟨X.K,xa⟩ W t m
def JG (js:List Nat) (tg:Expr) (m:GM):Prop:=∃g,PG X tg g∧GOk ⟨X.K,xa⟩ js g m
def JGs (js:List Nat) (tgs:List Expr) (m:GMs):Prop:=∃g,PGs X tgs g∧qhQ ⟨X.K,xa⟩ js g m
def JS (st:Stmt) (m:SM):Prop:=∃t,PS X st t∧Di ⟨X.K,xa⟩ W t m
end
section
variable {X:Cx} {xa:Option XA} {W:WX}
theorem JE.can {e:Expr} {m:EM} (h:JE X xa W e m):PE X e (qpD ⟨X.K,xa⟩ W m):=by
 obtain⟨t,h1,h2⟩:=h;exact⟨fun pins s σ H Q I ⟨G,ρ,R,hp⟩=>h1.run pins s σ H Q I (h2 σ G H ρ R Q hp)⟩
theorem JT.can {e:Expr} {m:TM} (h:JT X xa W e m):PT X e (qpC ⟨X.K,xa⟩ W m):=by
 obtain⟨t,h1,h2⟩:=h;exact⟨fun pins s σ H Q I ⟨G,ρ,R,hp⟩=>h1.run pins s σ H Q I (h2 σ G H ρ R Q hp)⟩
theorem JSs.can {st:List Stmt} {m:SM} (h:JSs X xa W st m):PSs X st (tOf ⟨X.K,xa⟩ W m):=by
 obtain⟨t,h1,h2⟩:=h;exact⟨fun pins s σ H Q I ⟨G,ρ,R,hp⟩=>h1.run pins s σ H Q I (h2 σ G H ρ R Q hp)⟩
theorem Qa {i:Nat} {x:Str} {pos:Pos} (hN:X.N[i]?=some x:=by rfl) (hv:Vis X.env.scope x:=by first | exact .inl rfl | exact .inr (.inl rfl) | exact .inr (.inr rfl)) (hd:(x == ("__debug__" : Str))=false:=by decide) (hcd:(x == ("__classdict__" : Str))=false:=by decide) :
  JE X xa W (.Name x pos) (Qi i):=⟨_,pe_var hN hv hd hcd,qj5 i⟩
theorem Qf {i j pos}:JE X xa W (.Constant (.int i) j pos) (eC (.int i)):=⟨_,pe_int,qki i⟩
theorem Tv {b j pos}:JE X xa W (.Constant (.bool b) j pos) (eC (.bl b)):=⟨_,pe_bl,qoA b⟩
theorem Z8 {x j pos}:JE X xa W (.Constant (.str x) j pos) (eC (.str x)):=⟨_,pe_str,qj8 x⟩
theorem Fe {j pos}:JE X xa W (.Constant .none j pos) (eC .non):=⟨_,pe_non,qkd⟩
variable {a b c e:Expr} {es:List Expr} {ma mb mc m:EM} {pos:Pos} {fm:FM} {am:AM} {tm tn:TM}
theorem qaz (h:JF X xa W e fm):JE X xa W e (eF fm):=let ⟨t,h1,h2⟩:=h;⟨t,h1,h2.ev⟩
theorem Qn {op:Operator} {g:D→D→Option D} (ho:OpR X (binaryOp op) (rD2 X.K g)) (ha:JE X xa W a ma) (hb:JE X xa W b mb):JE X xa W (.BinOp a op b pos) (eOp g ma mb):=
 let ⟨_,h1,h2⟩:=ha;let ⟨_,h3,h4⟩:=hb;⟨_,pe_op ho h1 h3,qez h2 h4⟩
theorem U3 {op:UnaryOp} {g:D→Option D} (ho:UnR X (unaryOp op) (rD1 X.K g)) (ha:JE X xa W a ma):JE X xa W (.UnaryOp op a pos) (eUn g ma):=
 let ⟨_,h1,h2⟩:=ha;⟨_,pe_un ho h1,qj6 h2⟩
theorem qcP {op:CmpOp} {g:D→D→Option D} (ho:OpR X (compareOp op) (rD2 X.K g)) (ha:JE X xa W a ma) (hb:JE X xa W b mb) (hm:behindInMarks op b=false:=by first | exact nomark _ (by decide) (by decide) | with_unfolding_all rfl) :
  JE X xa W (.Compare a [op] [b] pos) (eOp g ma mb):=
 let ⟨_,h1,h2⟩:=ha;let ⟨_,h3,h4⟩:=hb;⟨_,pe_cmpR ho h1 h3 hm,qez h2 h4⟩
theorem Q7 {op:CmpOp} {g:D→D→Option D} (ho:OpR X (compareOp op) (rD2 X.K g)) (ha:JE X xa W a ma) (hb:JE X xa W b mb) (hm:behindInMarks op b=false:=by first | exact nomark _ (by decide) (by decide) | with_unfolding_all rfl) :
  JT X xa W (.Compare a [op] [b] pos) (tBl (eOp g ma mb)):=
 let ⟨_,h1,h2⟩:=ha;let ⟨_,h3,h4⟩:=hb;⟨_,pt_cmpR ho h1 h3 hm,qfD (qez h2 h4)⟩
theorem Hy (ha:JE X xa W a ma) (he:∀whole,isTrue a X.env whole=(do let v ← whole;standAt a.pos;holding [v] (truthy v)):=by intro _;rfl):JT X xa W a (Ag ma):=
 let ⟨_,h1,h2⟩:=ha;⟨_,pt_truth h1 he,qhV h2⟩
theorem yy {op:JT X xa W a tm}:JW X xa W (.BoolOp .And [a] pos) tm:=let ⟨_,h1,h2⟩:=op;⟨_,pw_and1 h1,h2⟩
theorem Pu {op:JT X xa W a tm}:JW X xa W (.BoolOp .Or [a] pos) tm:=let ⟨_,h1,h2⟩:=op;⟨_,pw_or1 h1,h2⟩
theorem qcI {rest:List Expr} (ha:JT X xa W a tm) (hb:JW X xa W (.BoolOp .And (b::rest) pos) tn):JW X xa W (.BoolOp .And (a::b::rest) pos) (qgw tm tn):=
 let ⟨_,h1,h2⟩:=ha;let ⟨_,h3,h4⟩:=hb;⟨_,pw_and h1 h3,qhX h2 h4⟩
theorem Tt {rest:List Expr} (ha:JT X xa W a tm) (hb:JW X xa W (.BoolOp .Or (b::rest) pos) tn):JW X xa W (.BoolOp .Or (a::b::rest) pos) (mOr tm tn):=
 let ⟨_,h1,h2⟩:=ha;let ⟨_,h3,h4⟩:=hb;⟨_,pw_or h1 h3,qmj h2 h4⟩
theorem x8 (h:JW X xa W e tm):JT X xa W e tm:=let ⟨_,h1,h2⟩:=h;⟨_,h1.pt,h2⟩
theorem Hz (ha:JT X xa W a tm):JT X xa W (.UnaryOp .Not a pos) (Ah tm):=let ⟨_,h1,h2⟩:=ha;⟨_,pt_not h1,qhW h2⟩
theorem qay {op} (h:JE X xa W a ma):JE X xa W (.BoolOp op [a] pos) ma:=let ⟨_,h1,h2⟩:=h;⟨_,pe_one h1,h2⟩
theorem jz {rest:List Expr} (ha:JE X xa W a ma) (hb:JE X xa W (.BoolOp .And (b::rest) pos) mb):JE X xa W (.BoolOp .And (a::b::rest) pos) (qeI ma mb):=
 let ⟨_,h1,h2⟩:=ha;let ⟨_,h3,h4⟩:=hb;⟨_,pe_and h1 h3,qkn h2 h4⟩
theorem qjA (ha:JE X xa W a ma):JE X xa W (.UnaryOp .Not a pos) (qkq ma):=let ⟨_,h1,h2⟩:=ha;⟨_,pe_not h1,qkc h2⟩
theorem Qh:JA X xa W [] Qr:=⟨_,pa_nil,qaP⟩
theorem Qb (ha:JE X xa W e m) (hr:JA X xa W es am) (hs:starEach (e::es) X.env=(false,eval e X.env)::starEach es X.env:=by rfl):JA X xa W (e::es) (Qd m am):=
 let ⟨_,h1,h2⟩:=ha;let ⟨_,h3,h4⟩:=hr;⟨_,pa_cons h1 h3 hs,qdC h2 h4⟩
theorem Zz {k} (h:JA X xa W es am):JE X xa W (.Tuple es k pos) (Uz am):=let ⟨_,h1,h2⟩:=h;⟨_,qf8 h1,qj7 h2⟩
theorem Ys (h:JA X xa W es am):JF X xa W (.List es pos) (Dz am):=let ⟨_,h1,h2⟩:=h;⟨_,pe_lst h1,qjY h2⟩
theorem Qp (ha:JE X xa W a ma) (hb:JE X xa W b mb) (hs:PlainIx b:=by intro _ _;rfl):JE X xa W (.Subscript a b pos) (eOp ixD ma mb):=
 let ⟨_,h1,h2⟩:=ha;let ⟨_,h3,h4⟩:=hb;⟨_,pe_ix qtb h1 h3 hs,qez h2 h4⟩
variable {ol oh os:OM} {lo hi:Option Expr}
theorem qcL:JO X xa W none qce:=⟨_,po_none,qge⟩
theorem yz (h:JE X xa W e m):JO X xa W (some e) (E7 m):=let ⟨_,h1,h2⟩:=h;⟨_,po_some h1,qgd h2⟩
theorem qta {p2} (ha:JE X xa W a ma) (hl:JO X xa W lo ol) (hh:JO X xa W hi oh):JE X xa W (.Subscript a (.Slice lo hi none p2) pos) (eSl slD ma ol oh):=
 let ⟨_,h1,h2⟩:=ha;let ⟨_,h3,h4⟩:=hl;let ⟨_,h5,h6⟩:=hh;⟨_,pe_slice qsx h1 h3 h5,qoy h2 h4 h6⟩
theorem qjz {p2 st} (ha:JE X xa W a ma) (hl:JO X xa W lo ol) (hh:JO X xa W hi oh) (hs:JO X xa W (some st) os)
  (hst:∀a b,subscripted (.Slice lo hi (some st) p2) false (.ref a) (.ref b)=operate [.ref a,.ref b] (getItem (.ref a) (.ref b)):=by intro _ _;with_unfolding_all rfl):JF X xa W (.Subscript a (.Slice lo hi (some st) p2) pos) (qj2 ma ol oh os):=
 let ⟨_,h1,h2⟩:=ha;let ⟨_,h3,h4⟩:=hl;let ⟨_,h5,h6⟩:=hh;let ⟨_,h7,h8⟩:=hs;⟨_,qb6 h1 h3 h5 h7 hst,qjW h2 h4 h6 h8⟩
section
variable {x:Str} {p:Pos} {id T:String}
theorem Vr {g:List D→Option D} (hc:CallR X (.builtin id) (rDn X.K g)) (hm:X.mg x=none) (hv:bootBuiltins x=some (.builtin id)) (ha:JA X xa W (e::es) am) (hg:Gl X x:=by rfl) (hn:x≠"__name__":=by decide) (hdb:(x == ("__debug__" : Str))=false:=by decide)
  (he:starEach (e::es) X.env=(false,eval e X.env)::starEach es X.env:=by rfl) (hpl:(backTo pos (starEach es X.env)).any (·.1)=false:=by rfl):JE X xa W (.Call (.Name x p) (e::es) [] pos) (eCB g am):=
 let ⟨_,h1,h2⟩:=ha;⟨_,pe_callB hc hg hm hv h1 hn hdb he hpl,qkl h2⟩
theorem Tu {g:List D→Option D} (hc:CallR X (.type T) (rDn X.K g)) (hm:X.mg x=none) (hv:bootBuiltins x=some (.type T)) (ha:JA X xa W (e::es) am) (hg:Gl X x:=by rfl) (hn:x≠"__name__":=by decide) (hdb:(x == ("__debug__" : Str))=false:=by decide)
  (he:starEach (e::es) X.env=(false,eval e X.env)::starEach es X.env:=by rfl) (hpl:(backTo pos (starEach es X.env)).any (·.1)=false:=by rfl):JE X xa W (.Call (.Name x p) (e::es) [] pos) (eCB g am):=
 let ⟨_,h1,h2⟩:=ha;⟨_,pe_callTy hc hg hm hv h1 hn hdb he hpl,qkl h2⟩
theorem jy {y:Str} {p':Pos} (T:String) (hm:X.mg "isinstance"=none) (hy:X.mg y=none) (hv:bootBuiltins y=some (.type T)) (hk:∀t∈["NoneType","bool","int","str","list","tuple","dict"],PySem.W.kitOne X.K (.type t) (.type T)=some (x9 t T)) (ha:JE X xa W e m)
  (hg:Gl X "isinstance":=by rfl) (hgy:Gl X y:=by rfl) (hn:y≠"__name__":=by decide) (hdb:(y == ("__debug__" : Str))=false:=by decide)
  (he:starEach [e,.Name y p'] X.env=(false,eval e X.env)::starEach [.Name y p'] X.env:=by rfl) (he2:starEach [.Name y p'] X.env=(false,eval (.Name y p') X.env)::starEach [] X.env:=by rfl) (hpl:(backTo pos (starEach [.Name y p'] X.env)).any (·.1)=false:=by rfl) :
  JE X xa W (.Call (.Name "isinstance" p) [e,.Name y p'] [] pos) (qeG T m):=
 let ⟨_,h1,h2⟩:=ha;⟨_,pe_callB (qky hk) hg hm (by first | boot_by_name | rfl | kernel_rfl) (pa_cons h1 (pa_cons (pe_bltn (v:=.ty T) hgy hy hv rfl hn hdb) pa_nil he2) he) (by decide) (by decide) he hpl,qkg h2⟩
end
section
variable {x:Str} {p:Pos} {k:Nat} {f:Addr} {fd:FuncData} {ps:List Str} {R:List L→FRes} {dvs:List V} {ds:List D} {dvals:List Value}
theorem qgM (F:FnOk X.prog X.w X.K X.mg X.base (L2.CX X.prog X.w) k f fd ps (spF X.K ps.length R)) (hr:Room k X.A) (hm:X.mg x=some (.ref f)) (hk:PySem.W.keepIn X.K (.ref f)=true) (hb:Binds X.K fd ps []) (tk:Takes X W) (ha:JA X xa W (e::es) am) (hg:Gl X x:=by rfl)
  (hdb:(x == ("__debug__" : Str))=false:=by decide) (he:starEach (e::es) X.env=(false,eval e X.env)::starEach es X.env:=by rfl) (hpl:(backTo pos (starEach es X.env)).any (·.1)=false:=by rfl):JE X xa W (.Call (.Name x p) (e::es) [] pos) (Q6 ps.length R am):=
 let ⟨_,h1,h2⟩:=ha;⟨_,pe_callSD F hr hg hm hk hb .nil (fun σ=>passAt tk σ) h1 hdb he hpl,qc8 h2⟩
theorem qgJ (F:FnOk X.prog X.w X.K X.mg X.base (L2.CX X.prog X.w) k f fd ps (spF X.K ps.length R)) (hr:Room k X.A) (hm:X.mg x=some (.ref f)) (hk:PySem.W.keepIn X.K (.ref f)=true) (hb:Binds X.K fd ps []) (tk:Takes X W) (ha:JA X xa W (e::es) am) (hg:Gl X x:=by rfl)
  (hdb:(x == ("__debug__" : Str))=false:=by decide) (he:starEach (e::es) X.env=(false,eval e X.env)::starEach es X.env:=by rfl) (hpl:(backTo pos (starEach es X.env)).any (·.1)=false:=by rfl):JF X xa W (.Call (.Name x p) (e::es) [] pos) (vi ps.length R am):=
 let ⟨_,h1,h2⟩:=ha;⟨_,pe_callSD F hr hg hm hk hb .nil (fun σ=>passAt tk σ) h1 hdb he hpl,qgW h2⟩
end
section
variable {x:Str} {i:Nat} {p apos:Pos}
theorem V1 (ha:JE X xa W e m) (hN:X.N[i]?=some x:=by rfl) (hv:Vis X.env.scope x:=by first | exact .inl rfl | exact .inr (.inl rfl) | exact .inr (.inr rfl)) (hd:(x == ("__debug__" : Str))=false:=by decide) (hcd:(x == ("__classdict__" : Str))=false:=by decide)
  (hbase:attributeBase (.Name x p) "append" X.env (eval (.Name x p) X.env)=eval (.Name x p) X.env:=by rfl)
  (hfew:((backTo pos (starEach [e] X.env)).all (fun x=>!x.1) && (backToKw pos (keywordEach [] X.env)).all (fun x=>x.1.isSome)
   && decide ([e].length+([]:List Keyword).length+(if ([]:List Keyword).isEmpty then 0 else 1)<30))=true:=by rfl)
  (hline:(apos.endLine == pos.line)=true:=by rfl) (hs:starEach [e] X.env=(false,eval e X.env)::starEach [] X.env:=by rfl) (hpl:(backTo pos (starEach [] X.env)).any (·.1)=false:=by rfl) :
  JE X xa W (.Call (.Attribute (.Name x p) "append" apos) [e] [] pos) (Fg i m):=
 let ⟨_,h1,h2⟩:=ha;⟨_,pe_bm PySem.F.plainAttrs_list PySem.F.slot_list_append PySem.F.type_list_append mt_append (pe_var hN hv hd hcd) (pa_cons h1 pa_nil hs) hbase hfew hline hs hpl,qkm h2⟩
theorem A7 (hN:X.N[i]?=some x:=by rfl) (hv:Vis X.env.scope x:=by first | exact .inl rfl | exact .inr (.inl rfl) | exact .inr (.inr rfl)) (hd:(x == ("__debug__" : Str))=false:=by decide) (hcd:(x == ("__classdict__" : Str))=false:=by decide)
  (hbase:attributeBase (.Name x p) "pop" X.env (eval (.Name x p) X.env)=eval (.Name x p) X.env:=by rfl) (hline:(apos.endLine == pos.line)=true:=by rfl) :
  JE X xa W (.Call (.Attribute (.Name x p) "pop" apos) [] [] pos) (qdh i):=
 ⟨_,pe_bm0 PySem.F.plainAttrs_list PySem.F.slot_list_pop PySem.F.type_list_pop mt_pop (pe_var hN hv hd hcd) hbase hline,qka⟩
end
section
variable {tg l:Expr} {p:Pos} {im:IM}
theorem Kq (h:JE X xa W l m):JI X xa W tg l (C4 m):=let ⟨_,h1,h2⟩:=h;⟨_,qiA h1,qjI h2⟩
theorem Pc (hm:X.mg "range"=none) (h:JA X xa W [a] am) (hg:Gl X "range":=by rfl) (hs:starEach [a] X.env=[(false,eval a X.env)]:=by rfl):JI X xa W tg (.Call (.Name "range" p) [a] [] pos) (Sw am):=
 let ⟨_,h1,h2⟩:=h;⟨_,qb3 hg hm h1 hs,qgN h2⟩
variable {x:Str} {i:Nat} {js ks:List Nat} {gm:GM} {gms:GMs} {tgs:List Expr}
theorem Q8 (hN:X.N.Nodup) (hi:X.N[i]?=some x:=by rfl) (hx:Loc X.env.scope x:=by first | exact .inl rfl | exact .inr rfl) (hf:X.fn x=true∨X.env.scope.names.lookup x=some .local:=by first | exact .inl rfl | exact .inr rfl):JG X xa [i] (.Name x pos) (Qg i):=
 ⟨_,pg_name hN hi hx hf,Uy i⟩
theorem Pd:JGs X xa [] [] Wl:=⟨_,pgs_nil,qcS⟩
theorem Zp (h1:JG X xa js e gm) (h2:JGs X xa ks tgs gms) (hs:(assignEach (e::tgs) X.env).map (·.2)=assign e X.env::(assignEach tgs X.env).map (·.2):=by rfl):JGs X xa (js++ks) (e::tgs) (Q3 gm gms):=
 let ⟨_,a1,a2⟩:=h1;let ⟨_,b1,b2⟩:=h2;⟨_,pgs_cons a1 b1 hs,Bh a2 b2⟩
theorem C6 {k n:Nat} (hc:X.calm=true) (h:JGs X xa js tgs gms) (hn:(assignEach tgs X.env).length=n:=by rfl) (hst:(assignEach tgs X.env).findIdx? (·.1)=none:=by rfl):JG X xa js (.Tuple tgs k pos) (K7 n gms):=
 let ⟨_,a1,a2⟩:=h;⟨_,pg_tup hc a1 hn hst,qcT a2⟩
end
section
variable {elt tg iter:Expr} {ifs:List Expr} {scope:Scope} {im:IM} {gm:GM}
def qhw (X:Cx) (scope:Scope) (P:Cx→Prop):Prop:=∀(s:Shared) (H:Hp) (C:Addr) (cl:List (Str×Addr)) (fp:List Addr),P (X.blk s H scope (compEnvC scope cl C X.env) fp)
def jw:TM:=fun ρ=>.ok true ρ
theorem qeS {K:Kx}:Ee K W tYes jw:=fun σ G H ρ R Q h=>h G H (Stp.refl _ _ _ _) R
theorem qeu {own:List (Str×Nat)} {ks:List Nat} {g:TG} (hc:X.calm=true) (hN:X.N.Nodup) (hi:JI X xa W tg iter im) (ok:BlkOk X.N X.env.scope scope own) (hg:qhw X scope fun Y=>PG Y tg g) (hgo:GOk ⟨X.K,xa⟩ ks g gm) (hks:∀i∈ks,i∈own.map (·.2))
  (he:qhw X scope fun Y=>JE Y xa WF elt m) (hs:∀x,foldedSetIterable iter X.env x=pure x:=by intro _;rfl) :
  JF X xa W (.ListComp elt [⟨tg,iter,[],0⟩] scope pos) (fLc im (own.map (·.2)) gm jw m):=
 let ⟨_,h1,h2⟩:=hi
 ⟨_,pe_lc hc hN h1 ok hg (fun _ _ _ _ _=>pts_nil) (fun s H C cl fp=>(he s H C cl fp).can) hs,qgV h2 hgo hks qeS qg7⟩
theorem qgI {own:List (Str×Nat)} {ks:List Nat} {g:TG} (hc:X.calm=true) (hN:X.N.Nodup) (hi:JI X xa W tg iter im) (ok:BlkOk X.N X.env.scope scope own) (hg:qhw X scope fun Y=>PG Y tg g) (hgo:GOk ⟨X.K,xa⟩ ks g gm) (hks:∀i∈ks,i∈own.map (·.2))
  (ht:qhw X scope fun Y=>JT Y xa WF c tm) (he:qhw X scope fun Y=>JE Y xa WF elt m) (hs:∀x,foldedSetIterable iter X.env x=pure x:=by intro _;rfl) :
  JF X xa W (.ListComp elt [⟨tg,iter,[c],0⟩] scope pos) (fLc im (own.map (·.2)) gm tm m):=
 let ⟨_,h1,h2⟩:=hi
 ⟨_,pe_lc hc hN h1 ok hg (fun s H C cl fp=>pts_one (ht s H C cl fp).can) (fun s H C cl fp=>(he s H C cl fp).can) hs,qgV h2 hgo hks qmk qg7⟩
variable {y:Str} {i:Nat} {py spos:Pos}
theorem qcJ {own:List (Str×Nat)} {ks:List Nat} {g:TG} (hc:X.calm=true) (hN:X.N.Nodup) (hsw:swapsWith (.ListComp elt [⟨tg,iter,[],0⟩] scope pos) (some (.Name y py)) spos.line X.env=pure true) (hi:JI X xa W tg iter im) (ok:BlkOk X.N X.env.scope scope own) (hg:qhw X scope fun Y=>PG Y tg g) (hgo:GOk ⟨X.K,xa⟩ ks g gm) (hks:∀i∈ks,i∈own.map (·.2))
  (he:qhw X scope fun Y=>JE Y xa WF elt m) (hy:X.N[i]?=some y:=by rfl) (hyl:X.env.scope.names.lookup y=some .local:=by rfl) (hs:∀x,foldedSetIterable iter X.env x=pure x:=by intro _;rfl) :
  JS X xa W (.Assign [.Name y py] (.ListComp elt [⟨tg,iter,[],0⟩] scope pos) spos) (Jm (Qg i) (eF (fLc im (own.map (·.2)) gm jw m))):=
 let ⟨_,h1,h2⟩:=hi
 ⟨_,ps_setLc hc hN hy hyl hsw h1 ok hg (fun _ _ _ _ _=>pts_nil) (fun s H C cl fp=>(he s H C cl fp).can) hs,qbM (qgV h2 hgo hks qeS qg7).ev (Uy i)⟩
end
section
variable {st:Stmt} {sts body orelse:List Stmt} {n o:SM} {x y:Str} {i j:Nat} {p p':Pos} {tg:Expr} {gm:GM} {js:List Nat} {im:IM}
theorem Qe:JSs X xa W [] Q2:=⟨_,pss_nil,qh9⟩
theorem Qc (h1:JS X xa W st n) (h2:JSs X xa W sts o):JSs X xa W (st::sts) (Qo n o):=let ⟨_,a,b⟩:=h1;let ⟨_,c,d⟩:=h2;⟨_,pss_cons a c,qh7 b d⟩
theorem qjq:JS X xa W (.Break pos) qk3:=⟨_,ps_break,qic⟩
theorem Jw (h:JE X xa W e m) (hs:swapsWith e none pos.line X.env=pure false:=by rfl):JS X xa W (.Expr e pos) (K3 m):=let ⟨_,a,b⟩:=h;⟨_,ps_expr a hs,qfR b⟩
theorem Qx (h:JE X xa W e m):JS X xa W (.Return (some e) pos) (J9 m):=let ⟨_,a,b⟩:=h;⟨_,ps_ret a,qh8 b⟩
theorem qcK (h:JF X xa W e fm):JS X xa W (.Return (some e) pos) (qaY fm):=let ⟨_,a,b⟩:=h;⟨_,ps_ret a,qfP b⟩
theorem Z1 (hc:JT X xa W c tm) (h1:JSs X xa W body n) (h2:JSs X xa W orelse o):JS X xa W (.If c body orelse pos) (sIf tm n o):=let ⟨_,a,b⟩:=hc;let ⟨_,c,d⟩:=h1;let ⟨_,e,f⟩:=h2;⟨_,ps_if a c e,qmr b d f⟩
theorem Qu (hN:X.N.Nodup) (h:JE X xa W e m) (hi:X.N[i]?=some x:=by rfl) (hx:Loc X.env.scope x:=by first | exact .inl rfl | exact .inr rfl) (hs:swapsWith e (some (.Name x p)) pos.line X.env=pure false:=by rfl) (hf:X.fn x=true∨X.env.scope.names.lookup x=some .local:=by first | exact .inl rfl | exact .inr rfl) :
  JS X xa W (.Assign [.Name x p] e pos) (Jm (Qg i) m):=let ⟨_,a,b⟩:=h;⟨_,ps_set hN hi hx a hs hf,qbM b (Uy i)⟩
theorem Kf (hN:X.N.Nodup) (h:JF X xa W e fm) (hi:X.N[i]?=some x:=by rfl) (hx:Loc X.env.scope x:=by first | exact .inl rfl | exact .inr rfl) (hs:swapsWith e (some (.Name x p)) pos.line X.env=pure false:=by rfl) (hf:X.fn x=true∨X.env.scope.names.lookup x=some .local:=by first | exact .inl rfl | exact .inr rfl) :
  JS X xa W (.Assign [.Name x p] e pos) (Pp i fm):=let ⟨_,a,b⟩:=h;⟨_,ps_set hN hi hx a hs hf,qfS b⟩
theorem Od (h:JE X xa W e m) (hg:JG X xa js tg gm) (hs:swapsWithSole [tg] e pos.line X.env=pure false:=by rfl) (hw:swappedStores [tg] e X.env=pure none:=by rfl) (h1:(assignEach [tg] X.env).map (·.2)=[assign tg X.env]:=by rfl) :
  JS X xa W (.Assign [tg] e pos) (Jm gm m):=let ⟨_,a,b⟩:=h;let ⟨_,c,d⟩:=hg;⟨_,ps_asg a c hs hw h1,qbM b d⟩
theorem Oc (h:JE X xa W e m) (hx:JE X xa W b mb) (hi:X.N[i]?=some x:=by rfl) (hv:Vis X.env.scope x:=by first | exact .inl rfl | exact .inr (.inl rfl) | exact .inr (.inr rfl)) (hd:(x == ("__debug__" : Str))=false:=by decide) (hcd:(x == ("__classdict__" : Str))=false:=by decide)
  (ha:∀v,assign (.Subscript (.Name x p) b p') X.env v=(do
   let ov ← holding [v] (eval (.Name x p) X.env)
   let iv ← holding [v,ov] (eval b X.env)
   standAt p'
   holding [v,ov,iv] (setItem ov iv v)
   release [v,ov,iv] []):=by intro _;rfl)
  (hs:swapsWithSole [.Subscript (.Name x p) b p'] e pos.line X.env=pure false:=by rfl) (hw:swappedStores [.Subscript (.Name x p) b p'] e X.env=pure none:=by rfl) (h1:(assignEach [.Subscript (.Name x p) b p'] X.env).map (·.2)=[assign (.Subscript (.Name x p) b p') X.env]:=by rfl) :
  JS X xa W (.Assign [.Subscript (.Name x p) b p'] e pos) (Ep i mb m):=let ⟨_,a1,a2⟩:=h;let ⟨_,b1,b2⟩:=hx;⟨_,ps_asg a1 (pg_sub (pe_var hi hv hd hcd) b1 set_list ha) hs hw h1,qfN a2 b2⟩
theorem Yr {iter:Expr} (hp:PassesOwn (model X.prog X.w) X.A X.env X.xe) (hc:X.calm=true) (hi:JI X xa W tg iter im) (hg:JG X xa js tg gm) (hb:JSs X xa W body n) (hs:∀x,foldedSetIterable iter X.env x=pure x:=by intro _;rfl) :
  JS X xa W (.For tg iter body [] pos) (Dy im gm n):=let ⟨_,a1,a2⟩:=hi;let ⟨_,b1,b2⟩:=hg;let ⟨_,c1,c2⟩:=hb;⟨_,ps_for hp hc a1 b1 c1 hs,qia a2 b2 c2⟩
theorem U1 {nm f:Str} {pp qsH:Pos} {k:Nat} (T:PySem.ErrX.ErrTxt X.prog X.K X.mg nm f (cA X.K nm)) (hc:X.calm=true) (hr:Room k X.A) (tk:Takes X W) (ha:JA X xa W [a] am) (hg:Gl X nm:=by rfl) (hdb:(nm == ("__debug__" : Str))=false:=by decide)
  (he:starEach (a::[]) X.env=(false,eval a X.env)::starEach [] X.env:=by rfl) (hpl:(backTo pos (starEach [] X.env)).any (·.1)=false:=by rfl):JS X xa W (.Raise (some (.Call (.Name nm pp) [a] [] pos)) none qsH) (Gp nm f am):=
 let ⟨_,h1,h2⟩:=ha;⟨_,ps_raise hc tk (qf5 T hr h1 hg hdb he hpl),qdY h2⟩
theorem qjp {nm:Str} {c:Value} {np p1:Pos} {b₀:Stmt} {suite:List Stmt} {ms:Exn→SM} (ex:ExF) (hex:∀cls b,ex cls=some b→PySem.W.exmOne X.K (.ref (cA X.K cls)) c=some b) (hN:X.N.Nodup) (hst:X.stack=X.env::X.outer) (hf:X.env.frame=some X.env.locals) (hc:Names X nm c) (tk:Takes X W)
  (hb:∀(W':WX) (pn:List (Addr×Obj)) (xe:Value→Shared→Prop),Takes (X.tr pn xe) W'→PassesOwn (model X.prog X.w) X.A X.env xe→JSs (X.tr pn xe) none W' body n)
  (hsu:∀(a:Addr) (oe:Obj) (cls:Value) (d:Option Addr) (pn:List (Addr×Obj)) (e:Exn),Zc cls d oe→(∃vs,oe.data=.fields vs)→.ref (cA X.K e.cls)=cls→JSs (X.suite a ((a,oe)::pn)) (some ⟨a,cls,d,e⟩) WF (b₀::suite) (ms e))
  (hi:X.N[i]?=some x:=by rfl) (hln:X.env.kindOf x=some .local:=by rfl) :
  JS X none W (.Try body [.ExceptHandler (some (.Name nm np)) (some x) (b₀::suite) p1] [] [] pos) (qhD ex i n ms):=
 ⟨_,ps_try_as (tb:=fun W'=>tOf ⟨X.K,none⟩ W' n) (ts:=tsT X.K ms) hst hf hN hi hln hc tk (fun W' pn xe t1 p1=>(hb W' pn xe t1 p1).can) (fun a oe cls d pn hz hv=>⟨fun pins s σ H D I ⟨e,he,h⟩=>(hsu a oe cls d pn e hz hv he).can.run pins s σ H D I h⟩),qh6 hex⟩
theorem qn9 {a:Addr} {C:Str} {oe:Obj} {cls:Value} {d:Option Addr} {pn:List (Addr×Obj)} {ex:Exn} {f:Str} (T:XfC X.K (cA X.K C)) (hno:PySem.W.findIn X.K (.ref (cA X.K C)) f=some none) (hz:Zc cls d oe) (hv:∃vs,oe.data=.fields vs)
  (hN:X.N[i]?=some x:=by rfl) (hvi:Vis X.env.scope x:=by first | exact .inl rfl | exact .inr (.inl rfl) | exact .inr (.inr rfl)) (hd:(x == ("__debug__" : Str))=false:=by decide) (hcd:(x == ("__classdict__" : Str))=false:=by decide)
  (hb:attributeBase (.Name x p) f X.env (eval (.Name x p) X.env)=eval (.Name x p) X.env:=by rfl) :
  JE (X.suite a ((a,oe)::pn)) (some ⟨a,cls,d,ex⟩) W (.Attribute (.Name x p) f pos) (eXf ex C f i):=
 ⟨_,pe_xf T hno hz hv (pe_var hN hvi hd hcd) hb,qox⟩
end
end
theorem qj0 {P:Program} {w:World} {K:PySem.W.Frag} {mg:Str→Option Value} {base:Heap} {x qual:Str} {st:Stmt} {f:Addr} {fd:FuncData} {N ps:List Str} {k:Nat} {body:SM} {sp:Sp} (F:Fun K x qual st f fd) (S:FnScope N ps (defScope st))
  (hsp:∀vs H Q E,sp vs H Q E→spF K ps.length (Ze N.length body) vs H Q (fun _ _ _=>False))
  (hb:∀(cdv:Value) (A:Around) (outer:List PySem.Env) (s:Shared) (H:Hp) (E:XK),Room k (A.deeper (envOfC qual (defScope st) s.heap.objs.size f cdv))→
   JSs (cxOf CX0 P w K mg base N qual (defScope st) f cdv A outer s H E).nox none WF (defBody st) body) :
  FnOk P w K mg base CX0 (k+1) f fd ps sp:=by
 refine F.ok S (fun vs H Q E h=>(hsp vs H Q E h).1) (fun cdv A outer s H vs Q E hr h=>?_);obtain⟨hl,G,as,Aok,hp⟩:=hsp vs H Q E h;obtain⟨t,h1,h2⟩:=hb cdv A outer s H E hr;refine⟨t,h1,?_⟩;have len:as.length=vs.length:=by
  have:=Aok.1.len;simpa using this.symm
 have est:L2.start N vs=vs.map some++List.replicate (N.length-as.length) none:=by
  unfold L2.start;rw[len]
 rw[est];refine h2 _ G H (as.map some++List.replicate (N.length-as.length) none) (Rel.enter Aok) _ ?_;unfold Ze at hp;cases e:body (as.map some++List.replicate (N.length-as.length) none) with
 | bad=>rw[e]at hp;exact hp
 | ex x ρ'=>
  rw[e]at hp;intro c d σ' G' H' S' R' q;obtain⟨a,b⟩:=Rel.leave Aok S' R';exact hp c d G' H' a b q
 | ok fl ρ'=>
  rw[e]at hp;cases fl with
  | nx=>
   intro σ' G' H' S' R';obtain⟨a,b⟩:=Rel.leave Aok S' R';exact hp _ G' H' a b .non
  | bk=>exact hp.elim
  | ct=>exact hp.elim
  | rt l=>
   intro σ' v G' H' S' R' q;obtain⟨a,b⟩:=Rel.leave Aok S' R';refine hp v G' H' a b ?_;cases l with
   | d x=>exact q
   | r x=>exact q.elim
   | p x=>exact q.elim
   | xh=>exact q.elim
   | u _ _=>
    obtain⟨t,va,vb,h1,h2,h3,h4,h5⟩:=q;refine⟨t,va,vb,h1,h2,h3,h4,fun b eb=>?_⟩;rcases h5 b eb with h | ⟨i,l,e1,o,_⟩
    ·exact h
    ·have:=Aok.2 l (List.mem_of_getElem? (K6 e1));rw[o]at this;cases this
   | m x=>
    refine⟨q.1,fun b eb=>?_⟩;rcases q.2 b eb with h | ⟨i,l,e1,o,_⟩
    ·exact h
    ·have:=Aok.2 l (List.mem_of_getElem? (K6 e1));rw[o]at this;cases this
def Ax (K:PySem.W.Frag) (n:Nat):Sp:=fun vs H Q _=>∃(a:Addr) (ns:List Int),vs=[.ref a]∧SqL K H a (ns.map V.int)∧ns.length≤n∧∀H',Q (.bl true) H'
theorem qi7 {K:PySem.W.Frag} {n:Nat} {R:List L→FRes} (h:∀ns:List Int,ns.length≤n→∃bs,R [.d (.ro (ns.map .int))]=.ok (.d (.bl true)) bs) (vs:List V) (H:Hp) (Q:VK) (E:XK) (hs:Ax K n vs H Q E):spF K 1 R vs H Q (fun _ _ _=>False):=by
 obtain⟨a,ns,rfl,hS,hl,q⟩:=hs;obtain⟨bs,e⟩:=h ns hl;refine⟨rfl,H,[.d (.ro (ns.map .int))],⟨⟨Same.refl _,rfl,fun i l hi=>?_,(fun y hy=>nomatch hy),fun i j l l' b hij e1 e2 o1=>?_⟩,fun l hm=>?_⟩,?_⟩
 ·cases i with
  | zero=>
   cases hi;exact⟨_,rfl,.ro hS (DqA.of_ints ns)⟩
  | succ i=>simp at hi
 ·cases i with
  | zero=>cases e1;cases o1
  | succ i=>simp at e1
 ·rcases List.mem_cons.mp hm with rfl | hm
  ·rfl
  ·exact absurd hm List.not_mem_nil
 ·rw[e];intro v G' H' _ _ r;have r:Dq K G' v (.bl true):=r;cases r;exact q H'
theorem qey {K:PySem.W.Frag} {S:Str} (h:PySem.W.exmOne K (.ref (cA K S)) (.ref (cA K S))=some true) (cls:Str) (b:Bool) (e:qc7 S cls=some b):PySem.W.exmOne K (.ref (cA K cls)) (.ref (cA K S))=some b:=by
 unfold qc7 at e;split at e
 ·rename_i q;subst q;cases e;exact h
 ·cases e
abbrev Gq:List String:=["NoneType","bool","int","str","list","tuple","dict"]
theorem qgD {K:PySem.W.Frag}:∀t∈Gq,PySem.W.kitOne K (.type t) (.type "int")=some (x9 t "int"):=fun t ht=>kit_ty ((by decide +kernel:∀t∈Gq,kitB t "int"=some (x9 t "int")) t ht)
theorem qen {K:PySem.W.Frag}:∀t∈Gq,PySem.W.kitOne K (.type t) (.type "bool")=some (x9 t "bool"):=fun t ht=>kit_ty ((by decide +kernel:∀t∈Gq,kitB t "bool"=some (x9 t "bool")) t ht)
theorem qem {K:PySem.W.Frag}:∀t∈Gq,PySem.W.kitOne K (.type t) (.type "list")=some (x9 t "list"):=fun t ht=>kit_ty ((by decide +kernel:∀t∈Gq,kitB t "list"=some (x9 t "list")) t ht)
theorem kit_tuple {K:PySem.W.Frag}:∀t∈Gq,PySem.W.kitOne K (.type t) (.type "tuple")=some (x9 t "tuple"):=fun t ht=>kit_ty ((by decide +kernel:∀t∈Gq,kitB t "tuple"=some (x9 t "tuple")) t ht)
theorem Uq:bootBuiltins "len"=some (.builtin "len"):=by first | boot_by_name | rfl | kernel_rfl
theorem qkD:bootBuiltins "abs"=some (.builtin "abs"):=by first | boot_by_name | rfl | kernel_rfl
theorem O3:bootBuiltins "max"=some (.builtin "max"):=by first | boot_by_name | rfl | kernel_rfl
theorem O1:bootBuiltins "min"=some (.builtin "min"):=by first | boot_by_name | rfl | kernel_rfl
theorem qfu:bootBuiltins "sum"=some (.builtin "sum"):=by first | boot_by_name | rfl | kernel_rfl
theorem Rn:bootBuiltins "int"=some (.type "int"):=by first | boot_by_name | rfl | kernel_rfl
theorem qho:bootBuiltins "bool"=some (.type "bool"):=by first | boot_by_name | rfl | kernel_rfl
theorem qhn:bootBuiltins "list"=some (.type "list"):=by first | boot_by_name | rfl | kernel_rfl
theorem Uj:bootBuiltins "tuple"=some (.type "tuple"):=by first | boot_by_name | rfl | kernel_rfl
def noR (ρ:Env) (j:Nat):Bool:=match ρ[j]? with
 | some (some (.r _))=>false
 | _=>true
def Nv (ρ:Env):List Nat→Bool
 | []=>true
 | j::js=>noR ρ j && Nv ρ js
def fgE (js:List Nat):Res Fl→Res Fl
 | .ok (.rt l) ρ=>.ok (.rt l) ρ
 | .ok f ρ=>if Nv ρ js=true then .ok f (Vz ρ js) else .bad
 | r=>r
def sFg (js:List Nat) (m:SM):SM:=fun ρ=>fgE js (m ρ)
theorem qiK {ρ:Env} {j:Nat} (h:noR ρ j=true) (x:D):ρ[j]?≠some (some (.r x)):=fun e=>by
 unfold noR at h;rw[e]at h;cases h
theorem Lg {K:Kx} {σ:L2.St} {G H:Hp} {ρ:Env} (R:Rel K σ G H ρ):∀{js:List Nat},Nv ρ js=true→Stp σ ρ G H σ (Vz ρ js) G H∧Rel K σ G H (Vz ρ js)
 | [],_=>⟨Stp.refl _ _ _ _,R⟩
 | j::js,h=>by
  unfold Nv at h;obtain⟨h1,h2⟩:=Bool.and_eq_true_iff.mp h;obtain⟨S1,R1⟩:=Lg R h2;obtain⟨S2,R2⟩:=xc (i:=j) R1 fun x e=>qiK h1 x (Wr e).1;exact⟨S1.trans S2,R2⟩
theorem qib {K:Kx} {W:WX} {js:List Nat} {t:TS} {m:SM} (ht:Di K W t m):Di K W t (sFg js m):=fun σ G H ρ R D h=>by
 refine ht σ G H ρ R D ?_;unfold sFg at h;cases e:m ρ with
 | bad=>rw[e]at h;exact h
 | ex x ρ1=>rw[e]at h;exact h
 | ok f ρ1=>
  rw[e]at h;cases f with
  | rt l=>exact h
  | nx=>
   unfold fgE at h;simp only at h;split at h
   ·rename_i hw;intro σ' G' H' S' R';obtain⟨S2,R2⟩:=Lg R' hw;exact h σ' G' H' (S'.trans S2) R2
   ·exact h.elim
  | bk=>
   unfold fgE at h;simp only at h;split at h
   ·rename_i hw;intro σ' G' H' S' R';obtain⟨S2,R2⟩:=Lg R' hw;exact h σ' G' H' (S'.trans S2) R2
   ·exact h.elim
  | ct=>
   unfold fgE at h;simp only at h;split at h
   ·rename_i hw;intro σ' G' H' S' R';obtain⟨S2,R2⟩:=Lg R' hw;exact h σ' G' H' (S'.trans S2) R2
   ·exact h.elim
theorem Yq {X:Cx} {xa:Option XA} {W:WX} {js:List Nat} {b:List Stmt} {m:SM} (h:JSs X xa W b m):JSs X xa W b (sFg js m):=let ⟨t,h1,h2⟩:=h;⟨t,h1,qib h2⟩
theorem qes {X:Cx} {xa:Option XA} {W:WX} {js:List Nat} {b:Stmt} {m:SM} (h:JS X xa W b m):JS X xa W b (sFg js m):=let ⟨t,h1,h2⟩:=h;⟨t,h1,qib h2⟩
def v7 (fn:List He.DefD) (ms:List FO) (ck:PySem.W.Frag→Bool) (K:PySem.W.Frag):Prop:=qql fn ms ck K=qpj fn ms
section
variable {fn:List He.DefD} {ms:List FO} {ck:PySem.W.Frag→Bool} {K:PySem.W.Frag}
theorem v7.chk (c:v7 fn ms ck K):ck K=true:=(He.ba (show (ck K && fn.all fun d=>d.ok K)=true from congrArg (fun z:AlC=>z.1) c)).1
theorem v7.def_ (c:v7 fn ms ck K) (i:Nat) {d:He.DefD} (h:fn[i]?=some d:=by rfl):∃fd,FunD K d.name d.qual d.params d.body d.scope (d.dvs K) (d.kws K) (He.fAd K d.at_) fd:=by
 have c2:=(He.ba (show (ck K && fn.all fun d=>d.ok K)=true from congrArg (fun z:AlC=>z.1) c)).2;have e:fn.map (fun d=>He.fnW K d.at_)=fn.map He.DefD.val:=congrArg (fun z:AlC=>z.2.1) c;have e2:(fn.map fun d=>He.fnW K d.at_)[i]?=(fn.map He.DefD.val)[i]?:=by rw[e]
 rw[List.getElem?_map,List.getElem?_map,h]at e2;exact He.DefD.funD (Option.some.inj e2) (List.all_eq_true.mp c2 d (List.mem_of_getElem? h))
theorem v7.qgu (c:v7 fn ms ck K) (i:Nat) {d:FO} (h:ms[i]?=some d:=by rfl):fnC K d.at_=d.val:=by
 have e:ms.map (fun d=>fnC K d.at_)=ms.map FO.val:=congrArg (fun z:AlC=>z.2.2) c;have e2:(ms.map fun d=>fnC K d.at_)[i]?=(ms.map FO.val)[i]?:=by rw[e]
 rw[List.getElem?_map,List.getElem?_map,h]at e2;exact Option.some.inj e2
end
theorem qbk {K:PySem.W.Frag} {C:Addr} (q:vj K C=true):∃nm q N bs bm sn sub ab col dd k0 k1 k2 k3 k5,K.lookup C=some (excClassObj nm q C N bs bm true sn sub ab col dd k0 k1 k2 k3 k5 "ValueError.__new__")∧PySem.HandSPX.refsVE bm=true:=by
 unfold vj at q;split at q
 ·rename_i dd cd sl ho;split at q
  ·rename_i C' bm k0 k1 k2 k3 n k5 hm hs;simp only[Bool.and_eq_true,beq_iff_eq,Bool.not_eq_true']at q;obtain⟨rfl,rfl,hdel,hd,ht⟩:=q;obtain⟨nm,bs,mro,ns,qn,hdc,sn,sub,ab,col,del⟩:=cd;dsimp only at hm hdel hd
   subst hm hdel hd;have hsl:sl=#[k0,k1,k2,k3,some (.builtin "ValueError.__new__"),k5]:=by
    obtain⟨l⟩:=sl;simp only at hs;rw[hs]
   subst hsl;exact⟨nm,qn,ns,bs,bm,sn,sub,ab,col,dd,k0,k1,k2,k3,k5,ho,ht⟩
  ·cases q
 ·cases q
structure ErrF (P:Program) (K:PySem.W.Frag) (mg:Str→Option Value) (nm f:Str):Prop where
 txt:PySem.ErrX.ErrTxt P K mg nm f (cA K nm)
 exm:PySem.W.exmOne K (.ref (cA K nm)) (.ref (cA K nm))=some true
 xf:XfC K (cA K nm)
 noN:PySem.W.findIn K (.ref (cA K nm)) f=some none
theorem lkW {K:PySem.W.Frag} {p:Str×Option Str} {d:FO} (e:fnC K p=d.val):∃oc od sl fd,K.lookup (He.fAd K p)=some ⟨oc,od,.func fd,sl⟩∧fd.name=d.name∧fd.qualname=d.qual∧fd.params=d.params∧fd.body=.stmts d.body∧fd.scope=d.scope∧fd.globals=mainGlobals∧fd.closure.map (·.1)=(["__class__"]:List Str)∧fd.builtins=builtinsNs:=by
 unfold fnC at e;split at e
 ·rename_i oc od fd sl lk;have e2:(some (fd.name,fd.qualname,fd.params,fd.body,fd.scope,fd.globals,fd.closure.map (·.1),fd.builtins):FnC)=some (d.name,d.qual,d.params,FuncBody.stmts d.body,d.scope,mainGlobals,(["__class__"]:List Str),builtinsNs):=e;simp only[Option.some.injEq,Prod.mk.injEq]at e2;obtain⟨h1,h2,h3,h4,h5,h6,h7,h8⟩:=e2;exact⟨oc,od,sl,fd,lk,h1,h2,h3,h4,h5,h6,h7,h8⟩
 ·cases e
theorem qc9 {P:Program} {K:PySem.W.Frag} {h:Heap} {mg:Str→Option Value} {nm f:Str} {d:FO} (X:K.In h) (G:h.Ns mainGlobals mg) (q:qlY K P.main.file nm f d.qual=true) (e:fnC K d.at_=d.val) (hat:d.at_=(nm,some ("__init__" : Str))) (hn:d.name="__init__") (hsc:d.scope=PySem.ErrX.qaW f)
  (hbind:∀(kV dc pm:Value) (an:Option Addr) (cd ct:Value) (cc:Addr) (s:Shared) (x v:Value),BindsTo s (PySem.W.ksFn "__init__" d.qual d.params d.body (PySem.ErrX.qaW f) .none kV dc pm an cd ct cc) ⟨[x,v],[]⟩ [("self",x),(f,v)])
  (hb:∃msg p0 p1 p2 p3 p4 p5 q1 q2 q3 q4,(Pos.endLine p2 == Pos.line p4)=true∧d.body=PySem.ErrX.body f msg p0 p1 p2 p3 p4 p5 q1 q2 q3 q4) (hp:∃ar,(d.params.posonlyargs++d.params.args).head?=some ar∧ar.arg="self")
  (tp:(P.main.scope.names.lookup ("super" : Str)).isSome=false)
  (hkS:(PySem.ErrX.qaW f).names.lookup ("self" : Str)=some .local) (hkF:(PySem.ErrX.qaW f).names.lookup f=some .local) (hkC:(PySem.ErrX.qaW f).names.lookup ("__class__" : Str)=some .free) (hkU:(PySem.ErrX.qaW f).names.lookup ("super" : Str)=some .globalImplicit)
  (hne:("self" : Str)≠f) (hd:(f == ("__debug__" : Str))=false):ErrF P K mg nm f:=by
 unfold qlY at q;simp only[Bool.and_eq_true]at q;obtain⟨q1,q2,q3,q4,q5,q6,q7,q8,q9,q10,q11,q12,q13,q14,q15,q16,q17⟩:=q;obtain⟨oc,od,sl,fd,lk,h1,h2,h3,h4,h5,h6,h7,h8⟩:=lkW e;rw[hat]at lk;have lk:K.lookup (He.ma K (cA K nm) "__init__")=some ⟨oc,od,.func fd,sl⟩:=lk;have xt:XfC K (cA K nm):=xfB_ok q17;refine⟨⟨PySem.W.mg_of X G (He.eqO_ok q1),qbk q2,He.eqO_ok q3,He.eqO_ok q4,q5,of_decide_eq_true q6,of_decide_eq_true q7,of_decide_eq_true q8,of_decide_eq_true q9,He.eqO_ok q10,He.eqO_ok q11,He.eqO_ok q12,tp,?_⟩,of_decide_eq_true q16,xt,He.eqO_ok q4⟩;unfold qob at q15;rw[lk]at q15;simp only at q15;obtain⟨n1,n2,n3,n4,n5,n6,n7,n8,n9,n10,n11,n12,n13,n14,n15⟩:=fd;simp only at h1 h2 h3 h4 h5 h6 h7 h8 q15;split at q15
 ·rename_i cn cc cda lk;subst h1 h2 h3 h4 h5 h6 h8;simp only[List.map_cons,List.map_nil,List.cons.injEq,and_true]at h7;subst h7;simp only[Bool.and_eq_true]at q15;obtain⟨r1,r2,r3⟩:=q15;split at r2
  ·rename_i ccl cdd vs ccs hcda;split at r2
   ·rename_i fl tf hvs;split at r3
    ·rename_i cl cld C' csl hcc;have r3:C'=cA K nm:=eq_of_beq r3;subst r3;refine⟨He.ma K (cA K nm) "__init__",cc,cda,d.params,d.body,d.scope,He.eqO_ok q13,of_decide_eq_true q14,⟨oc,od,sl,d.qual,n9,n10,n11,n12,n14,?_,r1,?_⟩,⟨ccl,cdd,vs,ccs,fl,tf,hcda,hvs,r2⟩,⟨cl,cld,csl,hcc⟩,hb,hp,?_,?_,?_,?_,?_,hsc,hne,hd⟩
     ·rw[lk,hn];try rfl
     ·rw[hsc];exact hbind _ _ _ _ _ _ _
     ·rw[hsc];exact hkS
     ·rw[hsc];exact hkF
     ·rw[hsc];exact hkC
     ·rw[hsc];exact hkU
     ·rw[hsc];intro x hx;have hx:x∈[(PySem.Str.ofString "self",NameKind.local),(f,.local),(PySem.Str.ofString "__class__",.free),(PySem.Str.ofString "super",.globalImplicit)]:=hx;simp only[List.mem_cons,List.not_mem_nil,or_false]at hx;rcases hx with rfl | rfl | rfl | rfl<;>exact (fun z=>nomatch z)
    ·cases r3
   ·cases r2
  ·cases r2
 ·cases q15
theorem Ml {K:PySem.W.Frag} {x qual:Str} {st:Stmt} {kws:List (Str×V)} {f:Addr} {fd:FuncData} (F:FunD K x qual (defArgs st) (defBody st) (defScope st) [] kws f fd):Fun K x qual st f fd:=by
 obtain⟨oc,od,dV,kV,doc,pm,an,cdv,ct,osl,e,lk,hc,hd,_⟩:=F.ex;rcases hd with ⟨_,rfl⟩ | ⟨h,_⟩
 ·exact⟨⟨oc,od,kV,doc,pm,an,cdv,ct,osl,e,lk,hc⟩,F.kp⟩
 ·exact absurd rfl h
structure FnB (P:Program) (w:World) (K:PySem.W.Frag) (mg:Str→Option Value) (base:Heap) (k:Nat) (x:Str) (ps:List Str) (R:List L→FRes):Prop where
 ex:∃fd,FnOk P w K mg base (L2.CX P w) k (cA K x) fd ps (spF K ps.length R)∧L2.Binds K fd ps []
 g:mg x=some (.ref (cA K x))
 kp:PySem.W.keepIn K (.ref (cA K x))=true
abbrev FnF (K:PySem.W.Frag) (x:Str) (st:Stmt):Prop:=∃fd,FunD K x x (defArgs st) (defBody st) (defScope st) [] [] (cA K x) fd
section
variable {P:Program} {w:World} {K:PySem.W.Frag} {mg:Str→Option Value} {base:Heap}
theorem Zr {x:Str} {st:Stmt} {N ps:List Str} {k:Nat} {body:SM} (F:FnF K x st) (g:mg x=some (.ref (cA K x))) (S:FnScope N ps (defScope st))
  (hbind:∀(kV doc pm:Value) (an:Option Addr) (cdv ct:Value) (us:List Value),us.length=ps.length→bindArgs (PySem.W.fnOf x x (defArgs st) (defBody st) (defScope st) .none kV doc pm an cdv ct) ⟨us,[]⟩=pure (ps.zip us))
  (hb:∀(cdv:Value) (A:Around) (outer:List PySem.Env) (s:Shared) (H:Hp) (E:XK),Room k (A.deeper (envOfC x (defScope st) s.heap.objs.size (cA K x) cdv))→
   JSs (cxOf (L2.CX P w) P w K mg base N x (defScope st) (cA K x) cdv A outer s H E) none (fun cls d _ H=>E cls d H) (defBody st) body) :
  FnB P w K mg base (k+1) x ps (Ze N.length body):=by
 obtain⟨fd,F⟩:=F;exact⟨⟨fd,fn_ok (Ml F) S hb,(Ml F).binds hbind⟩,g,F.kp⟩
end
section
variable {X:Cx} {xa:Option XA} {W:WX} {e:Expr} {es:List Expr} {am:AM} {pos p:Pos} {x:Str} {k:Nat} {ps:List Str} {R:List L→FRes}
theorem Ql (B:FnB X.prog X.w X.K X.mg X.base k x ps R) (hr:Room k X.A) (tk:Takes X W) (ha:JA X xa W (e::es) am) (hg:Gl X x:=by rfl)
  (hdb:(x == ("__debug__" : Str))=false:=by decide) (he:starEach (e::es) X.env=(false,eval e X.env)::starEach es X.env:=by rfl) (hpl:(backTo pos (starEach es X.env)).any (·.1)=false:=by rfl):JE X xa W (.Call (.Name x p) (e::es) [] pos) (Q6 ps.length R am):=by
 obtain⟨fd,F,hb⟩:=B.ex;exact qgM F hr B.g B.kp hb tk ha hg hdb he hpl
theorem qev (B:FnB X.prog X.w X.K X.mg X.base k x ps R) (hr:Room k X.A) (tk:Takes X W) (ha:JA X xa W (e::es) am) (hg:Gl X x:=by rfl)
  (hdb:(x == ("__debug__" : Str))=false:=by decide) (he:starEach (e::es) X.env=(false,eval e X.env)::starEach es X.env:=by rfl) (hpl:(backTo pos (starEach es X.env)).any (·.1)=false:=by rfl):JF X xa W (.Call (.Name x p) (e::es) [] pos) (vi ps.length R am):=by
 obtain⟨fd,F,hb⟩:=B.ex;exact qgJ F hr B.g B.kp hb tk ha hg hdb he hpl
end
theorem qgC {P:Program} {w:World} {K:PySem.W.Frag} {mg:Str→Option Value} {x sx:Str} {st:Stmt} {N:List Str} {k n:Nat} {body:SM} (F:FnF K x st) (S:FnScope N [sx] (defScope st))
  (hbind:∀(kV doc pm:Value) (an:Option Addr) (cdv ct:Value) (us:List Value),us.length=1→bindArgs (PySem.W.fnOf x x (defArgs st) (defBody st) (defScope st) .none kV doc pm an cdv ct) ⟨us,[]⟩=pure ([sx].zip us))
  (hl:∀ns:List Int,ns.length≤n→∃bs,Ze N.length body [.d (.ro (ns.map .int))]=.ok (.d (.bl true)) bs)
  (hb:∀(base:Heap) (cdv:Value) (A:Around) (outer:List PySem.Env) (s:Shared) (H:Hp) (E:XK),Room k (A.deeper (envOfC x (defScope st) s.heap.objs.size (cA K x) cdv))→
   JSs (cxOf CX0 P w K mg base N x (defScope st) (cA K x) cdv A outer s H E).nox none WF (defBody st) body) :
  ∃fd:FuncData,(∀(s:Shared) (v:Value),BindsTo s fd ⟨[v],[]⟩ [(sx,v)])∧∀base:Heap,FnOk P w K mg base CX0 (k+1) (cA K x) fd [sx] (Ax K n):=by
 obtain⟨fd,F⟩:=F;have F':=Ml F;refine⟨fd,fun s v=>?_,fun base=>qj0 F' S (qi7 hl) (hb base)⟩;obtain⟨oc,od,kV,doc,pm,an,cdv,ct,osl,rfl,lk,hc⟩:=F'.ex;exact .of_eq (hbind kV doc pm an cdv ct [v] rfl)
section
variable {K:PySem.W.Frag} {h:Heap} {mg:Str→Option Value}
theorem Vs (X:K.In h) (G:h.Ns mainGlobals mg) {x:Str} (c:qgY K x=true):mg x=none:=PySem.W.mg_none_of X G (He.eqO_ok c)
theorem Q9 (X:K.In h) (G:h.Ns mainGlobals mg) {x:Str} (c:qol K x=true):mg x=some (.ref (cA K x)):=PySem.W.mg_of X G (He.eqO_ok c)
theorem qgQ (X:K.In h) (G:h.Ns mainGlobals mg) {x:Str} {id:String} (c:qoc K x id=true):mg x=some (.builtin id):=PySem.W.mg_of X G (He.eqO_ok c)
theorem Q0 {α:Type} {p:α→Bool} {xs:List α} (h:xs.all p=true) {x:α} {i:Nat} (e:xs[i]?=some x:=by rfl):p x=true:=List.all_eq_true.mp h x (List.mem_of_getElem? e)
end
end DL
namespace DL
open PySem L2
section
variable {α β:Type} {ρ ρ1:Env} {e:Exn}
@[simp] theorem ql4 {a:α} {k:α→Env→Res β}:bindR (.ok a ρ) k=k a ρ:=(rfl)
@[simp] theorem ql5 {k:α→Env→Res β}:bindR (.ex e ρ) k=.ex e ρ:=(rfl)
def vrE (o0:Option (Option L)) (i:Nat) (ρ:Env):Res X:=match o0 with
 | some (some (.d x))=>.ok (.d x) ρ
 | some (some _)=>.ok (.s i) ρ
 | _=>.bad
@[simp] theorem qoE {i:Nat}:Qi i ρ=vrE ρ[i]? i ρ:=by
 unfold Qi vrE;split<;>simp_all
@[simp] theorem qsq {x:D} {i:Nat}:vrE (some (some (.d x))) i ρ=.ok (.d x) ρ:=(rfl)
@[simp] theorem qsp {x:D} {i:Nat}:vrE (some (some (.m x))) i ρ=.ok (.s i) ρ:=(rfl)
@[simp] theorem qso {x:D} {i:Nat}:vrE (some (some (.r x))) i ρ=.ok (.s i) ρ:=(rfl)
@[simp] theorem qtD {x:D}:eC x ρ=.ok (.d x) ρ:=(rfl)
def lkE:Option (Option L)→Option D
 | some (some l)=>l.dat
 | _=>none
@[simp] theorem qqP {x:D}:look ρ (.d x)=some x:=(rfl)
@[simp] theorem qqO {i:Nat}:look ρ (.s i)=lkE ρ[i]?:=by
 unfold lkE look;rfl
@[simp] theorem qsZ {x:D}:lkE (some (some (.m x)))=some x:=(rfl)
@[simp] theorem qsY {x:D}:lkE (some (some (.r x)))=some x:=(rfl)
@[simp] theorem qi2:looks ρ []=some []:=(rfl)
def qqR:Option D→Option (List D)→Option (List D)
 | some a,some as=>some (a::as)
 | _,_=>none
@[simp] theorem qhJ {x:X} {xs:List X}:looks ρ (x::xs)=qqR (look ρ x) (looks ρ xs):=(rfl)
@[simp] theorem qns {a:D} {as:List D}:qqR (some a) (some as)=some (a::as):=(rfl)
def fzE (o0:Option (Option L)) (i:Nat) (ρ:Env):Option (D×Env):=match o0 with
 | some (some (.m x))=>some (x,ρ.set i (some (.d x)))
 | some (some (.d x))=>some (x,ρ)
 | _=>none
@[simp] theorem qt0 {x:D}:fz ρ (.d x)=some (x,ρ):=(rfl)
@[simp] theorem qtZ {i:Nat}:fz ρ (.s i)=fzE ρ[i]? i ρ:=by
 unfold fzE fz;rfl
@[simp] theorem qtv {x:D} {i:Nat}:fzE (some (some (.m x))) i ρ=some (x,ρ.set i (some (.d x))):=(rfl)
@[simp] theorem qon:fzs ρ []=some ([],ρ):=(rfl)
def qop (d:D):Option (List D×Env)→Option (List D×Env)
 | some (ds,ρ2)=>some (d::ds,ρ2)
 | none=>none
def qor:Option (D×Env)→List X→Option (List D×Env)
 | some (d,ρ1),xs=>qop d (fzs ρ1 xs)
 | none,_=>none
@[simp] theorem qlU {x:X} {xs:List X}:fzs ρ (x::xs)=qor (fz ρ x) xs:=by
 unfold qor;rw[fzs];cases fz ρ x with
 | none=>rfl
 | some p=>
  obtain⟨d,ρ1⟩:=p;simp only;cases fzs ρ1 xs with
  | none=>rfl
  | some q=>rfl
@[simp] theorem qoq {d:D} {xs:List X}:qor (some (d,ρ1)) xs=qop d (fzs ρ1 xs):=(rfl)
@[simp] theorem qoo {d:D} {ds:List D}:qop d (some (ds,ρ1))=some (d::ds,ρ1):=(rfl)
@[simp] theorem qmZ {d:D}:oD (some d) ρ=.ok (.d d) ρ:=(rfl)
def op2 (g:D→D→Option D) (o0:Option D) (o1:Option D) (ρ:Env):Res X:=match o0,o1 with
 | some a,some b=>oD (g a b) ρ
 | _,_=>.bad
def qnT (g:D→D→Option D) (x:X):X→Env→Res X:=fun y ρ2=>op2 g (look ρ2 x) (look ρ2 y) ρ2
def qq9 (g:D→D→Option D) (mb:EM):X→Env→Res X:=fun x ρ1=>bindR (mb ρ1) (qnT g x)
@[simp] theorem qrW {g:D→D→Option D} {ma mb:EM}:eOp g ma mb ρ=bindR (ma ρ) (qq9 g mb):=(rfl)
@[simp] theorem qnU {g:D→D→Option D} {mb:EM} {x:X}:qq9 g mb x ρ=bindR (mb ρ) (qnT g x):=(rfl)
@[simp] theorem qnS {g:D→D→Option D} {x y:X}:qnT g x y ρ=op2 g (look ρ x) (look ρ y) ρ:=(rfl)
@[simp] theorem qqh {g:D→D→Option D} {a b:D}:op2 g (some a) (some b) ρ=oD (g a b) ρ:=(rfl)
def op1 (g:D→Option D) (o0:Option D) (ρ:Env):Res X:=match o0 with
 | some a=>oD (g a) ρ
 | _=>.bad
def kUn (g:D→Option D):X→Env→Res X:=fun x ρ1=>op1 g (look ρ1 x) ρ1
@[simp] theorem qrU {g:D→Option D} {ma:EM}:eUn g ma ρ=bindR (ma ρ) (kUn g):=(rfl)
@[simp] theorem qqZ {g:D→Option D} {x:X}:kUn g x ρ=op1 g (look ρ x) ρ:=(rfl)
@[simp] theorem qqi {g:D→Option D} {a:D}:op1 g (some a) ρ=oD (g a) ρ:=(rfl)
def opN (g:List D→Option D) (o0:Option (List D)) (ρ:Env):Res X:=match o0 with
 | some a=>oD (g a) ρ
 | _=>.bad
def kCB (g:List D→Option D):List X→Env→Res X:=fun x ρ1=>opN g (looks ρ1 x) ρ1
@[simp] theorem qrY {g:List D→Option D} {ma:AM}:eCB g ma ρ=bindR (ma ρ) (kCB g):=(rfl)
@[simp] theorem qrg {g:List D→Option D} {x:List X}:kCB g x ρ=opN g (looks ρ x) ρ:=(rfl)
@[simp] theorem qqe {g:List D→Option D} {a:List D}:opN g (some a) ρ=oD (g a) ρ:=(rfl)
@[simp] theorem qpa:Qr ρ=.ok [] ρ:=(rfl)
def qcH (x:X):List X→Env→Res (List X):=fun xs ρ2=>.ok (x::xs) ρ2
def qe7 (mr:AM):X→Env→Res (List X):=fun x ρ1=>bindR (mr ρ1) (qcH x)
@[simp] theorem qmb {ma:EM} {mr:AM}:Qd ma mr ρ=bindR (ma ρ) (qe7 mr):=(rfl)
@[simp] theorem qjk {mr:AM} {x:X}:qe7 mr x ρ=bindR (mr ρ) (qcH x):=(rfl)
@[simp] theorem qjj {x:X} {xs:List X}:qcH x xs ρ=.ok (x::xs) ρ:=(rfl)
def qmm:Option (List D×Env)→Res X
 | some (ds,ρ2)=>if ds.length≤mx then .ok (.d (.tup ds)) ρ2 else .bad
 | none=>.bad
def kTup:List X→Env→Res X:=fun xs ρ1=>qmm (fzs ρ1 xs)
@[simp] theorem qoF {ma:AM}:Uz ma ρ=bindR (ma ρ) kTup:=(rfl)
@[simp] theorem qnE {xs:List X}:kTup xs ρ=qmm (fzs ρ xs):=(rfl)
@[simp] theorem qml {ds:List D}:qmm (some (ds,ρ))=if ds.length≤mx then .ok (.d (.tup ds)) ρ else .bad:=(rfl)
def qnq:Option (List D×Env)→Res D
 | some (ds,ρ2)=>if ds.length≤mx then .ok (.lst ds) ρ2 else .bad
 | none=>.bad
def qrd:List X→Env→Res D:=fun xs ρ1=>qnq (fzs ρ1 xs)
@[simp] theorem qow {ma:AM}:Dz ma ρ=bindR (ma ρ) qrd:=(rfl)
@[simp] theorem qnW {xs:List X}:qrd xs ρ=qnq (fzs ρ xs):=(rfl)
@[simp] theorem qnp {ds:List D}:qnq (some (ds,ρ))=if ds.length≤mx then .ok (.lst ds) ρ else .bad:=(rfl)
def kF:D→Env→Res X:=fun d ρ'=>.ok (.d d) ρ'
@[simp] theorem qtC {m:FM}:eF m ρ=bindR (m ρ) kF:=(rfl)
@[simp] theorem qs9 {d:D}:kF d ρ=.ok (.d d) ρ:=(rfl)
@[simp] theorem qlb:qce ρ=.ok none ρ:=(rfl)
def qi9:X→Env→Res (Option Int):=fun x ρ1=>match x with
 | .d (.int i)=>.ok (some i) ρ1
 | _=>.bad
@[simp] theorem qla {ma:EM}:E7 ma ρ=bindR (ma ρ) qi9:=(rfl)
@[simp] theorem qlu {i:Int}:qi9 (.d (.int i)) ρ=.ok (some i) ρ:=(rfl)
def slE (g:D→Option Int→Option Int→Option D) (lo hi:Option Int) (o0:Option D) (ρ:Env):Res X:=match o0 with
 | some a=>oD (g a lo hi) ρ
 | none=>.bad
def pkE (lo hi st:Option Int) (ds:List D) (ρ:Env):Res D:=if st≠some 0∧(Ra ds lo hi st).length≤mx then .ok (.lst (Ra ds lo hi st)) ρ else .bad
def qmu (lo hi st:Option Int) (o0:Option D) (ρ:Env):Res D:=match o0 with
 | some a=>(match qaV a with
  | some ds=>pkE lo hi st ds ρ
  | none=>.bad)
 | none=>.bad
def qnI (x:X) (lo hi:Option Int):Option Int→Env→Res D:=fun st ρ4=>qmu lo hi st (look ρ4 x) ρ4
def qnK (ms:OM) (x:X) (lo:Option Int):Option Int→Env→Res D:=fun hi ρ3=>bindR (ms ρ3) (qnI x lo hi)
def qnM (mh ms:OM) (x:X):Option Int→Env→Res D:=fun lo ρ2=>bindR (mh ρ2) (qnK ms x lo)
def qq2 (ml mh ms:OM):X→Env→Res D:=fun x ρ1=>bindR (ml ρ1) (qnM mh ms x)
@[simp] theorem qov {ma:EM} {ml mh ms:OM}:qj2 ma ml mh ms ρ=bindR (ma ρ) (qq2 ml mh ms):=(rfl)
@[simp] theorem qnN {ml mh ms:OM} {x:X}:qq2 ml mh ms x ρ=bindR (ml ρ) (qnM mh ms x):=(rfl)
@[simp] theorem qnL {mh ms:OM} {x:X} {lo:Option Int}:qnM mh ms x lo ρ=bindR (mh ρ) (qnK ms x lo):=(rfl)
@[simp] theorem qnJ {ms:OM} {x:X} {lo hi:Option Int}:qnK ms x lo hi ρ=bindR (ms ρ) (qnI x lo hi):=(rfl)
@[simp] theorem qnH {x:X} {lo hi st:Option Int}:qnI x lo hi st ρ=qmu lo hi st (look ρ x) ρ:=(rfl)
@[simp] theorem qpO {lo hi st:Option Int} {ds:List D}:qmu lo hi st (some (.lst ds)) ρ=pkE lo hi st ds ρ:=(rfl)
def kBl:X→Env→Res Bool:=fun x ρ1=>match x with
 | .d (.bl b)=>.ok b ρ1
 | _=>.bad
@[simp] theorem qpF {ma:EM}:tBl ma ρ=bindR (ma ρ) kBl:=(rfl)
@[simp] theorem qrh {b:Bool}:kBl (.d (.bl b)) ρ=.ok b ρ:=(rfl)
def qmo (o0:Option Bool) (ρ:Env):Res Bool:=match o0 with
 | some b=>.ok b ρ
 | none=>.bad
def qq0:X→Env→Res Bool:=fun x ρ1=>qmo ((look ρ1 x).bind qdM) ρ1
@[simp] theorem qnl {ma:EM}:Ag ma ρ=bindR (ma ρ) qq0:=(rfl)
@[simp] theorem qnF {x:X}:qq0 x ρ=qmo ((look ρ x).bind qdM) ρ:=(rfl)
@[simp] theorem qmn {b:Bool}:qmo (some b) ρ=.ok b ρ:=(rfl)
def qn6 (mu:TM):Bool→Env→Res Bool:=fun b ρ1=>if b=true then mu ρ1 else .ok false ρ1
@[simp] theorem qno {mt mu:TM}:qgw mt mu ρ=bindR (mt ρ) (qn6 mu):=(rfl)
@[simp] theorem qrl {mu:TM}:qn6 mu true ρ=mu ρ:=(rfl)
@[simp] theorem qrm {mu:TM}:qn6 mu false ρ=.ok false ρ:=(rfl)
def kOr (mu:TM):Bool→Env→Res Bool:=fun b ρ1=>if b=true then .ok true ρ1 else mu ρ1
@[simp] theorem qqN {mt mu:TM}:mOr mt mu ρ=bindR (mt ρ) (kOr mu):=(rfl)
@[simp] theorem qs5 {mu:TM}:kOr mu true ρ=.ok true ρ:=(rfl)
@[simp] theorem qs6 {mu:TM}:kOr mu false ρ=mu ρ:=(rfl)
def qra:Bool→Env→Res Bool:=fun b ρ1=>.ok (!b) ρ1
@[simp] theorem qnn {mt:TM}:Ah mt ρ=bindR (mt ρ) qra:=(rfl)
@[simp] theorem qnV {b:Bool}:qra b ρ=.ok (!b) ρ:=(rfl)
def qjo (mb:EM):Bool→Env→Res X:=fun b ρ1=>if b=true then mb ρ1 else .ok (.d (.bl false)) ρ1
@[simp] theorem qoS {ma mb:EM}:qeI ma mb ρ=bindR (bindR (ma ρ) kBl) (qjo mb):=(rfl)
@[simp] theorem qn5 {mb:EM}:qjo mb true ρ=mb ρ:=(rfl)
def qjf:Bool→Env→Res X:=fun b ρ1=>.ok (.d (.bl (!b))) ρ1
@[simp] theorem qoK {ma:EM}:qkq ma ρ=bindR (bindR (ma ρ) kBl) qjf:=(rfl)
@[simp] theorem qlA {b:Bool}:qjf b ρ=.ok (.d (.bl (!b))) ρ:=(rfl)
@[simp] theorem qoN {T:String} {ma:EM}:qeG T ma ρ=bindR (ma ρ) (kUn (qfe T)):=(rfl)
@[simp] theorem qmB:Q2 ρ=.ok .nx ρ:=(rfl)
@[simp] theorem qmD:qk3 ρ=.ok .bk ρ:=(rfl)
def sqE (r:Res Fl) (n:SM):Res Fl:=match r with
 | .ok .nx ρ1=>n ρ1
 | r=>r
@[simp] theorem qbQ {m n:SM}:Qo m n ρ=sqE (m ρ) n:=by
 unfold Qo sqE;rfl
@[simp] theorem qpL {n:SM}:sqE (.ok .nx ρ) n=n ρ:=(rfl)
@[simp] theorem qpN {n:SM}:sqE (.ok .bk ρ) n=.ok .bk ρ:=(rfl)
@[simp] theorem qpK {n:SM} {l:L}:sqE (.ok (.rt l) ρ) n=.ok (.rt l) ρ:=(rfl)
@[simp] theorem qpM {n:SM}:sqE (.ex e ρ) n=.ex e ρ:=(rfl)
def kIf (m n:SM):Bool→Env→Res Fl:=fun b ρ1=>if b=true then m ρ1 else n ρ1
@[simp] theorem qpV {c:TM} {m n:SM}:sIf c m n ρ=bindR (c ρ) (kIf m n):=(rfl)
@[simp] theorem qs7 {m n:SM}:kIf m n true ρ=m ρ:=(rfl)
@[simp] theorem qs8 {m n:SM}:kIf m n false ρ=n ρ:=(rfl)
def qji:X→Env→Res Fl:=fun _ ρ1=>.ok .nx ρ1
@[simp] theorem qk2 {m:EM}:K3 m ρ=bindR (m ρ) qji:=(rfl)
@[simp] theorem qlG {x:X}:qji x ρ=.ok .nx ρ:=(rfl)
def rtE (o0:Option (Option L)) (i:Nat) (ρ:Env):Res Fl:=match o0 with
 | some (some (.m x))=>.ok (.rt (.m x)) (ρ.set i none)
 | some (some (.d x))=>.ok (.rt (.d x)) ρ
 | _=>.bad
def qnO:X→Env→Res Fl:=fun x ρ1=>match x with
 | .d x=>.ok (.rt (.d x)) ρ1
 | .s i=>rtE ρ1[i]? i ρ1
@[simp] theorem qmA {m:EM}:J9 m ρ=bindR (m ρ) qnO:=by
 unfold J9;congr 1
@[simp] theorem qq5 {x:D}:qnO (.d x) ρ=.ok (.rt (.d x)) ρ:=(rfl)
@[simp] theorem qq4 {i:Nat}:qnO (.s i) ρ=rtE ρ[i]? i ρ:=(rfl)
@[simp] theorem qsC {x:D} {i:Nat}:rtE (some (some (.m x))) i ρ=.ok (.rt (.m x)) (ρ.set i none):=(rfl)
def qjc:D→Env→Res Fl:=fun x ρ1=>.ok (.rt (.m x)) ρ1
@[simp] theorem qk0 {m:FM}:qaY m ρ=bindR (m ρ) qjc:=(rfl)
@[simp] theorem qly {x:D}:qjc x ρ=.ok (.rt (.m x)) ρ:=(rfl)
def isr:Option L→Bool
 | some (.r _)=>true
 | _=>false
@[simp] theorem qlL:isr none=false:=(rfl)
@[simp] theorem qti {x:D}:isr (some (.d x))=false:=(rfl)
@[simp] theorem qth {x:D}:isr (some (.m x))=false:=(rfl)
def stE (i:Nat) (l:L) (o0:Option (Option L)) (ρ:Env):Option Env:=match o0 with
 | some o=>if isr o=true then none else some (ρ.set i (some l))
 | none=>none
@[simp] theorem Eo {i:Nat} {l:L}:Bz ρ i l=stE i l ρ[i]? ρ:=by
 unfold Bz stE;cases h:ρ[i]? with
 | none=>rfl
 | some o=>
  cases o with
  | none=>rfl
  | some l'=>cases l'<;>rfl
@[simp] theorem qpJ {i:Nat} {l:L} {o:Option L}:stE i l (some o) ρ=if isr o=true then none else some (ρ.set i (some l)):=(rfl)
@[simp] theorem qjQ {i:Nat} {d:D}:Qg i d ρ=stE i (.d d) ρ[i]? ρ:=Eo
@[simp] theorem qlQ:Wl [] ρ=some ρ:=(rfl)
def gcE (gs:GMs) (ds:List D):Option Env→Option Env
 | some ρ1=>gs ds ρ1
 | none=>none
@[simp] theorem qjR {g:GM} {gs:GMs} {d:D} {ds:List D}:Q3 g gs (d::ds) ρ=gcE gs ds (g d ρ):=by
 unfold Q3 gcE;rfl
@[simp] theorem qrC {gs:GMs} {ds:List D}:gcE gs ds (some ρ)=gs ds ρ:=(rfl)
@[simp] theorem qlP {n:Nat} {gs:GMs} {ds:List D}:K7 n gs (.tup ds) ρ=if ds.length=n then gs ds ρ else none:=(rfl)
def agE:Option Env→Res Fl
 | some ρ3=>.ok .nx ρ3
 | none=>.bad
def asE (gm:GM):Option (D×Env)→Res Fl
 | some (d,ρ2)=>agE (gm d ρ2)
 | none=>.bad
def qri (gm:GM):X→Env→Res Fl:=fun x ρ1=>asE gm (fz ρ1 x)
@[simp] theorem qmF {gm:GM} {m:EM}:Jm gm m ρ=bindR (m ρ) (qri gm):=(rfl)
@[simp] theorem qn2 {gm:GM} {x:X}:qri gm x ρ=asE gm (fz ρ x):=(rfl)
@[simp] theorem qr8 {gm:GM} {d:D}:asE gm (some (d,ρ))=agE (gm d ρ):=(rfl)
@[simp] theorem qsc:agE (some ρ)=.ok .nx ρ:=(rfl)
def qjn (i:Nat):D→Env→Res Fl:=fun x ρ1=>agE (Bz ρ1 i (.m x))
@[simp] theorem qk4 {i:Nat} {m:FM}:Pp i m ρ=bindR (m ρ) (qjn i):=by
 unfold Pp;congr 1
@[simp] theorem qlJ {i:Nat} {x:D}:qjn i x ρ=agE (stE i (.m x) ρ[i]? ρ):=by rw[← Eo];rfl
def prF (j:Nat) (e:D):Option Env→Res Fl
 | some ρ3=>agE (Bz ρ3 j (.d e))
 | none=>.bad
def prE (i j:Nat):Option (List D×Env)→Res Fl
 | some ([d,e],ρ2)=>prF j e (Bz ρ2 i (.d d))
 | _=>.bad
def qlI (i:Nat) (g:D→D→Option D) (a:D):X→Env→Res Fl:=fun y ρ1=>match look ρ1 y with
 | some b=>(match g a b with
  | some d=>agE (Bz ρ1 i (.d d))
  | none=>.bad)
 | none=>.bad
def auE (i:Nat) (g:D→D→Option D) (m:EM) (o0:Option (Option L)) (ρ:Env):Res Fl:=match o0 with
 | some (some (.d a))=>bindR (m ρ) (qlI i g a)
 | _=>.bad
def auF (i:Nat) (o0:Option D) (ρ:Env):Res Fl:=match o0 with
 | some d=>agE (stE i (.d d) ρ[i]? ρ)
 | none=>.bad
def auG (i:Nat) (g:D→D→Option D) (a:D) (o0:Option D) (ρ:Env):Res Fl:=match o0 with
 | some b=>auF i (g a b) ρ
 | none=>.bad
@[simp] theorem qmE {i:Nat} {g:D→D→Option D} {m:EM}:qdN i g m ρ=auE i g m ρ[i]? ρ:=(rfl)
@[simp] theorem qr6 {i:Nat} {g:D→D→Option D} {m:EM} {a:D}:auE i g m (some (some (.d a))) ρ=bindR (m ρ) (qlI i g a):=(rfl)
@[simp] theorem qn1 {i:Nat} {g:D→D→Option D} {a:D} {y:X}:qlI i g a y ρ=auG i g a (look ρ y) ρ:=by
 unfold qlI auG auF;simp only[Eo]
@[simp] theorem qr4 {i:Nat} {g:D→D→Option D} {a b:D}:auG i g a (some b) ρ=auF i (g a b) ρ:=(rfl)
@[simp] theorem qr5 {i:Nat} {d:D}:auF i (some d) ρ=agE (stE i (.d d) ρ[i]? ρ):=(rfl)
def owE:Option (Option L)→Option (L×List D)
 | some (some (.m (.lst ds)))=>some (.m (.lst ds),ds)
 | some (some (.r (.lst ds)))=>some (.r (.lst ds),ds)
 | some (some (.p (.lst ds)))=>some (.p (.lst ds),ds)
 | _=>none
@[simp] theorem qgc {i:Nat}:qa7 ρ i=owE ρ[i]?:=(rfl)
@[simp] theorem qsN {ds:List D}:owE (some (some (.m (.lst ds))))=some (.m (.lst ds),ds):=(rfl)
@[simp] theorem qsM {ds:List D}:owE (some (some (.r (.lst ds))))=some (.r (.lst ds),ds):=(rfl)
@[simp] theorem qsG {a b:D}:(L.m a).put b=.m b:=(rfl)
@[simp] theorem qsF {a b:D}:(L.r a).put b=.r b:=(rfl)
def apF (i:Nat) (d:D) (o0:Option (L×List D)) (ρ:Env):Res X:=match o0 with
 | some (l,ds)=>if ds.length<mx then .ok (.d .non) (ρ.set i (some (l.put (.lst (ds++[d]))))) else .bad
 | none=>.bad
def apE (i:Nat):Option (D×Env)→Res X
 | some (d,ρ2)=>apF i d (qa7 ρ2 i) ρ2
 | none=>.bad
def qrj (i:Nat):X→Env→Res X:=fun x ρ1=>apE i (fz ρ1 x)
@[simp] theorem qoR {i:Nat} {m:EM}:Fg i m ρ=if (owE ρ[i]?).isSome=true then bindR (m ρ) (qrj i) else .bad:=(rfl)
@[simp] theorem qn3 {i:Nat} {x:X}:qrj i x ρ=apE i (fz ρ x):=(rfl)
@[simp] theorem qsa {i:Nat} {d:D}:apE i (some (d,ρ))=apF i d (owE ρ[i]?) ρ:=(rfl)
@[simp] theorem qr9 {i:Nat} {d:D} {l:L} {ds:List D}:apF i d (some (l,ds)) ρ=if ds.length<mx then .ok (.d .non) (ρ.set i (some (l.put (.lst (ds++[d]))))) else .bad:=(rfl)
def poF (i:Nat) (l:L) (ds:List D) (o0:Option D) (ρ:Env):Res X:=match o0 with
 | some d=>.ok (.d d) (ρ.set i (some (l.put (.lst ds.dropLast))))
 | none=>.bad
def poE (i:Nat) (o0:Option (L×List D)) (ρ:Env):Res X:=match o0 with
 | some (l,ds)=>poF i l ds ds.getLast? ρ
 | none=>.bad
@[simp] theorem qoI {i:Nat}:qdh i ρ=poE i (owE ρ[i]?) ρ:=by
 unfold qdh poE;rw[qgc];cases owE ρ[i]? with
 | none=>rfl
 | some q=>
  obtain⟨l,ds⟩:=q;unfold poF;cases ds.getLast?<;>rfl
@[simp] theorem qqc {i:Nat} {l:L} {ds:List D}:poE i (some (l,ds)) ρ=poF i l ds ds.getLast? ρ:=(rfl)
@[simp] theorem qqb {i:Nat} {l:L} {ds:List D} {d:D}:poF i l ds (some d) ρ=.ok (.d d) (ρ.set i (some (l.put (.lst ds.dropLast)))):=(rfl)
def paG (i k:Nat) (l:L) (ds:List D) (o0:Option D) (ρ:Env):Res X:=match o0 with
 | some d=>.ok (.d d) (ρ.set i (some (l.put (.lst (ds.eraseIdx k)))))
 | none=>.bad
def paF (i:Nat) (l:L) (ds:List D) (o0:Option Nat) (ρ:Env):Res X:=match o0 with
 | some k=>paG i k l ds ds[k]? ρ
 | none=>.bad
def paE (i:Nat) (o0:X) (o1:Option (L×List D)) (ρ:Env):Res X:=match o0,o1 with
 | .d (.int j),some (l,ds)=>if -(2 ^ 63)≤j∧j<2 ^ 63 then paF i l ds (seqIndex? j ds.length) ρ else .bad
 | _,_=>.bad
def slG (i:Nat) (d:D) (l:L) (ds:List D) (o0:Option Nat) (ρ:Env):Res Fl:=match o0 with
 | some k=>.ok .nx (ρ.set i (some (l.put (.lst (ds.set k d)))))
 | none=>.bad
def qmw (i:Nat) (d:D) (o0:X) (o1:Option (L×List D)) (ρ:Env):Res Fl:=match o0,o1 with
 | .d (.int j),some (l,ds)=>slG i d l ds (ixN ds.length j) ρ
 | _,_=>.bad
def qcC (i:Nat) (d:D):X→Env→Res Fl:=fun y ρ3=>qmw i d y (qa7 ρ3 i) ρ3
def stL (i:Nat) (mi:EM):Option (D×Env)→Res Fl
 | some (d,ρ2)=>if (owE ρ2[i]?).isSome=true then bindR (mi ρ2) (qcC i d) else .bad
 | none=>.bad
def qe5 (i:Nat) (mi:EM):X→Env→Res Fl:=fun x ρ1=>stL i mi (fz ρ1 x)
@[simp] theorem qkY {i:Nat} {mi mv:EM}:Ep i mi mv ρ=bindR (mv ρ) (qe5 i mi):=(rfl)
@[simp] theorem qjb {i:Nat} {mi:EM} {x:X}:qe5 i mi x ρ=stL i mi (fz ρ x):=(rfl)
@[simp] theorem qpI {i:Nat} {mi:EM} {d:D}:stL i mi (some (d,ρ))=if (owE ρ[i]?).isSome=true then bindR (mi ρ) (qcC i d) else .bad:=(rfl)
@[simp] theorem qja {i:Nat} {d:D} {y:X}:qcC i d y ρ=qmw i d y (owE ρ[i]?) ρ:=(rfl)
@[simp] theorem qmv {i:Nat} {d:D} {j:Int} {l:L} {ds:List D}:qmw i d (.d (.int j)) (some (l,ds)) ρ=slG i d l ds (ixN ds.length j) ρ:=(rfl)
@[simp] theorem qpP {i k:Nat} {d:D} {l:L} {ds:List D}:slG i d l ds (some k) ρ=.ok .nx (ρ.set i (some (l.put (.lst (ds.set k d))))):=(rfl)
def sqI:Option (D×Env)→Res (List D)
 | some (.lst ds,ρ2)=>.ok ds ρ2
 | some (.ro ds,ρ2)=>.ok ds ρ2
 | some (.tup ds,ρ2)=>.ok ds ρ2
 | _=>.bad
def qq1:X→Env→Res (List D):=fun x ρ1=>sqI (fz ρ1 x)
@[simp] theorem qnm {m:EM}:C4 m ρ=bindR (m ρ) qq1:=(rfl)
@[simp] theorem qnG {x:X}:qq1 x ρ=sqI (fz ρ x):=(rfl)
@[simp] theorem qsw {ds:List D}:sqI (some (.lst ds,ρ))=.ok ds ρ:=(rfl)
@[simp] theorem qsv {ds:List D}:sqI (some (.tup ds,ρ))=.ok ds ρ:=(rfl)
def kR1:List X→Env→Res (List D):=fun xs ρ1=>match xs with
 | [.d (.int j)]=>if qil j then .ok (Xa 0 j.toNat) ρ1 else .bad
 | _=>.bad
@[simp] theorem qln {m:AM}:Sw m ρ=bindR (m ρ) kR1:=(rfl)
@[simp] theorem qq7 {j:Int}:kR1 [.d (.int j)] ρ=if qil j then .ok (Xa 0 j.toNat) ρ else .bad:=(rfl)
def kFor (gm:GM) (b:SM):List D→Env→Res Fl:=fun ds ρ1=>Z9 gm b ds ρ1
@[simp] theorem qmC {im:IM} {gm:GM} {b:SM}:Dy im gm b ρ=bindR (im ρ) (kFor gm b):=(rfl)
@[simp] theorem qnZ {gm:GM} {b:SM} {ds:List D}:kFor gm b ds ρ=Z9 gm b ds ρ:=(rfl)
@[simp] theorem qpW {js:List Nat} {m:SM}:sFg js m ρ=fgE js (m ρ):=(rfl)
@[simp] theorem qrL {js:List Nat} {l:L}:fgE js (.ok (.rt l) ρ)=.ok (.rt l) ρ:=(rfl)
@[simp] theorem qrM {js:List Nat}:fgE js (.ok .nx ρ)=if Nv ρ js=true then .ok .nx (Vz ρ js) else .bad:=(rfl)
@[simp] theorem qrN {js:List Nat}:fgE js (.ok .bk ρ)=if Nv ρ js=true then .ok .bk (Vz ρ js) else .bad:=(rfl)
@[simp] theorem qhy:Nv ρ []=true:=(rfl)
@[simp] theorem qfA {j:Nat} {js:List Nat}:Nv ρ (j::js)=(noR ρ j && Nv ρ js):=(rfl)
def nrE:Option (Option L)→Bool
 | some (some (.r _))=>false
 | _=>true
@[simp] theorem qqp {j:Nat}:noR ρ j=nrE ρ[j]?:=(rfl)
@[simp] theorem qsQ {x:D}:nrE (some (some (.d x)))=true:=(rfl)
@[simp] theorem qsP:nrE (some none)=true:=(rfl)
@[simp] theorem qhR:Vz ρ []=ρ:=(rfl)
@[simp] theorem qhz {j:Nat} {js:List Nat}:Vz ρ (j::js)=(Vz ρ js).set j none:=(rfl)
def rsE (ρ':Env) (j:Nat):Option (Option L)→Env
 | some o=>ρ'.set j o
 | none=>ρ'
@[simp] theorem qim:X6 ρ1 ρ []=ρ:=(rfl)
@[simp] theorem qhE {j:Nat} {js:List Nat}:X6 ρ1 ρ (j::js)=rsE (X6 ρ1 ρ js) j ρ1[j]?:=by
 rw[X6];cases ρ1[j]?<;>rfl
@[simp] theorem qpZ {j:Nat} {o:Option L}:rsE ρ j (some o)=ρ.set j o:=(rfl)
def clE:Option (Option L)→Bool
 | some none=>true
 | some (some (.d _))=>true
 | _=>false
@[simp] theorem qkC:clean ρ []=true:=(rfl)
@[simp] theorem qhN {j:Nat} {js:List Nat}:clean ρ (j::js)=(clE ρ[j]? && clean ρ js):=(rfl)
@[simp] theorem qtN:clE (some none)=true:=(rfl)
def maE:Option (Option L)→Option L
 | some (some (.m x))=>some (.r x)
 | some (some (.r x))=>some (.r x)
 | some (some (.d x))=>some (.d x)
 | _=>none
@[simp] theorem qnd {x:D}:mkArg ρ (.d x)=some (.d x):=(rfl)
@[simp] theorem qnc {i:Nat}:mkArg ρ (.s i)=maE ρ[i]?:=(rfl)
@[simp] theorem qsV {x:D}:maE (some (some (.m x)))=some (.r x):=(rfl)
@[simp] theorem qsU {x:D}:maE (some (some (.r x)))=some (.r x):=(rfl)
def qqM:Option L→Option (List L)→Option (List L)
 | some a,some as=>some (a::as)
 | _,_=>none
@[simp] theorem qhI:Xf ρ []=some []:=(rfl)
@[simp] theorem qgt {x:X} {xs:List X}:Xf ρ (x::xs)=qqM (mkArg ρ x) (Xf ρ xs):=by
 rw[Xf];cases mkArg ρ x<;>cases Xf ρ xs<;>rfl
@[simp] theorem qnj {a:L} {as:List L}:qqM (some a) (some as)=some (a::as):=(rfl)
@[simp] theorem qif:slots []=[]:=(rfl)
@[simp] theorem qmt {x:D} {xs:List X}:slots (.d x::xs)=slots xs:=(rfl)
@[simp] theorem qms {i:Nat} {xs:List X}:slots (.s i::xs)=i::slots xs:=(rfl)
def ptE (i:Nat) (y:D) (o0:Option (Option L)) (ρ:Env):Env:=match o0 with
 | some (some l)=>ρ.set i (some (l.put y))
 | _=>ρ
@[simp] theorem qmP {i:Nat} {y:D}:putS ρ i y=ptE i y ρ[i]? ρ:=(rfl)
@[simp] theorem qp8 {i:Nat} {y:D} {l:L}:ptE i y (some (some l)) ρ=ρ.set i (some (l.put y)):=(rfl)
@[simp] theorem qk6 {as bs:List L}:Yp ρ [] as bs=ρ:=by cases as<;>rfl
@[simp] theorem qp7 {x:D} {xs:List X} {a b:L} {as bs:List L}:Yp ρ (.d x::xs) (a::as) (b::bs)=Yp ρ xs as bs:=(rfl)
@[simp] theorem qp6 {i:Nat} {xs:List X} {x y:D} {as bs:List L}:Yp ρ (.s i::xs) (.r x::as) (.r y::bs)=Yp (putS ρ i y) xs as bs:=(rfl)
def qjm (n:Nat) (F:List L→FRes):List X→Env→Res X:=fun xs ρ1=>clL n F xs (Xf ρ1 xs) ρ1
@[simp] theorem qeH {n:Nat} {F:List L→FRes} {ma:AM}:Q6 n F ma ρ=bindR (ma ρ) (qjm n F):=by
 unfold Q6;congr 1
@[simp] theorem qlH {n:Nat} {F:List L→FRes} {xs:List X}:qjm n F xs ρ=clL n F xs (Xf ρ xs) ρ:=(rfl)
@[simp] theorem qr1 {n:Nat} {F:List L→FRes} {xs:List X} {as:List L}:clL n F xs (some as) ρ=if xs.length=n∧(slots xs).Nodup then clR xs as (F as) ρ else .bad:=(rfl)
@[simp] theorem qtM {xs:List X} {as bs:List L} {x:D}:clR xs as (.ok (.d x) bs) ρ=.ok (.d x) (Yp ρ xs as bs):=(rfl)
@[simp] theorem qtL {xs:List X} {as bs:List L} {x:D}:clR xs as (.ok (.m x) bs) ρ=.ok (.d x) (Yp ρ xs as bs):=(rfl)
@[simp] theorem qtK {xs:List X} {as bs:List L}:clR xs as (.ex e bs) ρ=.ex e (Yp ρ xs as bs):=(rfl)
def qoW (xs:List X) (as:List L) (o0:FRes) (ρ:Env):Res D:=match o0 with
 | .ok (.m x) bs=>.ok x (Yp ρ xs as bs)
 | .ok _ _=>.bad
 | .ex e bs=>.ex e (Yp ρ xs as bs)
 | .bad=>.bad
def qoY (n:Nat) (F:List L→FRes) (xs:List X) (o0:Option (List L)) (ρ:Env):Res D:=match o0 with
 | none=>.bad
 | some as=>if xs.length=n∧(slots xs).Nodup then qoW xs as (F as) ρ else .bad
def qe9 (n:Nat) (F:List L→FRes):List X→Env→Res D:=fun xs ρ1=>qoY n F xs (Xf ρ1 xs) ρ1
@[simp] theorem qlW {n:Nat} {F:List L→FRes} {ma:AM}:vi n F ma ρ=bindR (ma ρ) (qe9 n F):=by
 unfold vi;congr 1
@[simp] theorem qjl {n:Nat} {F:List L→FRes} {xs:List X}:qe9 n F xs ρ=qoY n F xs (Xf ρ xs) ρ:=(rfl)
@[simp] theorem qoX {n:Nat} {F:List L→FRes} {xs:List X} {as:List L}:qoY n F xs (some as) ρ=if xs.length=n∧(slots xs).Nodup then qoW xs as (F as) ρ else .bad:=(rfl)
@[simp] theorem qr0 {xs:List X} {as bs:List L} {x:D}:qoW xs as (.ok (.m x) bs) ρ=.ok x (Yp ρ xs as bs):=(rfl)
def fnE (as:List L):Res Fl→FRes
 | .ok .nx ρ'=>.ok (.d .non) (Gg ρ' 0 as)
 | .ok (.rt l) ρ'=>.ok l (Gg ρ' 0 as)
 | .ex e ρ'=>.ex e (Gg ρ' 0 as)
 | _=>.bad
@[simp] theorem F5 {n:Nat} {body:SM} {as:List L}:Ze n body as=fnE as (body (as.map some++List.replicate (n-as.length) none)):=(rfl)
@[simp] theorem qrH {as:List L}:fnE as (.ok .nx ρ)=.ok (.d .non) (Gg ρ 0 as):=(rfl)
@[simp] theorem qrG {as:List L} {l:L}:fnE as (.ok (.rt l) ρ)=.ok l (Gg ρ 0 as):=(rfl)
@[simp] theorem qrI {as:List L}:fnE as (.ex e ρ)=.ex e (Gg ρ 0 as):=(rfl)
@[simp] theorem qkE {i:Nat}:Gg ρ i []=[]:=(rfl)
@[simp] theorem qhO {i:Nat} {a:L} {as:List L}:Gg ρ i (a::as)=qbx a ρ[i]?::Gg ρ (i+1) as:=(rfl)
@[simp] theorem qo6 {x:D} {o:Option (Option L)}:qbx (.d x) o=.d x:=(rfl)
@[simp] theorem qo5 {x:D} {l:L}:qbx (.r x) (some (some l))=l:=(rfl)
def rsR (c f:Str):Option (D×Env)→Res Fl
 | some (d,ρ2)=>.ex ⟨c,some [(f,d)]⟩ ρ2
 | none=>.bad
def qe6 (c f:Str):List X→Env→Res Fl:=fun xs ρ1=>match xs with
 | [x]=>rsR c f (fz ρ1 x)
 | _=>.bad
@[simp] theorem qii {c f:Str} {ma:AM}:Gp c f ma ρ=bindR (ma ρ) (qe6 c f):=by
 unfold Gp;congr 1
@[simp] theorem qjd {c f:Str} {x:X}:qe6 c f [x] ρ=rsR c f (fz ρ x):=(rfl)
@[simp] theorem qpY {c f:Str} {d:D}:rsR c f (some (d,ρ))=.ex ⟨c,some [(f,d)]⟩ ρ:=(rfl)
def tyG (e:Exn) (i:Nat) (ms:Exn→SM):Option Env→Res Fl
 | some ρ2=>fin i (ms e ρ2)
 | none=>.bad
def tyF (i:Nat) (ms:Exn→SM) (e:Exn) (ρ1:Env):Option Bool→Res Fl
 | some true=>tyG e i ms (Bz (xl ρ1) i .xh)
 | some false=>.ex e ρ1
 | none=>.bad
def tyE (ex:ExF) (i:Nat) (ms:Exn→SM):Res Fl→Res Fl
 | .ex e ρ1=>tyF i ms e ρ1 (ex e.cls)
 | r=>r
@[simp] theorem qmz {ex:ExF} {i:Nat} {mb:SM} {ms:Exn→SM}:qhD ex i mb ms ρ=tyE ex i ms (mb ρ):=by
 unfold qhD tyE;cases mb ρ with
 | bad=>rfl
 | ok f ρ1=>rfl
 | ex e ρ1=>
  simp only[tyF];cases ex e.cls with
  | none=>rfl
  | some b=>
   cases b with
   | false=>rfl
   | true=>
    unfold tyG;cases Bz (xl ρ1) i .xh<;>rfl
@[simp] theorem qpv {ex:ExF} {i:Nat} {ms:Exn→SM} {f:Fl}:tyE ex i ms (.ok f ρ)=.ok f ρ:=(rfl)
@[simp] theorem qpw {ex:ExF} {i:Nat} {ms:Exn→SM}:tyE ex i ms (.ex e ρ)=tyF i ms e ρ (ex e.cls):=(rfl)
@[simp] theorem qst {i:Nat} {ms:Exn→SM}:tyF i ms e ρ (some true)=tyG e i ms (stE i .xh (xl ρ)[i]? (xl ρ)):=by rw[← Eo];rfl
@[simp] theorem qpu {i:Nat} {ms:Exn→SM}:tyG e i ms (some ρ)=fin i (ms e ρ):=(rfl)
def fiE (f:Fl):Option Env→Res Fl
 | some ρ'=>.ok f ρ'
 | none=>.bad
@[simp] theorem qrJ {i:Nat} {f:Fl}:fin i (.ok f ρ)=fiE f (vn ρ i):=(rfl)
@[simp] theorem qrK {f:Fl}:fiE f (some ρ)=.ok f ρ:=(rfl)
def drE (i:Nat) (ρ:Env):Option (Option L)→Option Env
 | some (some (.r _))=>none
 | _=>some (ρ.set i none)
@[simp] theorem ql0 {i:Nat}:vn ρ i=drE i ρ ρ[i]?:=(rfl)
@[simp] theorem qtE {i:Nat}:drE i ρ (some (some .xh))=some (ρ.set i none):=(rfl)
@[simp] theorem ql2:xl []=[]:=(rfl)
def cx1:Option L→Option L
 | some .xh=>none
 | some (.p _)=>none
 | o=>o
@[simp] theorem qkB {o:Option L}:xl (o::ρ)=cx1 o::xl ρ:=(rfl)
@[simp] theorem qtI:cx1 none=none:=(rfl)
@[simp] theorem qtJ {x:D}:cx1 (some (.d x))=some (.d x):=(rfl)
@[simp] theorem qlX {C c:Str}:qc7 C c=if c=C then some true else none:=(rfl)
def xfG (o0:Option D) (ρ:Env):Res X:=match o0 with
 | some d=>.ok (.d d) ρ
 | none=>.bad
def xfF (f:Str) (o0:Option (List (Str×D))) (ρ:Env):Res X:=match o0 with
 | some fs=>xfG (fs.lookup f) ρ
 | none=>.bad
def xfE (e:Exn) (c f:Str) (o0:Option (Option L)) (ρ:Env):Res X:=match o0 with
 | some (some .xh)=>if e.cls=c then xfF f e.fs ρ else .bad
 | _=>.bad
@[simp] theorem qrT {c f:Str} {i:Nat}:eXf e c f i ρ=xfE e c f ρ[i]? ρ:=(rfl)
@[simp] theorem qsl {c f:Str}:xfE e c f (some (some .xh)) ρ=if e.cls=c then xfF f e.fs ρ else .bad:=(rfl)
@[simp] theorem qph {f:Str} {fs:List (Str×D)}:xfF f (some fs) ρ=xfG (fs.lookup f) ρ:=(rfl)
@[simp] theorem qpg {d:D}:xfG (some d) ρ=.ok (.d d) ρ:=(rfl)
end
section
variable {i j:Int} {a b c:D} {x y:Str} {ds es:List D} {ρ:Env}
@[simp] theorem qbd {n:Nat} (h:n≤100000):n≤mx:=Nat.le_trans h (by decide)
@[simp] theorem qsW {n:Nat} (h:n≤100000):n<mx:=Nat.lt_of_le_of_lt h (by decide)
@[simp] theorem qp0:qil i:=(rfl)
@[simp] theorem qsf:Vb (.int i) (.int j)=some (.int (i+j)):=(rfl)
@[simp] theorem qse:Vb (.tup ds) (.tup es)=if ds.length+es.length≤mx then some (.tup (ds++es)) else none:=(rfl)
@[simp] theorem qpH:Gi (.int i) (.int j)=some (.int (i-j)):=(rfl)
@[simp] theorem qqC:Kz (.int i) (.int j)=if Jj i j then some (.int (i*j)) else none:=(rfl)
@[simp] theorem qot:Sz (.int i) (.int j)=if Bn j then some (.int (i.fdiv j)) else none:=(rfl)
@[simp] theorem qqG:qba (.int i) (.int j)=if j≠0 then some (.int (i.fmod j)) else none:=(rfl)
@[simp] theorem qqa:qk8 (.int i) (.int j)=if 0≤j∧j≤1000000∧i.natAbs<2 ^ 64 then some (.int (i ^ j.toNat)) else none:=(rfl)
@[simp] theorem qqq:Sv (.int i)=some (.int (-i)):=(rfl)
@[simp] theorem qsX:ltD (.int i) (.int j)=some (.bl (decide (i<j))):=(rfl)
@[simp] theorem qs0:leD (.int i) (.int j)=some (.bl (decide (i≤j))):=(rfl)
@[simp] theorem qts:gtD (.int i) (.int j)=some (.bl (decide (j<i))):=(rfl)
@[simp] theorem qtu:geD (.int i) (.int j)=some (.bl (decide (j≤i))):=(rfl)
@[simp] theorem qtm:isD a .non=some (.bl (isNone a)):=by cases a<;>rfl
@[simp] theorem qrq:qjJ a .non=some (.bl (!isNone a)):=by cases a<;>rfl
@[simp] theorem qlN:isNone .non=true:=(rfl)
@[simp] theorem qlO:isNone (.int i)=false:=(rfl)
@[simp] theorem qlM:isNone (.tup ds)=false:=(rfl)
@[simp] theorem qrR:eqD a b=(eqB a b).map .bl:=(rfl)
@[simp] theorem qqr:neD a b=(eqB a b).map fun c=>.bl (!c):=(rfl)
@[simp] theorem qtA:eqB (.int i) (.int j)=some (decide (i=j)):=(rfl)
@[simp] theorem qte:ixD (.lst ds) (.int i)=L2.atI ds i:=(rfl)
@[simp] theorem qtd:ixD (.ro ds) (.int i)=L2.atI ds i:=(rfl)
@[simp] theorem qtc:ixD (.tup ds) (.int i)=L2.atI ds i:=(rfl)
theorem qdD:L2.atI (a::ds) 0=some a:=L2.atI_nat (xs:=a::ds) (j:=0) rfl
theorem qkK {n:Nat} {v:D} (h:ds[n]?=some v):L2.atI ds (n:Int)=some v:=L2.atI_nat h
@[simp] theorem ql9:L2.atI (a::ds) 0=some a:=qdD
@[simp] theorem ql8:L2.atI (a::b::ds) 1=some b:=L2.atI_nat (xs:=a::b::ds) (j:=1) rfl
@[simp] theorem ql7:L2.atI (a::b::c::ds) 2=some c:=L2.atI_nat (xs:=a::b::c::ds) (j:=2) rfl
@[simp] theorem ql6 {d:D}:L2.atI (a::b::c::d::ds) 3=some d:=L2.atI_nat (xs:=a::b::c::d::ds) (j:=3) rfl
@[simp] theorem Rp:L2.atI (ds++[a]) (-1)=some a:=L2.atI_last ds a
@[simp] theorem qqW:F8 [.lst ds]=some (.int ds.length):=(rfl)
@[simp] theorem qqV:F8 [.ro ds]=some (.int ds.length):=(rfl)
@[simp] theorem qqU:F8 [.tup ds]=some (.int ds.length):=(rfl)
@[simp] theorem qsh:qma [.int i]=some (.int i.natAbs):=by
 show some (D.int (if i<0 then -i else i))=_;congr 2;split<;>omega
@[simp] theorem qrv:intD [.int i]=some (.int i):=(rfl)
@[simp] theorem qni:qi [.int i,.int j]=some (.int (max i j)):=by
 show some (D.int (if j > i then j else i))=_;congr 2;split<;>omega
@[simp] theorem qne:qg [.int i,.int j]=some (.int (min i j)):=by
 show some (D.int (if j<i then j else i))=_;congr 2;split<;>omega
def foE (f:List Int→Option Int):Option (List Int)→Option D
 | some ns=>(f ns).map .int
 | none=>none
@[simp] theorem qlV {f:List Int→Option Int}:Ec f [.lst ds]=foE f (Aj ds):=(rfl)
@[simp] theorem qrF {f:List Int→Option Int} {ns:List Int}:foE f (some ns)=(f ns).map .int:=(rfl)
@[simp] theorem qkW:Cd [.lst ds]=some (.tup ds):=(rfl)
@[simp] theorem qoa {T:String}:qfe T a=(qhB a).map fun t=>.bl (x9 t T):=(rfl)
@[simp] theorem qpt:qhB (.int i)=some "int":=(rfl)
@[simp] theorem qps:qhB (.lst ds)=some "list":=(rfl)
@[simp] theorem qpr:qhB (.tup ds)=some "tuple":=(rfl)
@[simp] theorem qrt:x9 "int" "int"=true:=by decide
@[simp] theorem qru:x9 "int" "bool"=false:=by decide
@[simp] theorem qrr:x9 "tuple" "tuple"=true:=by decide
@[simp] theorem qrs:x9 "list" "list"=true:=by decide
@[simp] theorem qpy {p:Bool}:qdM (.bl p)=some p:=(rfl)
end
theorem qbU {lo:Int} {n i:Nat} {d:D} (h:(Xa lo n)[i]?=some d):i<n∧d=.int (lo+(i:Int)):=by
 unfold Xa at h;rw[List.getElem?_map]at h;by_cases hi:i<n
 ·rw[List.getElem?_range hi]at h;exact⟨hi,(Option.some.inj h).symm⟩
 ·rw[List.getElem?_eq_none (by simpa using hi)]at h;cases h
@[simp] theorem Lu {lo:Int} {n:Nat}:(Xa lo n).length=n:=by simp[Xa]
@[simp] theorem xg {gm:GM} {b:SM} {ρ:Env}:Z9 gm b [] ρ=.ok .nx ρ:=(rfl)
theorem qc1 {gm:GM} {b:SM} (P:Nat→Env→Prop):∀{ds:List D} {ρ:Env},P 0 ρ→(∀i d ρ,ds[i]?=some d→P i ρ→∃ρ1 ρ2,gm d ρ=some ρ1∧b ρ1=.ok .nx ρ2∧P (i+1) ρ2)→∃ρ',Z9 gm b ds ρ=.ok .nx ρ'∧P ds.length ρ':=by
 intro ds;induction ds generalizing P with
 | nil=>exact fun {ρ} h _=>⟨ρ,rfl,h⟩
 | cons d ds ih=>
  intro ρ h st;obtain⟨ρ1,ρ2,e1,e2,h2⟩:=st 0 d ρ rfl h;obtain⟨ρ',e3,h3⟩:=ih (fun i ρ=>P (i+1) ρ) h2 (fun i d ρ hd hp=>st (i+1) d ρ hd hp);refine⟨ρ',?_,h3⟩;unfold Z9;simp only[e1,e2];exact e3
theorem qfi {S:Type} {gm:GM} {b:SM} {ds:List D} (f:S→Env) (P:Nat→S→Prop) {s:S} (h0:P 0 s)
  (st:∀i d s,ds[i]?=some d→P i s→∃ρ1 s',gm d (f s)=some ρ1∧b ρ1=.ok .nx (f s')∧P (i+1) s'):∃s',Z9 gm b ds (f s)=.ok .nx (f s')∧P ds.length s':=by
 obtain⟨ρ',e,s',rfl,h⟩:=qc1 (gm:=gm) (b:=b) (ds:=ds) (ρ:=f s) (fun i ρ=>∃s,ρ=f s∧P i s) ⟨s,rfl,h0⟩ (by
  rintro i d ρ hd ⟨s,rfl,hp⟩;obtain⟨ρ1,s',e1,e2,h⟩:=st i d s hd hp;exact⟨ρ1,_,e1,e2,s',rfl,h⟩)
 exact⟨s',e,h⟩
theorem qc0 {S:Type} {gm:GM} {b:SM} {lo:Int} {n:Nat} (f:S→Env) (P:Nat→S→Prop) {s:S} (h0:P 0 s)
  (st:∀i s,i<n→P i s→∃ρ1 s',gm (.int (lo+(i:Int))) (f s)=some ρ1∧b ρ1=.ok .nx (f s')∧P (i+1) s'):∃s',Z9 gm b (Xa lo n) (f s)=.ok .nx (f s')∧P n s':=by
 have:=qfi (gm:=gm) (b:=b) (ds:=Xa lo n) f P h0 fun i d s hd hp=>by
  obtain⟨hi,rfl⟩:=qbU hd;exact st i s hi hp
 rw[Lu]at this;exact this
theorem Ol {S:Type} {gm:GM} {b:SM} {n:Nat} (f:S→Env) (P:Nat→S→Prop) {s:S} (h0:P 0 s)
  (st:∀i s,i<n→P i s→∃ρ1 s',gm (.int (i:Int)) (f s)=some ρ1∧b ρ1=.ok .nx (f s')∧P (i+1) s'):∃s',Z9 gm b (Xa 0 n) (f s)=.ok .nx (f s')∧P n s':=
 qc0 f P h0 fun i s hi hp=>by
  rw[Int.zero_add];exact st i s hi hp
theorem qfj {gm:GM} {b:SM} {lo:Int} {n:Nat} (f:Nat→Env) (st:∀i,i<n→∃ρ1,gm (.int (lo+(i:Int))) (f i)=some ρ1∧b ρ1=.ok .nx (f (i+1))):Z9 gm b (Xa lo n) (f 0)=.ok .nx (f n):=by
 obtain⟨s,e,rfl⟩:=qc0 (gm:=gm) (b:=b) (lo:=lo) (n:=n) (S:=Nat) f (fun i s=>s=i) (s:=0) rfl (by
  rintro i s hi rfl;obtain⟨ρ1,e1,e2⟩:=st s hi;exact⟨ρ1,s+1,e1,e2,rfl⟩)
 exact e
theorem qgZ {gm:GM} {b:SM} {n:Nat} (f:Nat→Env) (st:∀i,i<n→∃ρ1,gm (.int (i:Int)) (f i)=some ρ1∧b ρ1=.ok .nx (f (i+1))):Z9 gm b (Xa 0 n) (f 0)=.ok .nx (f n):=
 qfj f fun i hi=>by
  rw[Int.zero_add];exact st i hi
theorem qaD {α S:Type} {gm:GM} {b:SM} (c:α→D) (f:S→Env) (g:S→α→S):∀{xs:List α} {s:S},(∀x∈xs,∀s,∃ρ1,gm (c x) (f s)=some ρ1∧b ρ1=.ok .nx (f (g s x)))→Z9 gm b (xs.map c) (f s)=.ok .nx (f (xs.foldl g s))
 | [],_,_=>rfl
 | x::xs,s,h=>by
  obtain⟨ρ1,e1,e2⟩:=h x List.mem_cons_self s;rw[List.map_cons];unfold Z9;simp only[e1,e2];exact qaD c f g fun y hy=>h y (List.mem_cons_of_mem _ hy)
theorem qj3 {α:Type} {im:IM} {js:List Nat} {gm:GM} {me:EM} {ρ ρ1:Env} {xs:List α} (c e:α→D) (hi:im ρ=.ok (xs.map c) ρ1) (hc:clean ρ1 js=true) (hl:xs.length≤mx)
  (h:∀x∈xs,∃ρ2 z ρ3 ρ4,gm (c x) (Vz ρ1 js)=some ρ2∧me ρ2=.ok z ρ3∧fz ρ3 z=some (e x,ρ4)∧X6 ρ1 ρ4 js=ρ1):fLc im js gm jw me ρ=.ok (.lst (xs.map e)) ρ1:=by
 unfold fLc;simp only[hi,bindR,hc,if_true];suffices ∀(ys:List α) (acc:List D),acc.length+ys.length≤mx→(∀x∈ys,x∈xs)→qbz js gm jw me ρ1 (ys.map c) acc ρ1=.ok (acc++ys.map e) ρ1 by
  rw[this xs [] (by simpa using hl) fun _ h=>h];simp
 intro ys;induction ys with
 | nil=>intro acc _ _;simp[qbz]
 | cons y ys ih=>
  intro acc hl hm;obtain⟨ρ2,z,ρ3,ρ4,e1,e2,e3,e4⟩:=h y (hm y List.mem_cons_self);have hl':acc.length<mx:=by simp at hl;omega
  rw[List.map_cons];unfold qbz;simp only[e1,jw,bindR,e2,e3,e4,hl',if_true];rw[ih (acc++[e y]) (by simp at hl ⊢;omega) fun x hx=>hm x (List.mem_cons_of_mem _ hx)];simp
theorem qj4 {α:Type} {im:IM} {js:List Nat} {gm:GM} {mt:TM} {me:EM} {ρ ρ1:Env} {xs:List α} (c e:α→D) (p:α→Bool) (hi:im ρ=.ok (xs.map c) ρ1) (hc:clean ρ1 js=true) (hl:xs.length≤mx)
  (h:∀x∈xs,∃ρ2 ρt,gm (c x) (Vz ρ1 js)=some ρ2∧mt ρ2=.ok (p x) ρt∧(p x=false→X6 ρ1 ρt js=ρ1)∧(p x=true→∃z ρ3 ρ4,me ρt=.ok z ρ3∧fz ρ3 z=some (e x,ρ4)∧X6 ρ1 ρ4 js=ρ1)) :
  fLc im js gm mt me ρ=.ok (.lst ((xs.filter p).map e)) ρ1:=by
 unfold fLc;simp only[hi,bindR,hc,if_true];suffices ∀(ys:List α) (acc:List D),acc.length+ys.length≤mx→(∀x∈ys,x∈xs)→qbz js gm mt me ρ1 (ys.map c) acc ρ1=.ok (acc++(ys.filter p).map e) ρ1 by
  rw[this xs [] (by simpa using hl) fun _ h=>h];simp
 intro ys;induction ys with
 | nil=>intro acc _ _;simp[qbz]
 | cons y ys ih=>
  intro acc hl hm;obtain⟨ρ2,ρt,e1,e2,e3,e4⟩:=h y (hm y List.mem_cons_self);have hl':acc.length<mx:=by simp at hl;omega
  rw[List.map_cons];unfold qbz;cases hp:p y with
  | false=>
   simp only[e1,bindR,e2,hp,Bool.false_eq_true,if_false,e3 hp];rw[ih acc (by simp at hl ⊢;omega) fun x hx=>hm x (List.mem_cons_of_mem _ hx),List.filter_cons_of_neg (by simp[hp])]
  | true=>
   obtain⟨z,ρ3,ρ4,q1,q2,q3⟩:=e4 hp;simp only[e1,bindR,e2,hp,if_true,q1,q2,q3,hl'];rw[ih (acc++[e y]) (by simp at hl ⊢;omega) fun x hx=>hm x (List.mem_cons_of_mem _ hx),List.filter_cons_of_pos hp];simp
def bdF (b:SM):Option Env→Res Fl
 | some ρ1=>b ρ1
 | none=>.bad
def bdE (gm:GM) (b:SM) (d:D) (ρ:Env):Res Fl:=bdF b (gm d ρ)
@[simp] theorem qr3 {gm:GM} {b:SM} {d:D} {ρ:Env}:bdE gm b d ρ=bdF b (gm d ρ):=(rfl)
@[simp] theorem qr2 {b:SM} {ρ:Env}:bdF b (some ρ)=b ρ:=(rfl)
theorem O6 {gm:GM} {b:SM} {d:D} {ρ:Env} {r:Res Fl} (h:bdE gm b d ρ=r) (hr:r≠.bad):∃ρ1,gm d ρ=some ρ1∧b ρ1=r:=by
 unfold bdE at h;cases e:gm d ρ with
 | none=>rw[e]at h;exact absurd h.symm hr
 | some ρ1=>rw[e]at h;exact⟨ρ1,rfl,h⟩
theorem Q5 {gm:GM} {b:SM} {d:D} {ds:List D} {ρ ρ2:Env} (h:bdE gm b d ρ=.ok .nx ρ2):Z9 gm b (d::ds) ρ=Z9 gm b ds ρ2:=by
 obtain⟨ρ1,e1,e2⟩:=O6 h (fun z=>nomatch z);rw[Z9];simp only[e1,e2]
theorem Dc {gm:GM} {b:SM} {d:D} {ds:List D} {ρ ρ2:Env} (h:bdE gm b d ρ=.ok .bk ρ2):Z9 gm b (d::ds) ρ=.ok .nx ρ2:=by
 obtain⟨ρ1,e1,e2⟩:=O6 h (fun z=>nomatch z);rw[Z9];simp only[e1,e2]
theorem qtw {S:Type} {gm:GM} {b:SM} {ds:List D} (f:S→Env) (P:Nat→S→Prop) {s:S} (h0:P 0 s)
  (st:∀i d s,ds[i]?=some d→P i s→∃s',bdE gm b d (f s)=.ok .nx (f s')∧P (i+1) s'):∃s',Z9 gm b ds (f s)=.ok .nx (f s')∧P ds.length s':=
 qfi f P h0 fun i d s hd hp=>by
  obtain⟨s',e,hp'⟩:=st i d s hd hp;obtain⟨ρ1,e1,e2⟩:=O6 e (fun z=>nomatch z);exact⟨ρ1,s',e1,e2,hp'⟩
theorem qos {S:Type} {gm:GM} {b:SM} {lo:Int} {n:Nat} (f:S→Env) (P:Nat→S→Prop) {s:S} (h0:P 0 s)
  (st:∀i s,i<n→P i s→∃s',bdE gm b (.int (lo+(i:Int))) (f s)=.ok .nx (f s')∧P (i+1) s'):∃s',Z9 gm b (Xa lo n) (f s)=.ok .nx (f s')∧P n s':=
 qc0 f P h0 fun i s hi hp=>by
  obtain⟨s',e,hp'⟩:=st i s hi hp;obtain⟨ρ1,e1,e2⟩:=O6 e (fun z=>nomatch z);exact⟨ρ1,s',e1,e2,hp'⟩
theorem qjZ {S:Type} {gm:GM} {b:SM} {n:Nat} (f:S→Env) (P:Nat→S→Prop) {s:S} (h0:P 0 s)
  (st:∀i s,i<n→P i s→∃s',bdE gm b (.int (i:Int)) (f s)=.ok .nx (f s')∧P (i+1) s'):∃s',Z9 gm b (Xa 0 n) (f s)=.ok .nx (f s')∧P n s':=
 qos f P h0 fun i s hi hp=>by
  rw[Int.zero_add];exact st i s hi hp
theorem qtx {gm:GM} {b:SM} {lo:Int} {n:Nat} (f:Nat→Env) (st:∀i,i<n→bdE gm b (.int (lo+(i:Int))) (f i)=.ok .nx (f (i+1))):Z9 gm b (Xa lo n) (f 0)=.ok .nx (f n):=
 qfj f fun i hi=>O6 (st i hi) (fun z=>nomatch z)
theorem qfk {gm:GM} {b:SM} {n:Nat} (f:Nat→Env) (st:∀i,i<n→bdE gm b (.int (i:Int)) (f i)=.ok .nx (f (i+1))):Z9 gm b (Xa 0 n) (f 0)=.ok .nx (f n):=
 qgZ f fun i hi=>O6 (st i hi) (fun z=>nomatch z)
theorem qg1 {α S:Type} {gm:GM} {b:SM} (c:α→D) (f:S→Env) (g:S→α→S) {xs:List α} {s:S} (h:∀x∈xs,∀s,bdE gm b (c x) (f s)=.ok .nx (f (g s x))):Z9 gm b (xs.map c) (f s)=.ok .nx (f (xs.foldl g s)):=
 qaD c f g fun x hx s=>O6 (h x hx s) (fun z=>nomatch z)
theorem qg0 {α:Type} {gm:GM} {b:SM} {xs:List α} {c:α→D} {ρ:Env} (h:∀x∈xs,bdE gm b (c x) ρ=.ok .nx ρ):Z9 gm b (xs.map c) ρ=.ok .nx ρ:=by
 have:=qg1 (gm:=gm) (b:=b) c (fun _:Unit=>ρ) (fun s _=>s) (xs:=xs) (s:=()) fun x hx _=>h x hx;exact this
def qlr (ρ1:Env) (js:List Nat):Option (D×Env)→Option (D×Env)
 | some (y,ρ4)=>some (y,X6 ρ1 ρ4 js)
 | none=>none
def qls (ρ1:Env) (js:List Nat):Res X→Option (D×Env)
 | .ok z ρ3=>qlr ρ1 js (fz ρ3 z)
 | _=>none
def qnB (me:EM) (ρ1:Env) (js:List Nat):Option Env→Option (D×Env)
 | some ρ2=>qls ρ1 js (me ρ2)
 | none=>none
def lcE (gm:GM) (me:EM) (js:List Nat) (ρ1:Env) (d:D):Option (D×Env):=qnB me ρ1 js (gm d (Vz ρ1 js))
section
variable {gm:GM} {me:EM} {mt:TM} {js:List Nat} {ρ ρ1 ρ2 ρ3 ρ4:Env} {d y:D} {z:X} {b:Bool}
@[simp] theorem qqY:lcE gm me js ρ1 d=qnB me ρ1 js (gm d (Vz ρ1 js)):=(rfl)
@[simp] theorem qnA:qnB me ρ1 js (some ρ2)=qls ρ1 js (me ρ2):=(rfl)
@[simp] theorem qnz:qls ρ1 js (.ok z ρ3)=qlr ρ1 js (fz ρ3 z):=(rfl)
@[simp] theorem qny:qlr ρ1 js (some (y,ρ4))=some (y,X6 ρ1 ρ4 js):=(rfl)
theorem qel {p:D×Env} (h:lcE gm me js ρ1 d=some p):∃ρ2 z ρ3 ρ4,gm d (Vz ρ1 js)=some ρ2∧me ρ2=.ok z ρ3∧fz ρ3 z=some (p.1,ρ4)∧X6 ρ1 ρ4 js=p.2:=by
 unfold lcE at h;cases e1:gm d (Vz ρ1 js) with
 | none=>rw[e1]at h;cases h
 | some ρ2=>
  rw[e1]at h;have h:qls ρ1 js (me ρ2)=some p:=h;cases e2:me ρ2 with
  | bad=>rw[e2]at h;cases h
  | ex _ _=>rw[e2]at h;cases h
  | ok z ρ3=>
   rw[e2]at h;have h:qlr ρ1 js (fz ρ3 z)=some p:=h;cases e3:fz ρ3 z with
   | none=>rw[e3]at h;cases h
   | some q=>
    rw[e3]at h;obtain⟨y,ρ4⟩:=q;have h:some (y,X6 ρ1 ρ4 js)=some p:=h;cases h;exact⟨ρ2,z,ρ3,ρ4,rfl,e2,e3,rfl⟩
theorem qcw {α:Type} {im:IM} {xs:List α} (c e:α→D) (hi:im ρ=.ok (xs.map c) ρ1) (hc:clean ρ1 js=true) (hl:xs.length≤mx) (h:∀x∈xs,lcE gm me js ρ1 (c x)=some (e x,ρ1)):fLc im js gm jw me ρ=.ok (.lst (xs.map e)) ρ1:=
 qj3 c e hi hc hl fun x hx=>by
  obtain⟨ρ2,z,ρ3,ρ4,e1,e2,e3,e4⟩:=qel (h x hx);exact⟨ρ2,z,ρ3,ρ4,e1,e2,e3,e4⟩
def qlp (ρ1:Env) (js:List Nat):Option (D×Env)→Option (Option D×Env)
 | some (y,ρ4)=>some (some y,X6 ρ1 ρ4 js)
 | none=>none
def qlq (ρ1:Env) (js:List Nat):Res X→Option (Option D×Env)
 | .ok z ρ3=>qlp ρ1 js (fz ρ3 z)
 | _=>none
def qi5 (me:EM) (ρ1:Env) (js:List Nat):Res Bool→Option (Option D×Env)
 | .ok true ρt=>qlq ρ1 js (me ρt)
 | .ok false ρt=>some (none,X6 ρ1 ρt js)
 | _=>none
def qnw (mt:TM) (me:EM) (ρ1:Env) (js:List Nat):Option Env→Option (Option D×Env)
 | some ρ2=>qi5 me ρ1 js (mt ρ2)
 | none=>none
def lcI (gm:GM) (mt:TM) (me:EM) (js:List Nat) (ρ1:Env) (d:D):Option (Option D×Env):=qnw mt me ρ1 js (gm d (Vz ρ1 js))
@[simp] theorem qqX:lcI gm mt me js ρ1 d=qnw mt me ρ1 js (gm d (Vz ρ1 js)):=(rfl)
@[simp] theorem qnv:qnw mt me ρ1 js (some ρ2)=qi5 me ρ1 js (mt ρ2):=(rfl)
@[simp] theorem qqS:qi5 me ρ1 js (.ok true ρ2)=qlq ρ1 js (me ρ2):=(rfl)
@[simp] theorem qqT:qi5 me ρ1 js (.ok false ρ2)=some (none,X6 ρ1 ρ2 js):=(rfl)
@[simp] theorem qnu:qlq ρ1 js (.ok z ρ3)=qlp ρ1 js (fz ρ3 z):=(rfl)
@[simp] theorem qnt:qlp ρ1 js (some (y,ρ4))=some (some y,X6 ρ1 ρ4 js):=(rfl)
theorem qaw {p:Option D×Env} (h:lcI gm mt me js ρ1 d=some p):∃ρ2 ρt,gm d (Vz ρ1 js)=some ρ2∧((mt ρ2=.ok false ρt∧p=(none,X6 ρ1 ρt js))∨(mt ρ2=.ok true ρt∧∃z ρ3 y ρ4,me ρt=.ok z ρ3∧fz ρ3 z=some (y,ρ4)∧p=(some y,X6 ρ1 ρ4 js))):=by
 unfold lcI at h;cases e1:gm d (Vz ρ1 js) with
 | none=>rw[e1]at h;cases h
 | some ρ2=>
  rw[e1]at h;have h:qi5 me ρ1 js (mt ρ2)=some p:=h;cases e2:mt ρ2 with
  | bad=>rw[e2]at h;cases h
  | ex _ _=>rw[e2]at h;cases h
  | ok t ρt=>
   rw[e2]at h;cases t with
   | false=>exact⟨ρ2,ρt,rfl,.inl ⟨e2,(Option.some.inj h).symm⟩⟩
   | true=>
    have h:qlq ρ1 js (me ρt)=some p:=h;cases e4:me ρt with
    | bad=>rw[e4]at h;cases h
    | ex _ _=>rw[e4]at h;cases h
    | ok z ρ3=>
     rw[e4]at h;have h:qlp ρ1 js (fz ρ3 z)=some p:=h;cases e3:fz ρ3 z with
     | none=>rw[e3]at h;cases h
     | some q=>
      rw[e3]at h;obtain⟨y,ρ4⟩:=q;exact⟨ρ2,ρt,rfl,.inr ⟨e2,z,ρ3,y,ρ4,e4,e3,(Option.some.inj h).symm⟩⟩
theorem qnx {α:Type} {im:IM} {xs:List α} (c e:α→D) (p:α→Bool) (hi:im ρ=.ok (xs.map c) ρ1) (hc:clean ρ1 js=true) (hl:xs.length≤mx)
  (ht:∀x∈xs,p x=true→lcI gm mt me js ρ1 (c x)=some (some (e x),ρ1)) (hf:∀x∈xs,p x=false→lcI gm mt me js ρ1 (c x)=some (none,ρ1)) :
  fLc im js gm mt me ρ=.ok (.lst ((xs.filter p).map e)) ρ1:=
 qj4 c e p hi hc hl fun x hx=>by
  cases hp:p x with
  | true=>
   obtain⟨ρ2,ρt,e1,h⟩:=qaw (ht x hx hp);rcases h with ⟨_,e⟩ | ⟨e2,z,ρ3,y,ρ4,e3,e4,e5⟩
   ·cases (Prod.mk.inj e).1
   ·obtain⟨e6,e7⟩:=Prod.mk.inj e5;cases e6;exact⟨ρ2,ρt,e1,e2,⟨fun q=>Bool.noConfusion q,fun _=>⟨z,ρ3,ρ4,e3,e4,e7.symm⟩⟩⟩
  | false=>
   obtain⟨ρ2,ρt,e1,h⟩:=qaw (hf x hx hp);rcases h with ⟨e2,e⟩ | ⟨e2,z,ρ3,y,ρ4,e3,e4,e5⟩
   ·exact⟨ρ2,ρt,e1,e2,⟨fun _=>(Prod.mk.inj e).2.symm,fun q=>Bool.noConfusion q⟩⟩
   ·cases (Prod.mk.inj e5).1
end
def qfM (x:Str):Bool:=x.cps.all (· < 0x110000)
mutual
def plD (k:Nat):D→Bool
 | .non=>true
 | .bl _=>true
 | .int _=>true
 | .str x=>qfM x
 | .lst ds=>match k with
  | 0=>false
  | k+1=>qam k ds
 | .ro ds=>match k with
  | 0=>false
  | k+1=>qam k ds
 | .tup ds=>match k with
  | 0=>false
  | k+1=>qam k ds
 | .dct _=>false
 | .ins _ _=>false
 | .dcT _=>false
def qam (k:Nat):List D→Bool
 | []=>true
 | d::ds=>plD k d && qam k ds
end
mutual
def eqP:D→D→Bool
 | .non,.non=>true
 | .bl a,.bl b=>a == b
 | .bl a,.int j=>(if a then 1 else 0) == j
 | .int i,.bl b=>i == (if b then 1 else 0)
 | .int i,.int j=>i == j
 | .str x,.str y=>x == y
 | .lst x,.lst y=>qaH x y
 | .lst x,.ro y=>qaH x y
 | .ro x,.lst y=>qaH x y
 | .ro x,.ro y=>qaH x y
 | .tup x,.tup y=>qaH x y
 | _,_=>false
def qaH:List D→List D→Bool
 | [],[]=>true
 | x::xs,y::ys=>eqP x y && qaH xs ys
 | _,_=>false
end
mutual
theorem yj:∀(k:Nat) (d:D),plD k d=true→∃p,toP d=some p∧p.canLay0=true∧p.depth≤k
 | k,.non,_=>⟨_,rfl,rfl,Nat.zero_le _⟩
 | k,.bl _,_=>⟨_,rfl,rfl,Nat.zero_le _⟩
 | k,.int _,_=>⟨_,rfl,rfl,Nat.zero_le _⟩
 | k,.str x,h=>⟨_,rfl,by simpa [plD,PyData.canLay0,qfM,PyData.strOk] using h,Nat.zero_le _⟩
 | 0,.lst ds,h=>by simp[plD]at h
 | k+1,.lst ds,h=>by
  obtain⟨ps,e,h1,h2⟩:=Cu k ds (by simpa [plD] using h);exact⟨.list ps,by simp[toP,e],by simpa [PyData.canLay0] using h1,by simp[PyData.depth];exact h2⟩
 | 0,.ro ds,h=>by simp[plD]at h
 | k+1,.ro ds,h=>by
  obtain⟨ps,e,h1,h2⟩:=Cu k ds (by simpa [plD] using h);exact⟨.list ps,by simp[toP,e],by simpa [PyData.canLay0] using h1,by simp[PyData.depth];exact h2⟩
 | 0,.tup ds,h=>by simp[plD]at h
 | k+1,.tup ds,h=>by
  obtain⟨ps,e,h1,h2⟩:=Cu k ds (by simpa [plD] using h);exact⟨.tuple ps,by simp[toP,e],by simpa [PyData.canLay0] using h1,by simp[PyData.depth];exact h2⟩
 | k,.dct _,h=>by simp[plD]at h
 | k,.ins _ _,h=>by simp[plD]at h
 | k,.dcT _,h=>by simp[plD]at h
theorem Cu:∀(k:Nat) (ds:List D),qam k ds=true→∃ps,qag ds=some ps∧PyData.canLayAll0 ps=true∧PyData.depthAll ps≤k
 | k,[],_=>⟨[],rfl,rfl,Nat.zero_le _⟩
 | k,d::ds,h=>by
  rw[qam,Bool.and_eq_true]at h;obtain⟨p,e1,h1,h2⟩:=yj k d h.1;obtain⟨ps,e2,h3,h4⟩:=Cu k ds h.2;exact⟨p::ps,by simp[qag,e1,e2],by simp[PyData.canLayAll0,h1,h3],by simp only[PyData.depthAll];exact Nat.max_le.mpr ⟨h2,h4⟩⟩
end
mutual
theorem qdc:∀(a b:D) (p q:PyData),toP a=some p→toP b=some q→PyData.eqv p q=eqP a b
 | a,b,p,q,ha,hb=>by
  cases a<;>simp only[toP,Option.map_eq_some_iff,reduceCtorEq,Option.some.injEq]at ha;all_goals first | subst ha | (obtain⟨ps,ea,rfl⟩:=ha)
  all_goals (cases b<;>simp only[toP,Option.map_eq_some_iff,reduceCtorEq,Option.some.injEq]at hb)
  all_goals first | subst hb | (obtain⟨qs,eb,rfl⟩:=hb)
  all_goals first | rfl | (simp only[PyData.eqv,eqP];exact qaG _ _ _ _ ea eb) | simp only[PyData.eqv,eqP]
theorem qaG:∀(as bs:List D) (ps qs:List PyData),qag as=some ps→qag bs=some qs→PyData.eqvAll ps qs=qaH as bs
 | [],[],ps,qs,ha,hb=>by cases ha;cases hb;rfl
 | [],b::bs,ps,qs,ha,hb=>by
  cases ha;rw[qag]at hb;split at hb
  ·cases hb;rfl
  ·cases hb
 | a::as,[],ps,qs,ha,hb=>by
  cases hb;rw[qag]at ha;split at ha
  ·cases ha;rfl
  ·cases ha
 | a::as,b::bs,ps,qs,ha,hb=>by
  rw[qag]at ha hb;split at ha
  ·rename_i p ps' e1 e2;split at hb
   ·rename_i q qs' e3 e4;cases ha;cases hb;rw[PyData.eqvAll,qaH,qdc a b p q e1 e3,qaG as bs ps' qs' e2 e4]
   ·cases hb
  ·cases ha
end
theorem qfq {a b:D} (ha:plD 60 a=true) (hb:plD 60 b=true):eqB a b=some (eqP a b):=by
 obtain⟨p,e1,h1,h2⟩:=yj 60 a ha;obtain⟨q,e2,h3,h4⟩:=yj 60 b hb;have h5:=qdc a b p q e1 e2;have s1:SeqAt.shaped p=true:=by unfold SeqAt.shaped;simp[h1];omega
 have s2:SeqAt.shaped q=true:=by unfold SeqAt.shaped;simp[h3];omega
 unfold eqB;split
 ·rfl
 ·rw[e1,e2];simp only;rw[if_pos ⟨s1,s2⟩,h5]
section
variable {k:Nat} {a b:D} {ds es:List D} {i j:Int} {x y:Str} {p q:Bool}
@[simp] theorem qsL:plD k (.bl p)=true:=by simp[plD]
@[simp] theorem qsK:plD k (.int i)=true:=by simp[plD]
@[simp] theorem qsI:plD k (.str x)=qfM x:=by simp[plD]
@[simp] theorem qsJ:plD (k+1) (.lst ds)=qam k ds:=by simp[plD]
@[simp] theorem qk9:qam k []=true:=by simp[qam]
@[simp] theorem qiz:qam k (a::ds)=(plD k a && qam k ds):=by simp[qam]
@[simp] theorem qko (hx:qfM x=true) (hy:qfM y=true):eqB (.str x) (.str y)=some (x == y):=by rw[qfq (by simpa using hx) (by simpa using hy)];simp[eqP]
@[simp] theorem qrS (h1:qam 59 ds=true) (h2:qam 59 es=true):eqB (.lst ds) (.lst es)=some (qaH ds es):=by rw[qfq (by simpa using h1) (by simpa using h2)];simp[eqP]
@[simp] theorem qty:eqP (.int i) (.int j)=(i == j):=by simp[eqP]
@[simp] theorem qtz:eqP (.bl p) (.bl q)=(p == q):=by simp[eqP]
@[simp] theorem qoB:qaH [] []=true:=by simp[qaH]
@[simp] theorem qoC:qaH (a::ds) (b::es)=(eqP a b && qaH ds es):=by simp[qaH]
end
end DL
namespace PySem.ErrX
open PySem PySem.W PySem.Spec PySem.Calls PyProof.Rows
section
variable {pg:Program} {wd:World} {Ar:Around} {EE:Value→Shared→Prop} {st:Shared} {F:Frag} {ex De:Addr} {oe:Obj} {odd:Option Obj}
theorem qc4 {nm:Str} {at_ gt:Value} (h1:(clsIn F De).isSome=true) (h2:findIn F (.ref De) nm=some (some at_)) (h3:specialIn F at_ "__get__"=some (some gt)) (h4:takesIn F at_=some true):findObj F De odd nm=some (.bind gt at_):=by
 obtain⟨q,h1⟩:=Option.isSome_iff_exists.mp h1;rw[findObj,h1,Option.bind_some,h2,Option.bind_some];simp[h3,h4]
abbrev qm0:Value:=.builtin "object.__class__"
theorem qdb {QQ:Option Value→Shared→Prop} (C:L2.ExcC F De) (X:F.In st.heap) (I:InstAt st.heap ex oe De odd) (fin:QQ (some (.ref De)) { st with toks:=st.toks+1 }):wpAny (model pg wd) Ar (getAttr? (.ref ex) "__class__") QQ EE st:=by
 have ff:findObj F De odd "__class__"=some (.bind (.builtin "getset_descriptor.__get__") qm0):=qc4 (by obtain⟨q,e,_⟩:=any_some C.hd;rw[e];rfl) C.ha C.hn C.ht;obtain⟨hh,gg,dd,tt,oo⟩:=st;have k0:=I.type (M:=model pg wd);have k1:=looks_findIn (M:=model pg wd) X C.hg;have k2:=looks_findIn (M:=model pg wd) X C.hk;have k3:=looks_find (M:=model pg wd) X I ff;have kb:Looks (model pg wd) hh (isInstance (.ref ex) (.type "BaseException")) true:=k0.andThen (looks_subIn X C.hs);have n0:(false && onTheHeap (Value.builtin "BaseException.__getattribute__"))=false:=rfl;have n2:(Value.builtin "BaseException.__getattribute__" == .builtin "object.__getattribute__")=false:=by decide +kernel
 have n1:(onTheHeap (Value.ref De) && Value.builtin "BaseException.__getattribute__" == .builtin "object.__getattribute__")=false:=by rw[n2]<;>rfl
 unfold getAttr?;unfold getAttrBy?;unfold getAttrBy;refine wpAny_bind (wpAny_mkText (wpAny_bind (wpAny_attempt (wpAny_holding (wpAny_bind (k0.at (wpAny_bind (k1.at ?_))))))));show wpAny _ _ (if (onTheHeap (Value.ref De) && Value.builtin "BaseException.__getattribute__" == .builtin "object.__getattribute__")=true then _ else _) _ _ _;rw[n1,if_neg Bool.false_ne_true,getAttrByItsOwn,hookBefore];refine wpAny_bind ?_;rw[if_pos (show onTheHeap (Value.ref De)=true from rfl)];refine k2.at (wpAny_bind (wpAny_attempt (wpAny_holding ?_)));rw[callGetattribute,n0,if_neg Bool.false_ne_true,boundAndCalled,PySem.F.excAttr_ValueError.ga.bind (.ref ex)];refine wpAny_bind (wpAny_pure ?_);show wpAny _ _ (call (.builtin "BaseException.__getattribute__") [.ref ex,.str "__class__" tt]) _ _ _;refine wpAny_call (codeAny_call_builtin PySem.F.excAttr_ValueError.ga.plain PySem.F.entry_bexc_ga ?_);refine @check_slot (model pg wd) _ _ ⟨hh,gg,dd,tt+1,oo⟩ "BaseException.__getattribute__" "BaseException" "__getattribute__" (.ref ex) [.str "__class__" tt] [] _ (by decide +kernel) (by decide +kernel) kb (PySem.F.args_bexc_ga (.ref ex) (.str "__class__" tt)) ?_;rw[Builtin.«object.__getattribute__»];refine wpAny_bind (wpAny_of_eq (a:=((Value.ref ex:Value),[Value.str "__class__" tt])) (by first | rfl | (simp only[slotArgs];rfl)) ?_);refine wpAny_bind (wpAny_pure (wpAny_bind (k0.at (wpAny_bind (k3.at ?_)))));show wpAny _ _ (holding [qm0] (call (.builtin "getset_descriptor.__get__") [qm0,.ref ex,.ref De]) >>= ret) _ _ _;refine wpAny_bind (wpAny_holding (wpAny_call (class_get (s:=⟨hh,gg,dd,tt+1,oo⟩) (ox:=oe) (od:=odd) X I C.hm ?_)));refine wpAny_pure ?_;show wpAny _ _ (handedOut (.ref De)) _ _ _;rw[handedOut_of (v:=.ref De) rfl];first
  | exact wpAny_pure (wpAny_pure fin)
  | exact wpAny_pure fin
  | exact wpAny_pure (wpAny_bind (wpAny_pure (wpAny_pure fin)))
theorem qdq (C:L2.ExcC F De):∃dd cd sl,F.lookup De=some ⟨.type "type",dd,.cls cd,sl⟩∨∃c,F.lookup De=some ⟨c,dd,.cls cd,sl⟩:=by
 obtain⟨cd,hc,_⟩:=any_some C.hd;unfold clsIn at hc;split at hc
 ·rename_i c d cd' sl ho;exact⟨d,cd',sl,.inr ⟨c,ho⟩⟩
 ·cases hc
theorem qda (C:L2.ExcC F De):KitX F (.ref ex) (.ref De) (fun h=>InstAt h ex oe De odd) where
 ty:=fun _ _ _ I=>I.type
 it:=fun _ _ X _=>by
  obtain⟨d,cd,sl,h⟩:=qdq C;obtain⟨c,ho⟩:∃c,F.lookup De=some ⟨c,d,.cls cd,sl⟩:=h.elim (fun z=>⟨_,z⟩) id;intro A' Q' E' s' k q;rw[isType,loadHead];exact wpAny_bind (wpAny_loadPart (k _ _ (X _ _ ho)) (wpAny_pure q))
 ne:=fun h tp dd its n sl X htp=>by
  obtain⟨d,cd,sl',hh⟩:=qdq C;obtain⟨c,ho⟩:∃c,F.lookup De=some ⟨c,d,.cls cd,sl'⟩:=hh.elim (fun z=>⟨_,z⟩) id;refine Bool.eq_false_iff.mpr fun q=>?_;have e:De=tp:=Value.ref.inj (beq_iff_eq.mp q);subst e;cases (X _ _ ho).symm.trans htp
 ca:=fun X I k=>qdb C X I k
end
end PySem.ErrX
namespace DL
open PySem PySem.Spec PyProof.Rows L2
theorem qgO {K:PySem.W.Frag} {D:Addr} (h:qlK K D=true):L2.ExcC K D:=by
 unfold qlK at h;simp only[Bool.and_eq_true]at h;obtain⟨h1,h2,h3,h4,h5⟩:=h;have x:XfC K D:=xfB_ok h1;exact⟨x.ga,x.gg,x.exC,x.hdC,He.eqO_ok h2,of_decide_eq_true h3,of_decide_eq_true h4,of_decide_eq_true h5⟩
def CN.v (K:PySem.W.Frag):CN→V
 | .own x=>.ref (cA K x)
 | .ty n=>.ty n
theorem CN.rel (K:PySem.W.Frag) (c:CN):RelV (c.v K) (c.u K):=by cases c<;>rfl
theorem CN.eq {K:PySem.W.Frag} {c:CN} {u:Value} (h:RelV (c.v K) u):u=c.u K:=by
 cases c with
 | own x=>exact h
 | ty n=>exact h
def Ou (H:Hp) (d:Option Addr):Prop:=∃dd fs,d=some dd∧H dd=some (.xd fs)
theorem qaF {X:Cx} {a:Addr} {oe:Obj} {cls:Value} {d:Option Addr} {pn:List (Addr×Obj)} {D:Addr} {σ:L2.St} {H:Hp} {s:Shared} {pins:List (Addr×Obj)} (hz:Zc cls d oe) (hf:∃vs,oe.data=.fields vs) (I:Inv (X.suite a ((a,oe)::pn)) pins σ H s) (ec:cls=.ref D) (hd:Ou H d) :
  ∃odd,PySem.W.InstAt s.heap a oe D (some odd):=by
 obtain⟨dd,fs,rfl,ea⟩:=hd;subst ec;obtain⟨ha,_⟩:=I.pin (a,oe) (List.mem_append_left _ List.mem_cons_self);obtain⟨vs,hv⟩:=hf;obtain⟨mA,hns,_⟩:ObjOk X.prog X.w H s.heap dd (.xd fs):=I.hok dd _ ea;obtain⟨od,_,_,ho,_⟩:=hns;exact⟨od,ha,hz.1,by unfold PySem.W.notCls;rw[hv]<;>rfl,by rw[hz.2];exact ho⟩
def qp3 (K:PySem.W.Frag) (a:Addr) (cls:Value) (d:Option Addr) (C:Str) (c:CN) (b:Bool):List V→Hp→VK→Prop:=fun xs H Q=>xs=[.ref a,c.v K]∧cls=.ref (cA K C)∧Ou H d∧Q (.bl b) H
def qip (K:PySem.W.Frag) (a:Addr) (cls:Value) (d:Option Addr) (C:Str) (cs:List CN) (b:Bool):List V→Hp→VK→Prop:=fun xs H Q=>∃p,xs=[.ref a,.ref p]∧H p=some (.tup (cs.map (CN.v K)))∧cls=.ref (cA K C)∧Ou H d∧Q (.bl b) H
theorem CN.alls {K:PySem.W.Frag}:∀{cs:List CN} {us:List Value},Vals (cs.map (CN.v K)) us→us=cs.map (CN.u K)
 | [],_,.nil=>rfl
 | c::cs,_,.cons h t=>by rw[CN.eq h,CN.alls t];rfl
section
variable {X:Cx} {a:Addr} {oe:Obj} {cls:Value} {d:Option Addr} {pn:List (Addr×Obj)} {C:Str} {c:CN} {cs:List CN} {b:Bool}
theorem qeO (T:L2.ExcC X.K (cA X.K C)) (k:PySem.W.kitOne X.K (.ref (cA X.K C)) (c.u X.K)=some b) (hz:Zc cls d oe) (hf:∃vs,oe.data=.fields vs):CallR (X.suite a ((a,oe)::pn)) (.builtin "isinstance") (qp3 X.K a cls d C c b):=by
 intro pins s σ H xs us Q I r h;obtain⟨rfl,ec,hd,q⟩:=h;cases r with
 | cons rx rr=>
  cases rr with
  | cons rt rr=>
   cases rr;cases rx;have et:=CN.eq rt;subst et;obtain⟨odd,J⟩:=qaF hz hf I ec hd;exact PySem.W.kia_one (PySem.ErrX.qda (odd:=some odd) T) I.kIn J k (fun z=>nomatch z) fun tk=>⟨.bl b,H,I.kept (t':=tk) fun _ _ z=>z,rfl,q⟩
theorem qds (T:L2.ExcC X.K (cA X.K C)) (k:PySem.W.kitAny X.K (.ref (cA X.K C)) (cs.map (CN.u X.K))=some b) (hz:Zc cls d oe) (hf:∃vs,oe.data=.fields vs):CallR (X.suite a ((a,oe)::pn)) (.builtin "isinstance") (qip X.K a cls d C cs b):=by
 intro pins s σ H xs us Q I r h;obtain⟨p,rfl,hp,ec,hd,q⟩:=h;cases r with
 | cons rx rr=>
  cases rr with
  | cons rt rr=>
   cases rr;cases rx;cases rt;obtain⟨odd,J⟩:=qaF hz hf I ec hd;obtain⟨_,its,rv,o,g1,g2,n,g3⟩:=(show ObjOk X.prog X.w H s.heap p (.tup (cs.map (CN.v X.K))) from I.hok p _ hp);have e3:=CN.alls rv;subst e3;obtain⟨oc,od,dt,sl⟩:=o;simp only at g2 g3;subst g2 g3;exact PySem.W.kia_tup (PySem.ErrX.qda (odd:=some odd) T) I.kIn J g1 k (fun z=>nomatch z) fun tk=>⟨.bl b,H,I.kept (t':=tk) fun _ _ z=>z,rfl,q⟩
end
def qdP (e:Exn) (C:Str) (b:Bool) (i:Nat):EM:=fun ρ=>match ρ[i]? with
 | some (some .xh)=>if e.cls=C∧e.fs.isSome=true then .ok (.d (.bl b)) ρ else .bad
 | _=>.bad
section
variable {F:PySem.W.Frag} {a:Addr} {cls:Value} {d:Option Addr} {e:Exn} {C:Str} {i:Nat} {b:Bool} {W:WX}
theorem j0 {σ:L2.St} {G H:Hp} {ρ:Env} {Q:VK} (R:Rel ⟨F,some ⟨a,cls,d,e⟩⟩ σ G H ρ) (h:EPost ⟨F,some ⟨a,cls,d,e⟩⟩ W σ G H ρ Q (qdP e C b i ρ)) :
  (∃v,σ[i]?=some (some v)∧v=.ref a)∧cls=.ref (cA F C)∧Ou G d∧EPost ⟨F,some ⟨a,cls,d,e⟩⟩ W σ G H ρ Q (.ok (.d (.bl b)) ρ):=by
 unfold qdP at h;split at h
 ·rename_i hx;split at h
  ·rename_i hc;obtain⟨v,hv,hl⟩:=R.at_ i _ hx;have hl:=hl ⟨a,cls,d,e⟩ rfl;obtain⟨x1,x2⟩:=R.exo ⟨a,cls,d,e⟩ rfl;refine⟨⟨v,hv,hl⟩,x1.trans (by rw[hc.1]),?_,h⟩;cases e1:e.fs with
   | none=>rw[e1]at hc;cases hc.2
   | some fs=>
    simp only[e1]at x2;obtain⟨dd,vs,rfl,hg,hf⟩:=x2;exact⟨dd,vs,rfl,hg⟩
  ·exact h.elim
 ·exact h.elim
theorem Ou.mono {G G':Hp} (s:Same G G') (h:Ou G d):Ou G' d:=let ⟨dd,fs,e1,e2⟩:=h;⟨dd,fs,e1,s _ _ e2⟩
theorem qkf {c:CN}:Yx ⟨F,some ⟨a,cls,d,e⟩⟩ W (tCB (qp3 F a cls d C c b) (tCons (tVar i) (tCons (tC (c.v F)) tNil))) (qdP e C b i):=fun σ G H ρ R Q h=>by
 obtain⟨⟨v,hv,rfl⟩,h1,h2,h3⟩:=j0 R h;exact⟨_,hv,rfl,h1,h2.mono R.same,h3 _ _ _ (Stp.refl _ _ _ _) R (.bl b)⟩
def qfI (F:PySem.W.Frag):List CN→TA
 | []=>tNil
 | c::cs=>tCons (tC (c.v F)) (qfI F cs)
theorem qah {σ:L2.St} {H:Hp}:∀{cs:List CN} {Q:List V→Hp→Prop},Q (cs.map (CN.v F)) H→qfI F cs σ H Q
 | [],_,h=>h
 | c::cs,Q,h=>qah (cs:=cs) (Q:=fun vs H1=>Q (c.v F::vs) H1) h
theorem qg8 {cs:List CN} (hl:cs.length≤mx):Yx ⟨F,some ⟨a,cls,d,e⟩⟩ W (tCB (qip F a cls d C cs b) (tCons (tVar i) (tCons (tTup (qfI F cs)) tNil))) (qdP e C b i):=fun σ G H ρ R Q h=>by
 obtain⟨⟨v,hv,rfl⟩,h1,h2,h3⟩:=j0 R h;refine⟨_,hv,qah ⟨by rw[List.length_map];exact Yc hl,fun p hp=>?_⟩⟩;have g:=Gro.new (o:=.tup (cs.map (CN.v F))) R.same hp;refine⟨p,rfl,upd_same,h1,(h2.mono g.g).mono g.s,h3 _ _ _ g.stp (R.gro g) (.bl b)⟩
end
section
variable {X:Cx} {x:Str} {p pos pt:Pos}
theorem qb7 (hg:Gl X x) (hm:X.mg x=some (.ref (cA X.K x))) (hd:(x == ("__debug__" : Str))=false:=by decide):PE X (.Name x p) (tC ((CN.own x).v X.K)):=pe_glob hg hm rfl hd
theorem qmV {n:String} (hg:Gl X x) (hm:X.mg x=none) (hv:bootBuiltins x=some (.type n)) (hn:x≠"__name__":=by decide) (hd:(x == ("__debug__" : Str))=false:=by decide):PE X (.Name x p) (tC ((CN.ty n).v X.K)):=pe_bltn hg hm hv rfl hn hd
theorem qiF {c:CN} {cs:List CN} {e:Expr} {es:List Expr} (h:PE X e (tC (c.v X.K))) (t:PA X es (qfI X.K cs)) (hs:starEach (e::es) X.env=(false,eval e X.env)::starEach es X.env:=by rfl):PA X (e::es) (qfI X.K (c::cs)):=pa_cons h t hs
theorem qiE:PA X [] (qfI X.K []):=pa_nil
end
section
variable {X:Cx} {W:WX} {a:Addr} {oe:Obj} {cls:Value} {d:Option Addr} {pn:List (Addr×Obj)} {ex:Exn} {C x:Str} {c:CN} {cs:List CN} {b:Bool} {i:Nat} {ec:Expr} {es:List Expr} {k0:ExprCtx} {p pos pt pi:Pos}
theorem qi6 {n:Nat} (h:n≤100):n≤mx:=Nat.le_trans h (by decide)
theorem qfd (hm:X.mg "isinstance"=none) (T:L2.ExcC X.K (cA X.K C)) (k:PySem.W.kitOne X.K (.ref (cA X.K C)) (c.u X.K)=some b) (hz:Zc cls d oe) (hf:∃vs,oe.data=.fields vs) (hc:PE (X.suite a ((a,oe)::pn)) ec (tC (c.v X.K)))
  (hN:X.N[i]?=some x:=by rfl) (hvi:Vis X.env.scope x:=by first | exact .inl rfl | exact .inr (.inl rfl) | exact .inr (.inr rfl)) (hd:(x == ("__debug__" : Str))=false:=by decide) (hcd:(x == ("__classdict__" : Str))=false:=by decide)
  (hg:Gl (X.suite a ((a,oe)::pn)) "isinstance":=by rfl)
  (he:starEach [.Name x p,ec] (X.suite a ((a,oe)::pn)).env=(false,eval (.Name x p) (X.suite a ((a,oe)::pn)).env)::starEach [ec] (X.suite a ((a,oe)::pn)).env:=by rfl) (he2:starEach [ec] (X.suite a ((a,oe)::pn)).env=(false,eval ec (X.suite a ((a,oe)::pn)).env)::starEach [] (X.suite a ((a,oe)::pn)).env:=by rfl)
  (hpl:(backTo pos (starEach [ec] (X.suite a ((a,oe)::pn)).env)).any (·.1)=false:=by rfl) :
  JE (X.suite a ((a,oe)::pn)) (some ⟨a,cls,d,ex⟩) W (.Call (.Name "isinstance" pi) [.Name x p,ec] [] pos) (qdP ex C b i):=
 ⟨_,pe_callB (qeO T k hz hf) hg hm (by first | boot_by_name | rfl | kernel_rfl) (pa_cons (pe_var hN hvi hd hcd) (pa_cons hc pa_nil he2) he) (by decide) (by decide) he hpl,qkf⟩
theorem qgK {kt} (hm:X.mg "isinstance"=none) (T:L2.ExcC X.K (cA X.K C)) (k:PySem.W.kitAny X.K (.ref (cA X.K C)) (cs.map (CN.u X.K))=some b) (hz:Zc cls d oe) (hf:∃vs,oe.data=.fields vs) (hl:cs.length≤mx) (hc:PA (X.suite a ((a,oe)::pn)) es (qfI X.K cs))
  (hN:X.N[i]?=some x:=by rfl) (hvi:Vis X.env.scope x:=by first | exact .inl rfl | exact .inr (.inl rfl) | exact .inr (.inr rfl)) (hd:(x == ("__debug__" : Str))=false:=by decide) (hcd:(x == ("__classdict__" : Str))=false:=by decide)
  (hg:Gl (X.suite a ((a,oe)::pn)) "isinstance":=by rfl)
  (he:starEach [.Name x p,.Tuple es kt pt] (X.suite a ((a,oe)::pn)).env=(false,eval (.Name x p) (X.suite a ((a,oe)::pn)).env)::starEach [.Tuple es kt pt] (X.suite a ((a,oe)::pn)).env:=by rfl) (he2:starEach [.Tuple es kt pt] (X.suite a ((a,oe)::pn)).env=(false,eval (.Tuple es kt pt) (X.suite a ((a,oe)::pn)).env)::starEach [] (X.suite a ((a,oe)::pn)).env:=by rfl)
  (hpl:(backTo pos (starEach [.Tuple es kt pt] (X.suite a ((a,oe)::pn)).env)).any (·.1)=false:=by rfl) :
  JE (X.suite a ((a,oe)::pn)) (some ⟨a,cls,d,ex⟩) W (.Call (.Name "isinstance" pi) [.Name x p,.Tuple es kt pt] [] pos) (qdP ex C b i):=
 ⟨_,pe_callB (qds T k hz hf) hg hm (by first | boot_by_name | rfl | kernel_rfl) (pa_cons (pe_var hN hvi hd hcd) (pa_cons (pe_tup hc) pa_nil he2) he) (by decide) (by decide) he hpl,qg8 hl⟩
end
def qfh (kvs:List (Key×D)) (k:Key):Option D:=(kvs.find? fun kv=>decide (kv.1=k)).map (·.2)
def qmQ (kvs:List (Key×D)) (k:Key) (d:D):List (Key×D):=
 if (kvs.any fun kv=>decide (kv.1=k))=true then kvs.map (fun kv=>if kv.1=k then (kv.1,d) else kv) else kvs++[(k,d)]
section
variable {K:PySem.W.Frag} {G H:Hp}
theorem DqK.get {k:Key}:∀{vs:List (Key×V)} {ds:List (Key×D)},DqK K G vs ds→match qfh ds k with
  | some d=>∃v,valV vs k=some v∧Dq K G v d
  | none=>valV vs k=none
 | _,_,.nil=>rfl
 | _,_,.cons (k:=j) h t=>by
  unfold qfh valV;by_cases e:j=k
  ·simp only[List.find?_cons,decide_eq_true e,Option.map_some];exact⟨_,rfl,h⟩
  ·simp only[List.find?_cons,decide_eq_false e];exact DqK.get t
theorem DqK.length:∀{vs:List (Key×V)} {ds:List (Key×D)},DqK K G vs ds→vs.length=ds.length
 | _,_,.nil=>rfl
 | _,_,.cons _ t=>by simp[DqK.length t]
theorem DqK.anyk {k:Key}:∀{vs:List (Key×V)} {ds:List (Key×D)},DqK K G vs ds→(vs.any fun kv=>decide (kv.1=k))=ds.any fun kv=>decide (kv.1=k)
 | _,_,.nil=>rfl
 | _,_,.cons _ t=>by rw[List.any_cons,List.any_cons,DqK.anyk t]
theorem DqK.mapk {k:Key} {v:V} {d:D} (q:Dq K G v d):∀{vs:List (Key×V)} {ds:List (Key×D)},DqK K G vs ds→DqK K G (vs.map fun kv=>if kv.1=k then (kv.1,v) else kv) (ds.map fun kv=>if kv.1=k then (kv.1,d) else kv)
 | _,_,.nil=>.nil
 | _,_,.cons (k:=j) h t=>by
  rw[List.map_cons,List.map_cons];by_cases e:j=k
  ·simp only[if_pos e];exact .cons q (DqK.mapk q t)
  ·simp only[if_neg e];exact .cons h (DqK.mapk q t)
theorem DqK.app:∀{vs us:List (Key×V)} {ds es:List (Key×D)},DqK K G vs ds→DqK K G us es→DqK K G (vs++us) (ds++es)
 | _,_,_,_,.nil,b=>b
 | _,_,_,_,.cons h t,b=>.cons h (DqK.app t b)
theorem DqK.put {vs:List (Key×V)} {ds:List (Key×D)} {k:Key} {v:V} {d:D} (h:DqK K G vs ds) (q:Dq K G v d):DqK K G (putK vs k v) (qmQ ds k d):=by
 unfold putK qmQ;rw[h.anyk];split
 ·exact h.mapk q
 ·exact h.app (.cons q .nil)
end
variable {K:Kx} {W:WX}
inductive Sl where
 | p (i:Nat) | k (j:Nat) | m (j:Nat)
def slA {α:Type} (us mv ws:List α):Sl→Option α
 | .p i=>us[i]?
 | .k j=>ws[j]?
 | .m j=>mv[j]?
def gS {α:Type} (sl:List Sl) (us mv ws:List α):List α:=sl.filterMap (slA us mv ws)
theorem Eu {α β:Type} {R:α→β→Prop}:∀{xs:List α} {ys:List β},Paired R xs ys→∀i:Nat,match xs[i]?,ys[i]? with
  | some x,some y=>R x y
  | none,none=>True
  | _,_=>False
 | _,_,.nil,i=>by simp
 | _,_,.cons h _,0=>by simpa using h
 | _,_,.cons _ t,i+1=>by simpa using Eu t i
theorem qaC {α β:Type} {R:α→β→Prop} {us mv ws:List α} {us' mv' ws':List β} (h1:Paired R us us') (h2:Paired R mv mv') (h3:Paired R ws ws'):∀{sl:List Sl},Paired R (gS sl us mv ws) (gS sl us' mv' ws')
 | []=>.nil
 | s::sl=>by
  have ih:=qaC h1 h2 h3 (sl:=sl);have q:match slA us mv ws s,slA us' mv' ws' s with
   | some x,some y=>R x y
   | none,none=>True
   | _,_=>False:=by
   cases s with
   | p i=>exact Eu h1 i
   | k i=>exact Eu h3 i
   | m i=>exact Eu h2 i
  unfold gS at ih ⊢;rw[List.filterMap_cons,List.filterMap_cons];cases e1:slA us mv ws s<;>cases e2:slA us' mv' ws' s<;>simp only[e1,e2]at q
  ·exact ih
  ·exact .cons q ih
def cV:D→V
 | .int i=>.int i
 | .bl b=>.bl b
 | .str x=>.str x
 | _=>.non
def cOk:D→Bool
 | .int _=>true
 | .bl _=>true
 | .str _=>true
 | .non=>true
 | _=>false
def qhC (n m:Nat) (dm:List V) (sl:List Sl) (t tk:TA):TA:=fun σ H Q=>t σ H fun vs H1=>tk σ H1 fun zs H2=>vs.length=n∧zs.length=m∧Q (gS sl vs dm zs) H2
def qcF (n m:Nat) (ds:List D) (sl:List Sl) (xs:List X):List X→Env→Res (List X):=fun zs ρ2=>if xs.length=n∧zs.length=m then .ok (gS sl xs (ds.map .d) zs) ρ2 else .bad
def qcG (n m:Nat) (ds:List D) (sl:List Sl) (mk:AM):List X→Env→Res (List X):=fun xs ρ1=>bindR (mk ρ1) (qcF n m ds sl xs)
def zp (n m:Nat) (ds:List D) (sl:List Sl) (ma mk:AM):AM:=fun ρ=>bindR (ma ρ) (qcG n m ds sl mk)
section
variable {K:Kx} {W:WX}
theorem qdk {σ:L2.St} {G:Hp}:∀{ds:List D},ds.all cOk=true→Tx K σ G (ds.map cV) (ds.map .d)
 | [],_=>.nil
 | x::ds,h=>by
  rw[List.all_cons,Bool.and_eq_true]at h;refine .cons ?_ (qdk h.2);have hc:=h.1;show Dq K.k G (cV x) x;cases x<;>first | cases hc | skip
  ·exact .non
  ·exact .bl _
  ·exact .int _
  ·exact .str _
theorem qkI {n m:Nat} {ds:List D} {sl:List Sl} {t tk:TA} {ma mk:AM} (hs:ds.all cOk=true) (ht:Bx K W t ma) (hk:Bx K W tk mk):Bx K W (qhC n m (ds.map cV) sl t tk) (zp n m ds sl ma mk):=fun σ G H ρ R Q h=>by
 unfold zp bindR at h;refine ht.fst R (fun xs ρ1 e vs G1 H1 S1 R1 x1=>?_) (fun e ρ1 q=>by rw[q]at h;exact h) (fun q=>by rw[q]at h;exact h);rw[e]at h;have h:=Iy.step S1 h;simp only[qcG]at h;unfold bindR at h;refine hk.fst R1 (fun ys ρ2 e2 zs G2 H2 S2 R2 x2=>?_) (fun e ρ1 q=>by rw[q]at h;exact h) (fun q=>by rw[q]at h;exact h);rw[e2]at h;have h:=Iy.step S2 h;simp only[qcF]at h;split at h
 ·rename_i hl;exact⟨x1.len.trans hl.1,x2.len.trans hl.2,h _ G2 H2 (Stp.refl _ _ _ _) R2 (qaC (x1.mono S2.g) (qdk hs) x2)⟩
 ·exact h.elim
end
section
variable {X:Cx} {CX:CXT} {k n:Nat} {f:Addr} {fd:FuncData} {ps ks:List Str} {sp:Sp} {E:L2.St→XK} {x:Str} {p pos:Pos} {e:Expr} {es:List Expr} {kws:List Keyword} {t tk:TA} {g:List Value→List Value→List Value} {gV:List V→List V→List V}
def yc (n m:Nat) (sp:Sp) (gV:List V→List V→List V) (E:L2.St→XK) (t tk:TA):TE:=fun σ H Q=>t σ H fun vs H1=>tk σ H1 fun zs H2=>vs.length=n∧zs.length=m∧sp (gV vs zs) H2 Q (E σ)
theorem qca (F:FnOk X.prog X.w X.K X.mg X.base CX k f fd ps sp) (hr:Room k X.A) (hg:Gl X x) (hm:X.mg x=some (.ref f)) (hk:PySem.W.keepIn X.K (.ref f)=true) (hb:KBn X.K fd ps n ks g gV) (hx:∀σ,PassesAt CX X σ (E σ))
  (ha:PA X (e::es) t) (hkw:PK X kws tk) (hall:(backToKw pos (keywordEach kws X.env)).all (·.1.isSome)=true:=by rfl) (hks:(backToKw pos (keywordEach kws X.env)).filterMap (·.1)=ks:=by rfl)
  (hdb:(x == ("__debug__" : Str))=false:=by decide) (he:starEach (e::es) X.env=(false,eval e X.env)::starEach es X.env:=by rfl)
  (hpl:((backTo pos (starEach (e::es) X.env)).any (·.1) || (backToKw pos (keywordEach kws X.env)).any (·.1.isNone))=false:=by rfl) :
  PE X (.Call (.Name x p) (e::es) kws pos) (yc n ks.length sp gV E t tk):=⟨fun pins s σ H Q I h=>by
 refine wpAny_Call_Name_kw (ld_glob I hg hm ?_ hdb);refine PySem.W.callWith_KW (h₀:=X.base) I.ok.mod.kin hk hall (thn (ha.run pos pins s σ H _ I h) fun us s1 hh=>?_) hpl he;obtain⟨vs,H1,I1,r,q⟩:=hh;refine thn (hkw.run pos pins s1 σ H1 _ I1 q) fun ws s2 hh=>?_;obtain⟨zs,H2,I2,rz,l1,l2,q2⟩:=hh;refine⟨I2.kIn,?_⟩;rw[hks];have r2:=hb.rel r rz;refine wpAny_call (codeAny_mono (F.run X.A X.stack s2 H2 ⟨us,ks.zip ws⟩ (g us ws) (gV vs zs) Q (E σ) hr I2.env0 (hb.to s2 us ws I2.kIn (r.length.symm.trans l1) (rz.length.symm.trans l2)) r2 q2) fun ans s' hq=>?_);cases ans with
 | error z=>exact hx σ pins H2 s2 z s' I2 hq
 | ok fl=>
  cases fl with
  | ret u=>exact I2.after hq
  | next=>exact False.elim hq
  | brk=>exact False.elim hq
  | cont=>exact False.elim hq⟩
end
theorem kb0 {K:PySem.W.Frag} {x qual:Str} {params:Arguments} {body:List Stmt} {scope:Scope} {kws:List (Str×V)} {f:Addr} {fd:FuncData} {ps:List Str} (F:FunD K x qual params body scope [] kws f fd) (n:Nat) (ks:List Str) (ms:List (Str×V)) (sl:List Sl) (hk:kws≠[]) (hms:∀q∈ms,q∈kws)
  (h:∀(D:Addr) (doc pm:Value) (an:Option Addr) (cdv ct:Value) (us mv ws:List Value),us.length=n→mv.length=ms.length→ws.length=ks.length→
   KwChain D ((ms.map (·.1)).zip mv) (bindArgs (PySem.W.fnOf x qual params body scope .none (.ref D) doc pm an cdv ct) ⟨us,ks.zip ws⟩) (ps.zip (gS sl us mv ws))) :
  ∃g,KBn K fd ps n ks g (fun vs zs=>gS sl vs (ms.map (·.2)) zs):=by
 obtain⟨oc,od,dV,kV,doc,pm,an,cdv,ct,osl,rfl,lk,hcd,hD,hK⟩:=F.ex;rcases hD with ⟨_,rfl⟩ | ⟨z,_⟩
 ·rcases hK with z | ⟨D,rfl,hq⟩
  ·exact absurd z hk
  ·obtain⟨mv,l,rk,hks⟩:=kwd_vals (ms:=ms) fun q hm=>hq q (hms q hm);exact⟨fun us ws=>gS sl us mv ws,fun s us ws X l1 l2=>BindsTo.of_looks fun M=>KwChain.looks X hks (h D doc pm an cdv ct us mv ws l1 l l2),fun r1 r2=>qaC r1 rk r2⟩
 ·exact absurd rfl z
structure FnK (P:Program) (w:World) (K:PySem.W.Frag) (mg:Str→Option Value) (base:Heap) (k:Nat) (x:Str) (st:Stmt) (dvs:List V) (kws:List (Str×V)) (ps:List Str) (R:List L→FRes):Prop where
 ex:∃fd,FnOk P w K mg base (L2.CX P w) k (cA K x) fd ps (spF K ps.length R)∧FunD K x x (defArgs st) (defBody st) (defScope st) dvs kws (cA K x) fd
 g:mg x=some (.ref (cA K x))
theorem qfl {P:Program} {w:World} {K:PySem.W.Frag} {mg:Str→Option Value} {base:Heap} {x qual:Str} {st:Stmt} {dvs:List V} {kws:List (Str×V)} {f:Addr} {fd:FuncData} {N ps:List Str} {k:Nat} {body:SM} (F:FunD K x qual (defArgs st) (defBody st) (defScope st) dvs kws f fd) (S:FnScope N ps (defScope st))
  (hb:∀(cdv:Value) (A:Around) (outer:List PySem.Env) (s:Shared) (H:Hp) (E:XK),Room k (A.deeper (envOfC qual (defScope st) s.heap.objs.size f cdv))→
   JSs (cxOf (L2.CX P w) P w K mg base N qual (defScope st) f cdv A outer s H E) none (fun cls d _ H=>E cls d H) (defBody st) body) :
  FnOk P w K mg base (L2.CX P w) (k+1) f fd ps (spF K ps.length (Ze N.length body)):=by
 refine F.ok S (fun vs H Q E h=>h.1) (fun cdv A outer s H vs Q E hr h=>?_);obtain⟨hl,G,as,Aok,hp⟩:=h;obtain⟨t,h1,h2⟩:=hb cdv A outer s H E hr;refine⟨t,h1,?_⟩;have len:as.length=vs.length:=by
  have:=Aok.1.len;simpa using this.symm
 have est:L2.start N vs=vs.map some++List.replicate (N.length-as.length) none:=by
  unfold L2.start;rw[len]
 rw[est];refine h2 _ G H (as.map some++List.replicate (N.length-as.length) none) (Rel.enter Aok) _ ?_;unfold Ze at hp;cases e:body (as.map some++List.replicate (N.length-as.length) none) with
 | bad=>rw[e]at hp;exact hp
 | ex x ρ'=>
  rw[e]at hp;intro c d σ' G' H' S' R' q;obtain⟨a,b⟩:=Rel.leave Aok S' R';exact hp c d G' H' a b q
 | ok fl ρ'=>
  rw[e]at hp;cases fl with
  | nx=>
   intro σ' G' H' S' R';obtain⟨a,b⟩:=Rel.leave Aok S' R';exact hp _ G' H' a b .non
  | bk=>exact hp.elim
  | ct=>exact hp.elim
  | rt l=>
   intro σ' v G' H' S' R' q;obtain⟨a,b⟩:=Rel.leave Aok S' R';refine hp v G' H' a b ?_;cases l with
   | d x=>exact q
   | r x=>exact q.elim
   | p x=>exact q.elim
   | xh=>exact q.elim
   | u _ _=>
    obtain⟨t,va,vb,h1,h2,h3,h4,h5⟩:=q;refine⟨t,va,vb,h1,h2,h3,h4,fun b eb=>?_⟩;rcases h5 b eb with h | ⟨i,l,e1,o,_⟩
    ·exact h
    ·have:=Aok.2 l (List.mem_of_getElem? (K6 e1));rw[o]at this;cases this
   | m x=>
    refine⟨q.1,fun b eb=>?_⟩;rcases q.2 b eb with h | ⟨i,l,e1,o,_⟩
    ·exact h
    ·have:=Aok.2 l (List.mem_of_getElem? (K6 e1));rw[o]at this;cases this
abbrev qpe (K:PySem.W.Frag) (x:Str) (st:Stmt) (dvs:List V) (kws:List (Str×V)):Prop:=∃fd,FunD K x x (defArgs st) (defBody st) (defScope st) dvs kws (cA K x) fd
theorem qfn {P:Program} {w:World} {K:PySem.W.Frag} {mg:Str→Option Value} {base:Heap} {x:Str} {st:Stmt} {dvs:List V} {kws:List (Str×V)} {N ps:List Str} {k:Nat} {body:SM} (F:qpe K x st dvs kws) (g:mg x=some (.ref (cA K x))) (S:FnScope N ps (defScope st))
  (hb:∀(cdv:Value) (A:Around) (outer:List PySem.Env) (s:Shared) (H:Hp) (E:XK),Room k (A.deeper (envOfC x (defScope st) s.heap.objs.size (cA K x) cdv))→
   JSs (cxOf (L2.CX P w) P w K mg base N x (defScope st) (cA K x) cdv A outer s H E) none (fun cls d _ H=>E cls d H) (defBody st) body) :
  FnK P w K mg base (k+1) x st dvs kws ps (Ze N.length body):=by
 obtain⟨fd,F⟩:=F;exact⟨⟨fd,qfl F S hb,F⟩,g⟩
def JK (X:Cx) (xa:Option XA) (W:WX) (kws:List Keyword) (m:AM):Prop:=∃t,PK X kws t∧Bx ⟨X.K,xa⟩ W t m
section
variable {X:Cx} {xa:Option XA} {W:WX} {e:Expr} {es:List Expr} {kws:List Keyword} {am mk:AM} {m:EM} {pos p kpos:Pos} {x:Str} {st:Stmt} {dvs:List V} {kwv:List (Str×V)} {k n:Nat} {ps ks:List Str} {R:List L→FRes} {nm:Option Str} {ds:List D} {sl:List Sl}
theorem Rg:JK X xa W [] Qr:=⟨_,pk_nil,qaP⟩
theorem Zx (ha:JE X xa W e m) (hr:JK X xa W kws mk):JK X xa W (⟨nm,e,kpos⟩::kws) (Qd m mk):=let ⟨_,h1,h2⟩:=ha;let ⟨_,h3,h4⟩:=hr;⟨_,pk_cons h1 h3,qdC h2 h4⟩
theorem qaA (ks:List Str) (B:FnK X.prog X.w X.K X.mg X.base k x st dvs kwv ps R) (hkb:∀fd,FunD X.K x x (defArgs st) (defBody st) (defScope st) dvs kwv (cA X.K x) fd→∃g,KBn X.K fd ps n ks g (fun vs zs=>gS sl vs (ds.map cV) zs)) (hds:ds.all cOk=true) (hr:Room k X.A) (tk:Takes X W) (ha:JA X xa W (e::es) am) (hkw:JK X xa W kws mk)
  (hg:Gl X x:=by rfl) (hall:(backToKw pos (keywordEach kws X.env)).all (·.1.isSome)=true:=by rfl) (hks:(backToKw pos (keywordEach kws X.env)).filterMap (·.1)=ks:=by rfl)
  (hdb:(x == ("__debug__" : Str))=false:=by decide) (he:starEach (e::es) X.env=(false,eval e X.env)::starEach es X.env:=by rfl)
  (hpl:((backTo pos (starEach (e::es) X.env)).any (·.1) || (backToKw pos (keywordEach kws X.env)).any (·.1.isNone))=false:=by rfl) :
  JE X xa W (.Call (.Name x p) (e::es) kws pos) (Q6 ps.length R (zp n ks.length ds sl am mk)):=by
 obtain⟨t,h1,h2⟩:=ha;obtain⟨u,h3,h4⟩:=hkw;obtain⟨fd,F,D⟩:=B.ex;obtain⟨g,hb⟩:=hkb fd D;refine⟨tCallSD (spF X.K ps.length R) [] (WE W) (qhC n ks.length (ds.map cV) sl t u),?_,qc8 (qkI hds h2 h4)⟩;have P:=qca (p:=p) (E:=WE W) F hr hg B.g D.kp hb (fun σ=>passAt tk σ) h1 h3 hall hks hdb he hpl;have eq:yc n ks.length (spF X.K ps.length R) (fun vs zs=>gS sl vs (ds.map cV) zs) (WE W) t u=tCallSD (spF X.K ps.length R) [] (WE W) (qhC n ks.length (ds.map cV) sl t u):=by
  funext σ H Q
  unfold yc tCallSD qhC;simp only[List.append_nil]
 rw[← eq];exact P
end
end DL
namespace DL
open PySem L2
section
variable {ρ:Env} {e:Exn} {i j:Int} {a b d:D} {ds:List D}
def ixE (e:Exn) (C:Str) (b:Bool) (o:Option (Option L)) (ρ:Env):Res X:=match o with
 | some (some .xh)=>if e.cls=C∧e.fs.isSome=true then .ok (.d (.bl b)) ρ else .bad
 | _=>.bad
@[simp] theorem qoM {C:Str} {b:Bool} {i:Nat}:qdP e C b i ρ=ixE e C b ρ[i]? ρ:=(rfl)
@[simp] theorem qrp {C:Str} {b:Bool}:ixE e C b (some (some .xh)) ρ=if e.cls=C∧e.fs.isSome=true then .ok (.d (.bl b)) ρ else .bad:=(rfl)
@[simp] theorem qpb {n m:Nat} {sl:List Sl} {ma mk:AM}:zp n m ds sl ma mk ρ=bindR (ma ρ) (qcG n m ds sl mk):=(rfl)
@[simp] theorem qlC {n m:Nat} {sl:List Sl} {mk:AM} {xs:List X}:qcG n m ds sl mk xs ρ=bindR (mk ρ) (qcF n m ds sl xs):=(rfl)
@[simp] theorem qlB {n m:Nat} {sl:List Sl} {xs zs:List X}:qcF n m ds sl xs zs ρ=if xs.length=n∧zs.length=m then .ok (gS sl xs (ds.map .d) zs) ρ else .bad:=(rfl)
variable {α:Type} {us mv ws:List α} {x:α}
@[simp] theorem qrD:gS [] us mv ws=[]:=(rfl)
def gsC {α:Type} (us mv ws:List α) (sl:List Sl):Option α→List α
 | some x=>x::gS sl us mv ws
 | none=>gS sl us mv ws
@[simp] theorem qtW {i:Nat} {sl:List Sl}:gS (.p i::sl) us mv ws=gsC us mv ws sl us[i]?:=by
 unfold gS gsC;rw[List.filterMap_cons];show (match us[i]? with | none=>_ | some b=>_)=_;cases us[i]?<;>rfl
@[simp] theorem qtY {i:Nat} {sl:List Sl}:gS (.k i::sl) us mv ws=gsC us mv ws sl ws[i]?:=by
 unfold gS gsC;rw[List.filterMap_cons];show (match ws[i]? with | none=>_ | some b=>_)=_;cases ws[i]?<;>rfl
@[simp] theorem qtX {i:Nat} {sl:List Sl}:gS (.m i::sl) us mv ws=gsC us mv ws sl mv[i]?:=by
 unfold gS gsC;rw[List.filterMap_cons];show (match mv[i]? with | none=>_ | some b=>_)=_;cases mv[i]?<;>rfl
@[simp] theorem qrA {sl:List Sl}:gsC us mv ws sl (some x)=x::gS sl us mv ws:=(rfl)
end
variable {K:Kx} {W:WX}
def jh (D:Addr) (H:Hp):Hp:=fun a=>if a=D then none else H a
theorem Lw {D a:Addr} {H:Hp} (h:a≠D):jh D H a=H a:=if_neg h
theorem jf {D:Addr} {H:Hp}:jh D H D=none:=if_pos rfl
theorem jg {D:Addr} {H:Hp} {o:HO} (h:H D=some o):upd (jh D H) D o=H:=by
 funext a
 by_cases e:a=D
 ·subst e;rw[upd_same,h]
 ·rw[upd_ne e,Lw e]
theorem Rel.outD {σ:St} {G H:Hp} {ρ:Env} {D:Addr} (R:Rel K σ G H ρ) (g:G D=none) (n:¬Own σ ρ D):Rel K σ G (jh D H) ρ:=by
 refine⟨fun b u e=>?_,R.len,fun i l e=>?_,R.exo,R.sep⟩
 ·rw[Lw (ne_of_none e g)];exact R.same b u e
 ·obtain⟨v,e1,e2⟩:=R.at_ i l e;refine⟨v,e1,?_⟩;have ow:∀y,l.own=true→MOk K G H v y→MOk K G (jh D H) v y:=fun y ol hm=>by
   refine hm.mono (Same.refl _) fun c ec=>?_;subst ec;obtain⟨c',ec',gc,_⟩:=hm.ref;cases ec';refine⟨gc,fun u eu=>?_⟩;have nc:c≠D:=fun q=>by
    subst q;exact n ⟨i,l,e,ol,e1⟩
   rw[Lw nc];exact eu
  cases l with
  | d y=>exact e2
  | m y=>exact ow y rfl e2
  | r y=>exact ow y rfl e2
  | p y=>exact⟨ow y rfl e2.1,e2.2⟩
  | xh=>exact e2
  | u _ _=>exact e2
theorem Stp.outD {σ σ':St} {G H G' H':Hp} {ρ ρ':Env} {D:Addr} (S:Stp σ ρ G H σ' ρ' G' H') (h:H D=none):Stp σ ρ G H σ' ρ' G' (jh D H'):=by
 refine⟨S.g,S.gf,fun a u e n=>?_,fun a e=>?_,S.ow,S.om,S.pin⟩
 ·rw[Lw (ne_of_none e h)];exact S.fr a u e n
 ·by_cases q:a=D
  ·subst q;exact absurd h e
  ·rw[Lw q];exact S.hn a e
structure LcI (K:Kx) (σ:St) (G1 H1:Hp) (ρ1:Env) (js:List Nat) (A:Addr) (accV:List V) (acc:List D) (G':Hp) (ρ':Env) (H':Hp):Prop where
 S:Stp σ ρ1 G1 H1 σ ρ' G' H'
 R:Rel K σ G' H' ρ'
 h:H' A=some (.lst accV)
 g:G' A=none
 no:¬Own σ ρ' A
 q:DqA K G' accV acc
 len:ρ'.length=ρ1.length
 same:∀i∈js,ρ'[i]?=ρ1[i]?
theorem LcI.start {σ:St} {G1 H1:Hp} {ρ1:Env} {js:List Nat} {A:Addr} {accV:List V} {acc:List D} (R:Rel K σ G1 H1 ρ1) (hA:H1 A=none) (q:DqA K G1 accV acc):LcI K σ G1 H1 ρ1 js A accV acc G1 ρ1 (upd H1 A (.lst accV)):=by
 have g1:G1 A=none:=R.same.free hA;have no:¬Own σ ρ1 A:=fun⟨i,l,e1,o,e3⟩=>by
  obtain⟨v,e4,e5⟩:=R.at_ i l e1;rw[e3]at e4;cases Option.some.inj (Option.some.inj e4);have:∀y,MOk K G1 H1 (.ref A) y→False:=fun y hm=>by
   obtain⟨a,ea,_,hn⟩:=hm.ref;cases ea;exact hn hA
  cases l with
  | d y=>cases o
  | m y=>exact this y e5
  | r y=>exact this y e5
  | p y=>exact this y e5.1
  | xh=>cases o
  | u _ _=>cases o
 exact⟨(Stp.refl _ _ _ _).side hA,R.side g1 no,upd_same,g1,no,q,rfl,fun _ _=>rfl⟩
theorem LcI.item {σ:St} {G1 H1 G' H':Hp} {ρ1 ρ':Env} {js:List Nat} {A:Addr} {accV:List V} {acc:List D} (I:LcI K σ G1 H1 ρ1 js A accV acc G' ρ' H') {G2 H2:Hp} (gr:Gro G' H' G2 H2):LcI K σ G1 H1 ρ1 js A accV acc G2 ρ' H2:=by
 refine⟨I.S.trans (gr.stp (σ:=σ) (ρ:=ρ')),I.R.gro gr,gr.h A _ I.h,?_,I.no,I.q.mono gr.g,I.len,I.same⟩;cases q:G2 A with
 | none=>rfl
 | some o=>
  rcases gr.gf A o q with z | z
  ·rw[I.g]at z;cases z
  ·rw[I.h]at z;cases z
theorem LcI.leave {σ σ2:St} {G1 H1 G2 H2 G3 H3:Hp} {ρ1 ρ' ρ2 ρ3:Env} {js ks:List Nat} {A:Addr} {accV O9:List V} {acc qkO:List D} (I:LcI K σ G1 H1 ρ1 js A accV acc G2 ρ' H2) (hA:H1 A=none) (hcl:clean ρ1 js=true) (hks:∀i∈ks,i∈js)
  (T:Tg ks (wipe σ js) σ2 (Vz ρ' js) ρ2) (S4:Stp σ2 ρ2 G2 (jh A H2) σ2 ρ3 G3 (jh A H3)) (R4:Rel K σ2 G3 (jh A H3) ρ3) (h3:H3 A=some (.lst O9)) (g3:G3 A=none) (q3:DqA K G3 O9 qkO) :
  LcI K σ G1 H1 ρ1 js A O9 qkO G3 (X6 ρ1 ρ3 js) H3:=by
 have R2:Rel K σ G2 (jh A H2) ρ':=I.R.outD I.g I.no;have S2:Stp σ ρ1 G1 H1 σ ρ' G2 (jh A H2):=I.S.outD hA;obtain⟨S5,R5⟩:=Rel.turn R2 I.len I.same hcl ks hks T S4 R4;have l3:ρ3.length=ρ1.length:=by
  have e1:=R4.len;have e2:=T.len;rw[wipe_length]at e2;have e3:=R2.len;have e4:=I.len;omega
 have no3:¬Own σ (X6 ρ1 ρ3 js) A:=fun⟨i,l,e1,o,e3⟩=>by
  obtain⟨v,e4,e5⟩:=R5.at_ i l e1;rw[e3]at e4;cases Option.some.inj (Option.some.inj e4);have:∀y,MOk K G3 (jh A H3) (.ref A) y→False:=fun y hm=>by
   obtain⟨a,ea,_,hn⟩:=hm.ref;cases ea;exact hn jf
  cases l with
  | d y=>cases o
  | m y=>exact this y e5
  | r y=>exact this y e5
  | p y=>exact this y e5.1
  | xh=>cases o
  | u _ _=>cases o
 have S6:=(S2.trans S5).side (o:=.lst O9) hA;have R6:=R5.side (o:=.lst O9) g3 no3;rw[jg h3]at S6 R6;exact⟨S6,R6,h3,g3,no3,q3,by rw[Ul];exact l3,fun i hi=>Me l3 hi⟩
end DL
namespace DL
open PySem PySem.Spec PyProof.Rows L2
def qeP:D→D→Option D
 | .int i,.int j=>some (.int (i+j))
 | _,_=>none
theorem Bg {X:Cx}:PIp X .Add (rD2 X.K qeP):=by
 intro pins s σ H x y v u Q I rx ry h;obtain⟨G,a,b,d,sG,va,vb,e,q⟩:=h;unfold qeP at e;split at e
 ·cases Option.some.inj e;rw[va.int]at rx;rw[vb.int]at ry;exact ip_add pins s σ H _ _ v u Q I rx ry ⟨_,_,rfl,rfl,J7 sG q⟩
 ·cases e
def eFr (m:EM):EM:=fun ρ=>bindR (m ρ) fun x ρ1=>match fz ρ1 x with
 | some (d,ρ2)=>.ok (.d d) ρ2
 | none=>.bad
theorem qoz {K:Kx} {W:WX} {t:TE} {m:EM} (ht:Yx K W t m):Yx K W t (eFr m):=fun σ G H ρ R Q h=>by
 unfold eFr bindR at h;refine ht.fst R (fun x ρ1 e u G1 H1 S1 R1 x1=>?_) (fun e ρ1 q=>by rw[q]at h;exact h) (fun q=>by rw[q]at h;exact h);rw[e]at h;have h:=EPost.step S1 h;simp only at h;split at h
 ·rename_i d ρ2 e2;obtain⟨G2,S2,R2,q2⟩:=Bk R1 x1 e2;exact h _ _ _ S2 R2 q2
 ·exact h.elim
section
variable {X:Cx} {xa:Option XA} {W:WX} {e elt iter qtg tg tg1:Expr} {m:EM} {pos p':Pos} {x:Str} {i:Nat} {im im1:IM} {gm gm1:GM} {scope:Scope}
theorem qjD (h:JE X xa W e m):JE X xa W e (eFr m):=let ⟨t,h1,h2⟩:=h;⟨t,h1,qoz h2⟩
theorem A6 {op:Operator} {g:D→D→Option D} (hN:X.N.Nodup) (ho:PIp X op (rD2 X.K g)) (h:JE X xa W e m) (hi:X.N[i]?=some x:=by rfl) (hx:Loc X.env.scope x:=by first | exact .inl rfl | exact .inr rfl) (hf:X.fn x=true∨X.env.scope.names.lookup x=some .local:=by first | exact .inl rfl | exact .inr rfl | assumption) :
  JS X xa W (.AugAssign (.Name x p') op e pos) (qdN i g m):=let ⟨_,a,b⟩:=h;⟨_,ps_aug hN hi hx a ho hf,qid b⟩
def iOf (K:Kx) (W:WX) (m:IM):TI:=fun σ H Q=>∃G ρ,Rel K σ G H ρ∧F1 K W σ G H ρ Q (m ρ)
theorem JI.can {tg e:Expr} {m:IM} (h:JI X xa W tg e m):PI X tg e (iOf ⟨X.K,xa⟩ W m):=by
 obtain⟨t,h1,h2⟩:=h;exact⟨fun pins s σ H Q I ⟨G,ρ,R,hp⟩=>h1.run pins s σ H Q I (h2 σ G H ρ R Q hp)⟩
end
end DL
namespace L2
open PySem PySem.Spec PyProof.Rows HT
section
variable {pg:Program} {wd:World} {Ar:Around} {Ex:Value→Shared→Prop} {st:Shared}
theorem yf {sl:Addr} {v:Value} {n:Nat} {Qq:Int×Int×Nat→Shared→Prop} (hs:st.heap.IsSliceOf sl .none .none v) (pv:IsPart v (some (-1))) (k:Qq ((n:Int)-1,-1,n) st) :
  wpAny (model pg wd) Ar (Builtin.Slice.sliceApplied (.ref sl) (pure (n:Int))) Qq Ex st:=by
 obtain⟨ob,hos,hcs,hds⟩:=id hs;unfold Builtin.Slice.sliceApplied Builtin.Slice.sliceFields;refine wpAny_bind (wpAny_bind (wpAny_field hos hds (x:=Value.none) rfl (wpAny_bind (wpAny_field hos hds (x:=Value.none) rfl (wpAny_bind (wpAny_field hos hds (x:=v) rfl (wpAny_pure ?_)))))));refine wpAny_bind (slicePart_ pv ?_);show wpAny _ _ (if ((-1:Int) == 0)=true then _ else _) _ _ st;rw[if_neg (by decide)];refine wpAny_bind (slicePart_none (wpAny_bind (slicePart_none (wpAny_bind (wpAny_pure ?_)))));have e:Builtin.Slice.slicePlaces ((n:Int)-1) (-1) (-1)=n:=by
  unfold Builtin.Slice.slicePlaces;rw[if_neg (by decide)];by_cases q:(n:Int)-1 > -1
  ·rw[if_pos q,show (- -1:Int)=1 by decide,Int.ediv_one];omega
  ·rw[if_neg q];omega
 show wpAny _ _ (pure ((n:Int)-1,(-1:Int),Builtin.Slice.slicePlaces ((n:Int)-1) (-1) (-1))) _ _ st;rw[e];exact wpAny_pure k
theorem qc3 {α β:Type} {f g:α→Option β}:∀{l:List α},(∀x∈l,f x=g x)→l.filterMap f=l.filterMap g
 | [],_=>rfl
 | x::l,h=>by
  rw[List.filterMap_cons,List.filterMap_cons,h x List.mem_cons_self,qc3 fun y hy=>h y (List.mem_cons_of_mem _ hy)]
theorem qb4 (xs:Array Value):((List.range xs.size).filterMap fun (m:Nat)=>xs[((xs.size:Int)-1+(m:Int)*(-1)).toNat]?).toArray=xs.toList.reverse.toArray:=by
 have h:=PySem.W.krv_all xs;rw[← h,← List.filterMap_reverse,← PySem.W.krv_range,List.filterMap_map];congr 1;refine qc3 fun m hm=>?_;have hm:m<xs.size:=by simpa using hm
 show xs[((xs.size:Int)-1+(m:Int)*(-1)).toNat]?=xs[xs.size-1-m]?;rw[show ((xs.size:Int)-1+(m:Int)*(-1)).toNat=xs.size-1-m by omega]
theorem qfF {t sl:Addr} {its:Array Value} {v:Value} {Qq:Value→Shared→Prop} (ht:IsTup st.heap t its) (hs:st.heap.IsSliceOf sl .none .none v) (pv:IsPart v (some (-1)))
  (k:Qq (.ref st.heap.objs.size) { st with heap:=st.heap.push { cls:=.type "tuple",data:=.seq its.toList.reverse.toArray } }) (hz:its.size≤sizeLine):wpAny (model pg wd) Ar (getItem (.ref t) (.ref sl)) Qq Ex st:=by
 have hk:sizeOk (.seq its.toList.reverse.toArray):=by
  show its.toList.reverse.toArray.size≤sizeLine;rw[List.size_toArray,List.length_reverse,Array.length_toList];exact hz
 obtain⟨ob,hos,hcs,hds⟩:=id hs;have tS:st.TypeIs (.ref sl) "slice":=⟨ob,hos,hcs⟩;unfold getItem;try with_reducible refine wpAny_holding ?_
 first | refine wpAny_bind (wpAny_pure ?_) | skip
 refine wpAny_bind (wpAny_sequenceKey ht.typeIs (by decide) ?_);refine wpAny_bind (wpAny_callSpecial?_slot (name:=Str.ofString "__getitem__") ht.typeIs PyProof.Rows.slot_tuple_getitem (wpAny_call_entry PyProof.Rows.slot_tuple_getitem ht.typeIs entry_tuple_getitem ?_ (args_tuple_getitem _ _)));show wpAny _ _ (Builtin.Tuple.tupleItemsOf (.ref t) >>= _) _ _ st;refine wpAny_bind (tupleItemsOf_ ht (wpAny_bind (wpAny_typeOf tS ?_)));rw[if_pos (by decide)];refine wpAny_bind (yf hs pv ?_);have no:¬((((its.size:Int)-1) == 0 && (-1:Int) == 1 && its.size == its.size)=true):=by
  intro q;rw[Bool.and_eq_true,Bool.and_eq_true]at q;exact absurd q.1.2 (by decide)
 show wpAny _ _ (if (((its.size:Int)-1) == 0 && (-1:Int) == 1 && its.size == its.size)=true then _ else _) _ _ st;rw[if_neg no,qb4];first
  | exact wpAny_bind (m:=Builtin.Tuple.tupleExact _) (wpAny_newObj_type (wpAny_pure ⟨_,rfl,wpAny_pure k⟩) hk)
  | exact wpAny_bind (m:=Builtin.Tuple.tupleExact _) (wpAny_newObj_type (wpAny_bind (wpAny_pure (wpAny_pure ⟨_,rfl,wpAny_pure k⟩))) hk)
  | exact wpAny_bind (wpAny_bind (m:=Builtin.Tuple.tupleExact _) (wpAny_newObj_type (wpAny_pure (wpAny_pure ⟨_,rfl,wpAny_pure k⟩)) hk))
  | exact wpAny_bind (wpAny_bind (m:=Builtin.Tuple.tupleExact _) (wpAny_newObj_type (wpAny_pure ⟨_,rfl,wpAny_pure k⟩) hk))
end
end L2
namespace DL
open PySem PySem.Spec PyProof.Rows L2
def qmM (K:PySem.W.Frag) (Q:VK) (x:V):Option Int→Hp→Prop:=fun o H2=>o=some (-1)∧((∃a xs,x=.ref a∧SqL K H2 a xs∧∀p,H2 p=none→Q (.ref p) (upd H2 p (.lst xs.reverse)))∨(∃a xs,x=.ref a∧SqT K H2 a xs∧qhP H2 xs.reverse Q))
def qpA (K:PySem.W.Frag) (te:TE) (ts:TO):TE:=fun σ H Q=>te σ H fun x H1=>ts σ H1 (qmM K Q x)
theorem qiB {X:Cx} {e:Expr} {te:TE} {ts:TO} {stp:Expr} {p3 pos:Pos} (he:PE X e te) (hs:PO X (some stp) ts)
  (hst:∀a b,subscripted (.Slice none none (some stp) p3) false (.ref a) (.ref b)=operate [.ref a,.ref b] (getItem (.ref a) (.ref b)):=by intro _ _;with_unfolding_all rfl):PE X (.Subscript e (.Slice none none (some stp) p3) pos) (qpA X.K te ts):=by
 refine⟨fun pins s σ H Q I h=>?_⟩;refine Subscript_ (thn (he.run pins s σ H _ I h) fun v s1 ⟨x,H1,I1,r1,q1⟩=>?_);refine wpAny_Slice (thn ((po_none (X:=X)).run pins s1 σ H1 (fun o H2=>o=none∧ts σ H2 (qmM X.K Q x)) I1 ⟨rfl,q1⟩) fun vl s2 ⟨l,H2,I2,pl,el,q2⟩=>?_);subst el;refine thn ((po_none (X:=X)).run pins s2 σ H2 (fun o H3=>o=none∧ts σ H3 (qmM X.K Q x)) I2 ⟨rfl,q2⟩) fun vu s3 ⟨u,H3,I3,pu,eu,q3⟩=>?_;subst eu;refine thn (hs.run pins s3 σ H3 _ I3 q3) fun vs s4 ⟨o,H4,I4,ps,eo,q⟩=>?_;subst eo;cases pl;cases pu;have I5:Inv X pins σ H4 { s4 with heap:=s4.heap.push { cls:=.type "slice",data:=.fields #[.none,.none,vs] } }:=I4.kept (t':=s4.toks) fun b ob q=>Heap.get?_push_of_some _ q;rcases q with ⟨a,xs,rfl,hx,q⟩ | ⟨a,xs,rfl,hx,q⟩
 ·cases r1;obtain⟨its,r,ht,hz⟩:=I5.list hx;have hlen:=r.length;show wpAny (model X.prog X.w) X.A (subscriptTail e (.Slice none none (some stp) p3) (.ref a) (.ref s4.heap.objs.size)) (EP X pins σ Q) X.xe { s4 with heap:=s4.heap.push { cls:=.type "slice",data:=.fields #[.none,.none,vs] } };refine tail_any (ops:=[.ref a,.ref s4.heap.objs.size]) ht.isList.typeIs (PySem.slot_list_getitem.lookup) ?_ (hst _ _);refine wpAny_getItem_list_slice ht.isList (Heap.IsSliceOf.new _ .none .none vs) .none .none ps (by decide) ?_ (by rw[List.size_toArray];omega);rw[PySem.W.krv_pick];refine⟨.ref _,_,I5.laid (t':=s4.toks) (o:=.lst xs.reverse) (fun b ob q=>Heap.get?_push_of_some _ q) (Nat.le_refl _) ?_,rfl,q _ (I5.hok.fresh (Nat.le_refl _))⟩;exact⟨by rw[List.length_reverse];exact hz,_,0,by simpa using r.reverse,Heap.get?_push_size _ rfl⟩
 ·cases r1;obtain⟨its,r,ht,hz⟩:=I5.tuple hx;have hlen:=r.length;show wpAny (model X.prog X.w) X.A (subscriptTail e (.Slice none none (some stp) p3) (.ref a) (.ref s4.heap.objs.size)) (EP X pins σ Q) X.xe { s4 with heap:=s4.heap.push { cls:=.type "slice",data:=.fields #[.none,.none,vs] } };refine tail_any (ops:=[.ref a,.ref s4.heap.objs.size]) ht.typeIs (PyProof.Rows.slot_tuple_getitem.lookup) ?_ (hst _ _);refine qfF ht (Heap.IsSliceOf.new _ .none .none vs) ps ?_ (by rw[List.size_toArray];omega);refine⟨.ref _,_,I5.laid (t':=s4.toks) (fun b ob q=>Heap.get?_push_of_some _ q) (Nat.le_refl _) ?_,rfl,q _ (tOb its.toArray.toList.reverse.toArray) rfl (I5.hok.fresh (Nat.le_refl _))⟩;exact⟨Heap.get?_push_size _ rfl,by rw[List.length_reverse];exact hz,_,by simpa using r.reverse,⟨_,Heap.get?_push_size _ rfl,rfl,_,rfl⟩⟩
def rvE (o:Option D) (st:Option Int) (ρ:Env):Res X:=match o with
 | some (.lst ds)=>if st=some (-1) then .ok (.d (.lst ds.reverse)) ρ else .bad
 | some (.ro ds)=>if st=some (-1) then .ok (.d (.lst ds.reverse)) ρ else .bad
 | some (.tup ds)=>if st=some (-1) then .ok (.d (.tup ds.reverse)) ρ else .bad
 | _=>.bad
def qep (x:X):Option Int→Env→Res X:=fun st ρ2=>rvE (look ρ2 x) st ρ2
def qeq (ms:OM):X→Env→Res X:=fun x ρ1=>bindR (ms ρ1) (qep x)
def qfr (ma:EM) (ms:OM):EM:=fun ρ=>bindR (ma ρ) (qeq ms)
theorem DqA.rev {K:PySem.W.Frag} {G:Hp}:∀{xs:List V} {ds:List D},DqA K G xs ds→DqA K G xs.reverse ds.reverse
 | _,_,.nil=>.nil
 | _,_,.cons q t=>by
  rw[List.reverse_cons,List.reverse_cons];exact (DqA.rev t).append (.one q)
theorem qj9 {K:Kx} {W:WX} {ta:TE} {ts:TO} {ma:EM} {ms:OM} (ha:Yx K W ta ma) (hs:qdH K W ts ms):Yx K W (qpA K ta ts) (qfr ma ms):=fun σ G H ρ R Q h=>by
 unfold qfr bindR at h;refine ha.fst R (fun x ρ1 e v G1 H1 S1 R1 x1=>?_) (fun e ρ1 q=>by rw[q]at h;exact h) (fun q=>by rw[q]at h;exact h);rw[e]at h;have h:=EPost.step S1 h;simp only at h;unfold qeq bindR at h;refine hs.fst R1 (fun st ρ4 e4 G4 H4 S4 R4=>?_) (fun e ρ1 q=>by rw[q]at h;exact h) (fun q=>by rw[q]at h;exact h);rw[e4]at h;have h:=EPost.step S4 h;simp only at h;unfold qep rvE at h;split at h
 ·rename_i ds ea;split at h
  ·rename_i es;have q:=Xn R4 (x1.mono S4.g) ea;obtain⟨a,xs,rfl,h1,h2⟩:=Mc R4.same q (ds:=ds) rfl;refine⟨es,.inl ⟨a,xs,rfl,h1,fun p hp=>?_⟩⟩;have g:=Gro.new (o:=.lst xs.reverse) R4.same hp;exact h _ _ _ g.stp (R4.gro g) (.lst upd_same (h2.rev.mono g.g))
  ·exact h.elim
 ·rename_i ds ea;split at h
  ·rename_i es;have q:=Xn R4 (x1.mono S4.g) ea;obtain⟨a,xs,rfl,h1,h2⟩:=Mc R4.same q (ds:=ds) rfl;refine⟨es,.inl ⟨a,xs,rfl,h1,fun p hp=>?_⟩⟩;have g:=Gro.new (o:=.lst xs.reverse) R4.same hp;exact h _ _ _ g.stp (R4.gro g) (.lst upd_same (h2.rev.mono g.g))
  ·exact h.elim
 ·rename_i ds ea;split at h
  ·rename_i es;have q:=Xn R4 (x1.mono S4.g) ea;obtain⟨a,xs,rfl,h1,h2⟩:=q.tup;refine⟨es,.inr ⟨a,xs,rfl,(Same.seqN R4.same h1).sq,fun p o ho hp=>?_⟩⟩;have g:=Gro.new (o:=.frz o (.tup xs.reverse)) R4.same hp;exact h _ _ _ g.stp (R4.gro g) (.tup (.inl ⟨o,upd_same,ho⟩) (h2.rev.mono g.g))
  ·exact h.elim
 ·exact h.elim
theorem qfb {X:Cx} {xa:Option XA} {W:WX} {a st:Expr} {p2 pos:Pos} {ma:EM} {os:OM} (ha:JE X xa W a ma) (hs:JO X xa W (some st) os)
  (hst:∀a b,subscripted (.Slice none none (some st) p2) false (.ref a) (.ref b)=operate [.ref a,.ref b] (getItem (.ref a) (.ref b)):=by intro _ _;with_unfolding_all rfl):JE X xa W (.Subscript a (.Slice none none (some st) p2) pos) (qfr ma os):=
 let ⟨_,h1,h2⟩:=ha;let ⟨_,h7,h8⟩:=hs;⟨_,qiB h1 h7 hst,qj9 h2 h8⟩
end DL
namespace DL
open PySem L2
section
variable {ρ ρ1 ρ2 ρ3 ρ4:Env} {e:Exn} {i j:Int} {a b d:D} {ds es:List D} {x:X}
@[simp] theorem qsd:qeP (.int i) (.int j)=some (.int (i+j)):=(rfl)
def frE:Option (D×Env)→Res X
 | some (d,ρ2)=>.ok (.d d) ρ2
 | none=>.bad
def kFr:X→Env→Res X:=fun x ρ1=>frE (fz ρ1 x)
@[simp] theorem qrX {m:EM}:eFr m ρ=bindR (m ρ) kFr:=by
 unfold eFr;congr 1
@[simp] theorem qre:kFr x ρ=frE (fz ρ x):=(rfl)
@[simp] theorem qrE:frE (some (d,ρ))=.ok (.d d) ρ:=(rfl)
@[simp] theorem qoG {ma:EM} {ms:OM}:qfr ma ms ρ=bindR (ma ρ) (qeq ms):=(rfl)
@[simp] theorem qlx {ms:OM}:qeq ms x ρ=bindR (ms ρ) (qep x):=(rfl)
@[simp] theorem qlw {st:Option Int}:qep x st ρ=rvE (look ρ x) st ρ:=(rfl)
@[simp] theorem qsz:rvE (some (.tup ds)) (some (-1)) ρ=.ok (.d (.tup ds.reverse)) ρ:=(rfl)
end
end DL
namespace DL
open PySem PySem.Spec PyProof.Rows L2
structure PMs (X:Cx) (cs:List MatchCase) (t:V→TS):Prop where
 run:∀(first:Bool) (pins:List (Addr×Obj)) (s:Shared) (σ:L2.St) (H:Hp) (D:Ends) (v:V) (u:Value),Inv X pins σ H s→RelV v u→t v D σ H→wpAny (model X.prog X.w) X.A (matchCases cs X.env u first) (SP X pins D) X.xe s
section
variable {X:Cx}
def qdW (K:PySem.W.Frag) (x:Str) (tb:TS) (tr:V→TS):V→TS:=fun v D σ H=>rD2 K eqD v (.str x) H fun w H1=>∃b,w=.bl b∧if b=true then tb D σ H1 else tr v D σ H1
theorem qix {x:Str} {j} {p p2:Pos} {body:List Stmt} {rest:List MatchCase} {tb:TS} {tr:V→TS} (hu:X.A.units+64<cLine) (hb:PSs X body tb) (hr:PMs X rest tr):PMs X (⟨.MatchValue (.Constant (.str x) j p) p2,none,body⟩::rest) (qdW X.K x tb tr):=by
 refine⟨fun first pins s σ H D v u I r h=>?_⟩;refine wpAny_matchCases_cons (wpAny_matchPattern_Value ?_);refine thn ((pe_str (X:=X) (x:=x) (j:=j) (pos:=p)).run pins s σ H (fun w H1=>w=.str x∧H1=H) I ⟨rfl,rfl⟩) fun xv s1 ⟨w,H1,I1,r1,ew,eH⟩=>?_;subst ew eH;refine thn (Zl hu pins s1 σ H1 v (.str x) u xv _ I1 r r1 h) fun c s2 ⟨w2,H2,I2,r2,b,ew2,q⟩=>?_;subst ew2;cases r2;refine wpAny_truthy_bool ?_;cases b with
 | true=>exact wpAny_pure (hb.run pins s2 σ H2 D I2 q)
 | false=>exact hr.run false pins s2 σ H2 D v u I2 r q
def qh3 (tb:TS):V→TS:=fun _=>tb
theorem qiy {p:Pos} {body:List Stmt} {rest:List MatchCase} {tb:TS} (hb:PSs X body tb):PMs X (⟨.MatchAs none none p,none,body⟩::rest) (qh3 tb):=by
 refine⟨fun first pins s σ H D v u I r h=>?_⟩;refine wpAny_matchCases_cons (wpAny_matchPattern_Capture ?_);exact wpAny_pure (hb.run pins s σ H D I h)
def qeT (te:TE) (t:V→TS):TS:=fun D σ H=>te σ H fun v H1=>t v D σ H1
theorem qd7 {e:Expr} {te:TE} {cs:List MatchCase} {t:V→TS} {pos:Pos} (he:PE X e te) (hc:PMs X cs t):PS X (.Match e cs pos) (qeT te t):=by
 refine⟨fun pins s σ H D I h=>?_⟩;exact wpAny_Match (thn (he.run pins s σ H _ I h) fun u s1 ⟨v,H1,I1,r1,q⟩=>hc.run true pins s1 σ H1 D v u I1 r1 q)
end
def qbA (n:Nat) (F:List L→FRes) (xs:List X) (ρ1:Env):Res X:=match Xf ρ1 xs with
 | none=>.bad
 | some as=>if xs.length=n∧(slots xs).Nodup then (match F as with
  | .ok (.d x) bs=>.ok (.d x) (Yp ρ1 xs as bs)
  | .ok (.m x) bs=>.ok (.d x) (Yp ρ1 xs as bs)
  | .ok _ _=>.bad
  | .ex e bs=>.ex e (Yp ρ1 xs as bs)
  | .bad=>.bad) else .bad
theorem yv {K:Kx} {W:WX} {n:Nat} {F:List L→FRes} {σ:L2.St} {G1 H1:Hp} {ρ1:Env} {vs:List V} {xs:List X} {Q:VK} (R1:Rel K σ G1 H1 ρ1) (x1:Tx K σ G1 vs xs) (h:EPost K W σ G1 H1 ρ1 Q (qbA n F xs ρ1)):spF K.k n F vs H1 Q (WE W σ):=by
 unfold qbA at h;split at h
 ·exact h.elim
 ·rename_i as ea;split at h
  ·rename_i hnn;have hnd:=hnn.2;refine⟨x1.len.trans hnn.1,G1,as,z6 R1 x1 ea hnd,?_⟩;cases eF:F as with
   | bad=>rw[eF]at h;exact h
   | ex x bs=>
    rw[eF]at h;intro c d G' H' S' R' q;obtain⟨a,b,_⟩:=Li R1 x1 ea hnd S' R';exact h c d G' H' a b q
   | ok l bs=>
    rw[eF]at h;intro v G' H' S' R' q;obtain⟨a,b,o⟩:=Li R1 x1 ea hnd S' R';cases l with
    | d x=>exact h v G' H' a b q
    | m x=>
     have F:Frs K σ H1 (Yp ρ1 xs as bs) G' H' v x:=⟨q.1,fun a ea=>⟨q.2 a ea,fun z=>Own.there R1 (o a z) (q.2 a ea)⟩⟩;obtain⟨G2,S2,R2,q2⟩:=Frs.lock a b F;exact h v G2 H' S2 R2 q2
    | r x=>exact h.elim
    | p x=>exact h.elim
    | xh=>exact h.elim
    | u _ _=>exact h.elim
  ·exact h.elim
structure MEnt (P:Program) (w:World) (K:PySem.W.Frag) (mg:Str→Option Value) (base:Heap) (k:Nat) (m:Str) (n:Nat) (C:Str) (R:List L→FRes):Prop where
 ex:∃f fd ps,Cls K (cA K C)∧Meth K (cA K C) m f∧FnOk P w K mg base (L2.CX P w) k f fd ps (spF K n R)∧Binds K fd ps []
def v8 (P:Program) (w:World) (K:PySem.W.Frag) (mg:Str→Option Value) (base:Heap) (k:Nat) (m:Str) (n:Nat) (tb:MTb):Prop:=∀q∈tb,MEnt P w K mg base k m n q.1 q.2
theorem F6 {P:Program} {w:World} {K:PySem.W.Frag} {mg:Str→Option Value} {base:Heap} {k:Nat} {m:Str} {n:Nat}:v8 P w K mg base k m n []:=fun _ h=>nomatch h
theorem C1 {P:Program} {w:World} {K:PySem.W.Frag} {mg:Str→Option Value} {base:Heap} {k:Nat} {m:Str} {n:Nat} {C:Str} {R:List L→FRes} {tb:MTb} (h:MEnt P w K mg base k m n C R) (t:v8 P w K mg base k m n tb):v8 P w K mg base k m n ((C,R)::tb):=fun q hq=>by
 rcases List.mem_cons.mp hq with rfl | hq
 ·exact h
 ·exact t q hq
theorem F7 {tb:MTb} {C:Str} {R:List L→FRes} (h:tb.lookup C=some R):(C,R)∈tb:=by
 induction tb with
 | nil=>cases h
 | cons q tb ih=>
  obtain⟨D,S⟩:=q;unfold List.lookup at h;split at h
  ·rename_i e;cases Option.some.inj h;rw[eq_of_beq e];exact List.mem_cons_self
  ·exact List.mem_cons_of_mem _ (ih h)
def qbJ (K:PySem.W.Frag) (m:Str) (n:Nat) (tb:MTb) (E:L2.St→XK) (ta:TE) (t:TA):TE:=fun σ H Q=>ta σ H fun x H1=>∃a C R dx fs,x=.ref a∧H1 a=some (.ins (cA K C) dx fs)∧fs.lookup m=none∧tb.lookup C=some R∧t σ H1 fun vs H2=>spF K n R (x::vs) H2 Q (E σ)
section
variable {X:Cx} {xa:Option XA} {W:WX} {o e:Expr} {es:List Expr} {m:Str} {apos pos:Pos} {n k:Nat} {tb:MTb} {E:L2.St→XK} {ta:TE} {t:TA}
theorem qd9 {pl:Sem Bool} (he:PE X o ta) (T:v8 X.prog X.w X.K X.mg X.base k m n tb) (hr:Room k X.A) (hx:∀σ,PassesAt (L2.CX X.prog X.w) X σ (E σ)) (ha:PA X (e::es) t)
  (hst:starEach (e::es) X.env=(false,eval e X.env)::starEach es X.env:=by rfl) (hpl:(backTo pos (starEach es X.env)).any (·.1)=false:=by rfl)
  (ht:eval (.Call (.Attribute o m apos) (e::es) [] pos) X.env=(do
   let ov ← eval o X.env
   standAt apos.atName
   let (f,first) ← holding [ov] (getMethod ov m pl)
   callWith pos f first (backTo pos (starEach (e::es) X.env)) (backToKw pos (keywordEach [] X.env))):=by rfl) :
  PE X (.Call (.Attribute o m apos) (e::es) [] pos) (qbJ X.K m n tb E ta t):=by
 refine⟨fun pins s σ H Q I h=>?_⟩;refine PySem.W.methodCall_KW (pl:=pl) (thn (he.run pins s σ H _ I h) fun u s1 ⟨x,H1,I1,rx,a,C,R,dx,fs,ex,ea,l,eR,q⟩=>?_) ht;subst ex;obtain rfl:u=Value.ref a:=rx;obtain⟨f,fd,ps,hc,hm,F,hb⟩:=(T _ (F7 eR)).ex;refine getmeth_ok I1 ea hc hm l ?_;refine PySem.W.callWith_K (first:=[.ref a]) (h₀:=X.base) I.ok.mod.kin hm.kp (thn (ha.run pos pins s1 σ H1 _ I1 q) fun us s2 ⟨vs,H2,I2,r,q2⟩=>⟨I2.kIn,?_⟩) hst hpl;exact run_fnSD (us:=.ref a::us) (vs:=.ref a::vs) F hr hb .nil (hx σ) I2 (.cons rfl r) (by rw[List.append_nil];exact q2)
theorem qb8 {pl:Sem Bool} (he:PE X o ta) (T:v8 X.prog X.w X.K X.mg X.base k m n tb) (hr:Room k X.A) (hx:∀σ,PassesAt (L2.CX X.prog X.w) X σ (E σ))
  (ht:eval (.Call (.Attribute o m apos) [] [] pos) X.env=(do
   let ov ← eval o X.env
   standAt apos.atName
   let (f,first) ← holding [ov] (getMethod ov m pl)
   callWith pos f first (backTo pos (starEach [] X.env)) (backToKw pos (keywordEach [] X.env))):=by rfl) :
  PE X (.Call (.Attribute o m apos) [] [] pos) (qbJ X.K m n tb E ta tNil):=by
 refine⟨fun pins s σ H Q I h=>?_⟩;refine PySem.W.methodCall_KW (pl:=pl) (thn (he.run pins s σ H _ I h) fun u s1 ⟨x,H1,I1,rx,a,C,R,dx,fs,ex,ea,l,eR,q⟩=>?_) ht;subst ex;obtain rfl:u=Value.ref a:=rx;obtain⟨f,fd,ps,hc,hm,F,hb⟩:=(T _ (F7 eR)).ex;refine getmeth_ok I1 ea hc hm l ?_;exact PySem.W.callWith_K0 (first:=[.ref a]) I1.kIn hm.kp (run_fnSD (us:=[.ref a]) (vs:=[.ref a]) F hr hb .nil (hx σ) I1 (.cons rfl .nil) (by rw[List.append_nil];exact q))
end
def A0 (n:Nat) (R:List L→FRes) (x:X):List X→Env→Res X:=fun xs ρ2=>qbA n R (x::xs) ρ2
def qax (tb:MTb) (m:Str) (n:Nat) (am:AM):X→Env→Res X:=fun x ρ1=>match look ρ1 x with
 | some (.ins C fs)=>(match tb.lookup C,fs.lookup m with
  | some R,none=>bindR (am ρ1) (A0 n R x)
  | _,_=>.bad)
 | _=>.bad
def Aq (tb:MTb) (m:Str) (n:Nat) (ma:EM) (am:AM):EM:=fun ρ=>bindR (ma ρ) (qax tb m n am)
theorem DqF.lookN {K:PySem.W.Frag} {G:Hp} {m:Str}:∀{vs:List (Str×V)} {ds:List (Str×D)},DqF K G vs ds→ds.lookup m=none→vs.lookup m=none
 | _,_,.nil,_=>rfl
 | _,_,.cons (k:=k) _ t,e=>by
  unfold List.lookup at e ⊢;split at e
  ·cases e
  ·exact DqF.lookN t e
theorem qaE {K:Kx} {W:WX} {tb:MTb} {m:Str} {n:Nat} {ta:TE} {t:TA} {ma:EM} {am:AM} (ha:Yx K W ta ma) (hb:Bx K W t am):Yx K W (qbJ K.k m n tb (WE W) ta t) (Aq tb m n ma am):=fun σ G H ρ R Q h=>by
 unfold Aq bindR at h;refine ha.fst R (fun x ρ1 e v G1 H1 S1 R1 x1=>?_) (fun e ρ1 q=>by rw[q]at h;exact h) (fun q=>by rw[q]at h;exact h);rw[e]at h;have h:=EPost.step S1 h;simp only at h;unfold qax at h;split at h
 ·rename_i C fs el;split at h
  ·rename_i Rr eR ef;have q:Vw K G1 H1 v (.ins C fs):=Xn R1 x1 el;obtain⟨_,_,_,rfl,q1,q2,q3⟩:=q;refine⟨_,C,Rr,_,_,rfl,q1,DqF.lookN q3 ef,eR,?_⟩;unfold bindR at h;refine hb.fst R1 (fun xs ρ2 e2 vs G2 H2 S2 R2 x2=>?_) (fun e ρ1 q=>by rw[q]at h;exact h) (fun q=>by rw[q]at h;exact h);rw[e2]at h;exact yv R2 (.cons (x1.mono S2.g) x2) (EPost.step S2 h)
  ·exact h.elim
 ·exact h.elim
theorem F9 {X:Cx} {xa:Option XA} {W:WX} {o e:Expr} {es:List Expr} {m:Str} {apos pos:Pos} {n k:Nat} {tb:MTb} {ma:EM} {am:AM} (pl:Sem Bool) (T:v8 X.prog X.w X.K X.mg X.base k m n tb) (hr:Room k X.A) (tk:Takes X W) (ho:JE X xa W o ma) (ha:JA X xa W (e::es) am)
  (hst:starEach (e::es) X.env=(false,eval e X.env)::starEach es X.env:=by rfl) (hpl:(backTo pos (starEach es X.env)).any (·.1)=false:=by rfl)
  (ht:eval (.Call (.Attribute o m apos) (e::es) [] pos) X.env=(do
   let ov ← eval o X.env
   standAt apos.atName
   let (f,first) ← holding [ov] (getMethod ov m pl)
   callWith pos f first (backTo pos (starEach (e::es) X.env)) (backToKw pos (keywordEach [] X.env))):=by rfl):JE X xa W (.Call (.Attribute o m apos) (e::es) [] pos) (Aq tb m n ma am):=
 let ⟨_,h1,h2⟩:=ho;let ⟨_,h3,h4⟩:=ha;⟨_,qd9 (pl:=pl) h1 T hr (fun σ=>passAt tk σ) h3 hst hpl ht,qaE h2 h4⟩
theorem qcO {X:Cx} {xa:Option XA} {W:WX} {o:Expr} {m:Str} {apos pos:Pos} {n k:Nat} {tb:MTb} {ma:EM} (pl:Sem Bool) (T:v8 X.prog X.w X.K X.mg X.base k m n tb) (hr:Room k X.A) (tk:Takes X W) (ho:JE X xa W o ma)
  (ht:eval (.Call (.Attribute o m apos) [] [] pos) X.env=(do
   let ov ← eval o X.env
   standAt apos.atName
   let (f,first) ← holding [ov] (getMethod ov m pl)
   callWith pos f first (backTo pos (starEach [] X.env)) (backToKw pos (keywordEach [] X.env))):=by rfl):JE X xa W (.Call (.Attribute o m apos) [] [] pos) (Aq tb m n ma Qr):=
 let ⟨_,h1,h2⟩:=ho;⟨_,qb8 (pl:=pl) h1 T hr (fun σ=>passAt tk σ) ht,qaE h2 qaP⟩
structure FnM (P:Program) (w:World) (K:PySem.W.Frag) (mg:Str→Option Value) (base:Heap) (k:Nat) (C m:Str) (n:Nat) (R:List L→FRes):Prop where
 ex:∃fd ps,FnOk P w K mg base (L2.CX P w) k (maA K C m) fd ps (spF K n R)∧Binds K fd ps []
theorem qh {P:Program} {w:World} {K:PySem.W.Frag} {mg:Str→Option Value} {base:Heap} {j k:Nat} {C C2 m:Str} {n:Nat} {R:List L→FRes} (c:Cls K (cA K C)) (h:Meth K (cA K C) m (maA K C2 m)) (F:FnM P w K mg base j C2 m n R) (hj:j≤k):MEnt P w K mg base k m n C R:=by
 obtain⟨fd,ps,F,hb⟩:=F.ex;exact⟨⟨_,fd,ps,c,h,F.mono hj,hb⟩⟩
theorem FnM.mono {P:Program} {w:World} {K:PySem.W.Frag} {mg:Str→Option Value} {base:Heap} {j k:Nat} {C m:Str} {n:Nat} {R:List L→FRes} (F:FnM P w K mg base j C m n R) (hj:j≤k):FnM P w K mg base k C m n R:=by
 obtain⟨fd,ps,F,hb⟩:=F.ex;exact⟨⟨fd,ps,F.mono hj,hb⟩⟩
theorem Oo {P:Program} {w:World} {K:PySem.W.Frag} {mg:Str→Option Value} {base:Heap} {C m x qual:Str} {st:Stmt} {N ps:List Str} {k:Nat} {body:SM} (F:∃fd,FunD K x qual (defArgs st) (defBody st) (defScope st) [] [] (maA K C m) fd) (S:FnScope N ps (defScope st))
  (hbind:∀(kV doc pm:Value) (an:Option Addr) (cdv ct:Value) (us:List Value),us.length=ps.length→bindArgs (PySem.W.fnOf x qual (defArgs st) (defBody st) (defScope st) .none kV doc pm an cdv ct) ⟨us,[]⟩=pure (ps.zip us))
  (hb:∀(cdv:Value) (A:Around) (outer:List PySem.Env) (s:Shared) (H:Hp) (E:XK),Room k (A.deeper (envOfC qual (defScope st) s.heap.objs.size (maA K C m) cdv))→
   JSs (cxOf (L2.CX P w) P w K mg base N qual (defScope st) (maA K C m) cdv A outer s H E) none (fun cls d _ H=>E cls d H) (defBody st) body) :
  FnM P w K mg base (k+1) C m ps.length (Ze N.length body):=by
 obtain⟨fd,F⟩:=F;exact⟨⟨fd,ps,fn_ok (Ml F) S hb,(Ml F).binds hbind⟩⟩
theorem Bp {K:PySem.W.Frag} {C:Str} (q:qhl K C=true):Cls K (cA K C):=by
 unfold qhl at q;simp only[Bool.and_eq_true]at q;exact⟨q.1,q.2.1,q.2.2.1,He.eqO_ok q.2.2.2⟩
theorem E9 {K:PySem.W.Frag} {C m C2:Str} (q:qli K C m C2=true):Meth K (cA K C) m (maA K C2 m):=by
 unfold qli at q;simp only[Bool.and_eq_true]at q;exact⟨He.eqO_ok q.1,q.2.1,q.2.2⟩
def qkQ (K:Kx) (W:WX) (t:V→TS) (m:D→SM):Prop:=∀v d σ G H ρ,Rel K σ G H ρ→Dq K G v d→∀D,J0 K W σ G H ρ D (m d ρ)→t v D σ H
def mcL (o:Option Bool) (mb mr:SM):SM:=fun ρ=>match o with
 | some true=>mb ρ
 | some false=>mr ρ
 | none=>.bad
def Np (x:Str) (mb:SM) (mr:D→SM):D→SM:=fun d=>mcL (eqB d (.str x)) mb (mr d)
def qbc (mb:SM):D→SM:=fun _=>mb
section
variable {K:Kx} {W:WX}
theorem qiT {tb:TS} {mb:SM} (hb:Di K W tb mb):qkQ K W (qh3 tb) (qbc mb):=fun v d σ G H ρ R q D h=>hb σ G H ρ R D h
theorem qck {x:Str} {tb:TS} {tr:V→TS} {mb:SM} {mr:D→SM} (hb:Di K W tb mb) (hr:qkQ K W tr mr):qkQ K W (qdW K.k x tb tr) (Np x mb mr):=fun v d σ G H ρ R q D h=>by
 unfold Np mcL at h;cases e:eqB d (.str x) with
 | none=>rw[e]at h;exact h.elim
 | some c=>
  rw[e]at h;refine⟨G,d,.str x,.bl c,R.same,Dq.vw R.same q,Dq.vw R.same (.str x),by unfold eqD;rw[e];rfl,fun w G' H' g qw=>?_⟩;cases qw;refine⟨c,rfl,?_⟩;cases c with
  | true=>exact hb σ G' H' ρ (R.gro g) D (J0.step g.stp h)
  | false=>exact hr v d σ G' H' ρ (R.gro g) (q.mono g.g) D (J0.step g.stp h)
def qkv (ρ:Env):X→Option D
 | .d x=>some x
 | .s i=>match ρ[i]? with
  | some (some (.d x))=>some x
  | _=>none
def mtE (mc:D→SM) (o:Option D) (ρ:Env):Res Fl:=match o with
 | some d=>mc d ρ
 | none=>.bad
def kMt (mc:D→SM):X→Env→Res Fl:=fun x ρ1=>mtE mc (qkv ρ1 x) ρ1
def Lr (me:EM) (mc:D→SM):SM:=fun ρ=>bindR (me ρ) (kMt mc)
theorem qdZ {te:TE} {t:V→TS} {me:EM} {mc:D→SM} (he:Yx K W te me) (hc:qkQ K W t mc):Di K W (qeT te t) (Lr me mc):=fun σ G H ρ R D h=>by
 unfold Lr bindR at h;refine he.fst R (fun x ρ1 e v G1 H1 S1 R1 x1=>?_) (fun e ρ1 q=>by rw[q]at h;exact J0.x h) (fun q=>by rw[q]at h;exact h);rw[e]at h;have h:=J0.step S1 h;simp only at h;unfold kMt mtE at h;cases ed:qkv ρ1 x with
 | none=>rw[ed]at h;exact h.elim
 | some d=>
  rw[ed]at h;refine hc v d σ G1 H1 ρ1 R1 ?_ D h;cases x with
  | d y=>
   cases Option.some.inj ed;exact x1
  | s i=>
   unfold qkv at ed;simp only at ed;split at ed
   ·rename_i y hy;cases Option.some.inj ed;obtain⟨u,h1,h2⟩:=R1.at_ i _ hy;have hv:σ[i]?=some (some v):=x1;rw[hv]at h1;cases Option.some.inj (Option.some.inj h1);exact h2
   ·cases ed
end
def JM (X:Cx) (xa:Option XA) (W:WX) (cs:List MatchCase) (m:D→SM):Prop:=∃t,PMs X cs t∧qkQ ⟨X.K,xa⟩ W t m
section
variable {X:Cx} {xa:Option XA} {W:WX} {e:Expr} {m:EM} {pos p p2:Pos} {body:List Stmt} {rest:List MatchCase} {mb:SM} {mr:D→SM} {x:Str} {j:Nat}
theorem Sb (hu:X.A.units+64<cLine) (hb:JSs X xa W body mb) (hr:JM X xa W rest mr):JM X xa W (⟨.MatchValue (.Constant (.str x) j p) p2,none,body⟩::rest) (Np x mb mr):=
 let ⟨_,a,b⟩:=hb;let ⟨_,c,d⟩:=hr;⟨_,qix hu a c,qck b d⟩
theorem qcN (hb:JSs X xa W body mb):JM X xa W (⟨.MatchAs none none p,none,body⟩::rest) (qbc mb):=let ⟨_,a,b⟩:=hb;⟨_,qiy a,qiT b⟩
theorem qo {cs:List MatchCase} {mc:D→SM} (he:JE X xa W e m) (hc:JM X xa W cs mc):JS X xa W (.Match e cs pos) (Lr m mc):=let ⟨_,a,b⟩:=he;let ⟨_,c,d⟩:=hc;⟨_,qd7 a c,qdZ b d⟩
end
mutual
theorem qbH {K:PySem.W.Frag}:∀{d:D} {u:Value},qae K u d=true→∃v,RelV v u∧∀G,Dq K G v d
 | .non,u,h=>by
  unfold qae at h;have h:=of_decide_eq_true h;exact⟨.non,h,fun G=>.non⟩
 | .bl b,u,h=>by
  unfold qae at h;have h:=of_decide_eq_true h;exact⟨.bl b,h,fun G=>.bl b⟩
 | .int i,u,h=>by
  unfold qae at h;split at h
  ·rename_i j t;have h:=of_decide_eq_true h;subst h;exact⟨.int i,⟨t,rfl⟩,fun G=>.int i⟩
  ·cases h
 | .str x,u,h=>by
  unfold qae at h;split at h
  ·rename_i y t;have h:=of_decide_eq_true h;subst h;exact⟨.str x,⟨t,rfl⟩,fun G=>.str x⟩
  ·cases h
 | .tup ds,u,h=>by
  unfold qae at h;split at h
  ·rename_i a;split at h
   ·rename_i o ho;rw[Bool.and_eq_true]at h;obtain⟨h1,h2⟩:=h;rw[Bool.and_eq_true]at h2;obtain⟨h0,h2⟩:=h2;split at h2
    ·rename_i its n hd;rw[Bool.and_eq_true]at h2;obtain⟨vs,r,q⟩:=qad h2.2;exact⟨.ref a,rfl,fun G=>.tup (.inr ⟨o,its,n,ho,of_decide_eq_true h1,Option.isNone_iff_eq_none.mp h0,hd,of_decide_eq_true h2.1,r⟩) (q G)⟩
    ·cases h2
   ·cases h
  ·cases h
 | .lst ds,u,h=>by simp[qae]at h
 | .ro ds,u,h=>by simp[qae]at h
 | .dct ds,u,h=>by simp[qae]at h
 | .ins _ _,u,h=>by simp[qae]at h
 | .dcT _,u,h=>by simp[qae]at h
theorem qad {K:PySem.W.Frag}:∀{ds:List D} {us:List Value},qbG K us ds=true→∃vs,Vals vs us∧∀G,DqA K G vs ds
 | [],us,h=>by
  unfold qbG at h;have h:=List.isEmpty_iff.mp h;subst h;exact⟨[],.nil,fun G=>.nil⟩
 | d::ds,us,h=>by
  unfold qbG at h;split at h
  ·rename_i u us;rw[Bool.and_eq_true]at h;obtain⟨v,r,q⟩:=qbH h.1;obtain⟨vs,r2,q2⟩:=qad h.2;exact⟨v::vs,.cons r r2,fun G=>.cons (q G) (q2 G)⟩
  ·cases h
end
structure CvC (K:PySem.W.Frag) (C f:Str) (d:D):Prop where
 ex:∃mc u v,ClX.CRead K (cA K C) mc∧ClX.CVal K (cA K C) mc f v u∧∀G,Dq K G v d
theorem qdl {K:PySem.W.Frag} {C f:Str} {d:D} (c:cvB K C f d=true):CvC K C f d:=by
 unfold cvB at c;simp only[Bool.and_eq_true]at c;obtain⟨c1,c2,c3⟩:=c;split at c3
 ·rename_i u hu;obtain⟨v,r,q⟩:=qbH c3;exact⟨⟨_,u,v,⟨c1,He.eqO_ok c2⟩,⟨hu,r⟩,q⟩⟩
 ·cases c3
theorem qgL {X:Cx} {xa:Option XA} {W:WX} {C f:Str} {d:D} {p pos:Pos} (c:CvC X.K C f d) (hm:X.mg C=some (.ref (cA X.K C))) (hg:Gl X C:=by rfl) (hd:(C == ("__debug__" : Str))=false:=by decide) (hb:attributeBase (.Name C p) f X.env (eval (.Name C p) X.env)=eval (.Name C p) X.env:=by rfl) :
  JE X xa W (.Attribute (.Name C p) f pos) (eC d):=by
 obtain⟨mc,u,v,h1,h2,q⟩:=c.ex;exact⟨_,ClX.pe_cval (pe_glob (v:=.ref (cA X.K C)) hg hm rfl hd) hb,fun σ G H ρ R Q h=>⟨_,mc,v,u,rfl,h1,h2,h v G H (Stp.refl _ _ _ _) R (q G)⟩⟩
abbrev CTb:Type:=List (Str×D)
def qsj (K:PySem.W.Frag) (f:Str) (tb:CTb):Prop:=∀q∈tb,Cls K (cA K q.1)∧∃v u,L2.Con K (cA K q.1) f v u∧∀G,Dq K G v q.2
theorem qcq {tb:CTb} {C:Str} {d:D} (h:tb.lookup C=some d):(C,d)∈tb:=by
 induction tb with
 | nil=>cases h
 | cons q tb ih=>
  obtain⟨c,e⟩:=q;unfold List.lookup at h;split at h
  ·rename_i e1;cases Option.some.inj h;rw[eq_of_beq e1];exact List.mem_cons_self
  ·exact List.mem_cons_of_mem _ (ih h)
def ctG (o p:Option D) (ρ:Env):Res X:=match o,p with
 | some d,none=>.ok (.d d) ρ
 | _,_=>.bad
def ctF (tb:CTb) (f:Str) (o:Option D) (ρ:Env):Res X:=match o with
 | some (.ins C fs)=>ctG (tb.lookup C) (fs.lookup f) ρ
 | _=>.bad
def qrf (tb:CTb) (f:Str):X→Env→Res X:=fun x ρ1=>ctF tb f (look ρ1 x) ρ1
def qoQ (tb:CTb) (f:Str) (m:EM):EM:=fun ρ=>bindR (m ρ) (qrf tb f)
theorem qkk {K:Kx} {W:WX} {tb:CTb} {f:Str} {t:TE} {m:EM} (T:qsj K.k f tb) (ht:Yx K W t m):Yx K W (tCon K.k t f) (qoQ tb f m):=fun σ G H ρ R Q h=>by
 unfold qoQ bindR at h;refine ht.fst R (fun x ρ1 e v G1 H1 S1 R1 x1=>?_) (fun e ρ1 q=>by rw[q]at h;exact h) (fun q=>by rw[q]at h;exact h);rw[e]at h;have h:=EPost.step S1 h;simp only at h;unfold qrf ctF at h;split at h
 ·rename_i C fs el;unfold ctG at h;split at h
  ·rename_i d el2 ef;obtain⟨hc,w,u,hcon,q⟩:=T _ (qcq el2);have qv:Vw K G1 H1 v (.ins C fs):=Xn R1 x1 el;obtain⟨_,_,_,rfl,q1,q2,q3⟩:=qv;exact⟨_,_,_,_,w,u,rfl,q1,hc,hcon,DqF.lookN q3 ef,h w G1 H1 (Stp.refl _ _ _ _) R1 (q G1)⟩
  ·exact h.elim
 ·exact h.elim
theorem qrn {X:Cx} {xa:Option XA} {W:WX} {e:Expr} {f:Str} {m:EM} {pos:Pos} {tb:CTb} (T:qsj X.K f tb) (ha:JE X xa W e m) (hb:attributeBase e f X.env (eval e X.env)=eval e X.env:=by rfl):JE X xa W (.Attribute e f pos) (qoQ tb f m):=
 let ⟨_,h1,h2⟩:=ha;⟨_,pe_con h1 hb,qkk T h2⟩
structure IsiC (K:PySem.W.Frag) (C:Str):Prop where
 cl:Cls K (cA K C)
 ha:PySem.W.findIn K (.ref (cA K C)) "__class__"=some (some (.builtin "object.__class__"))
 hn:PySem.W.specialIn K (.builtin "object.__class__") "__get__"=some (some (.builtin "getset_descriptor.__get__"))
 htk:PySem.W.takesIn K (.builtin "object.__class__")=some true
 hm:PySem.W.mroIn K (cA K C) (.type "object")=some true
def qme (K:PySem.W.Frag) (C:Str) (tb:ITb):Prop:=∀q∈tb,IsiC K q.1∧PySem.W.kitOne K (.ref (cA K q.1)) (.ref (cA K C))=some q.2
theorem qew {K:PySem.W.Frag} {C:Str} {tb:ITb} (c:tb.all (qgP K C)=true):qme K C tb:=fun q hq=>by
 have c:=List.all_eq_true.mp c q hq;unfold qgP at c;simp only[Bool.and_eq_true]at c;obtain⟨c1,c2,c3,c4,c5,c6⟩:=c;exact⟨⟨Bp c1,He.eqO_ok c2,He.eqO_ok c3,of_decide_eq_true c4,of_decide_eq_true c5⟩,of_decide_eq_true c6⟩
theorem qcp {tb:ITb} {C:Str} {d:Bool} (h:tb.lookup C=some d):(C,d)∈tb:=by
 induction tb with
 | nil=>cases h
 | cons q tb ih=>
  obtain⟨c,e⟩:=q;unfold List.lookup at h;split at h
  ·rename_i e1;cases Option.some.inj h;rw[eq_of_beq e1];exact List.mem_cons_self
  ·exact List.mem_cons_of_mem _ (ih h)
def iiG (o:Option Bool) (ρ:Env):Res X:=match o with
 | some b=>.ok (.d (.bl b)) ρ
 | none=>.bad
def iiF (tb:ITb) (o:Option D) (ρ:Env):Res X:=match o with
 | some (.ins C _)=>iiG (tb.lookup C) ρ
 | _=>.bad
def qlE (tb:ITb):X→Env→Res X:=fun x ρ1=>iiF tb (look ρ1 x) ρ1
def qkr (tb:ITb) (m:EM):EM:=fun ρ=>bindR (m ρ) (qlE tb)
theorem qkh {K:Kx} {W:WX} {tb:ITb} {C:Str} {t:TE} {m:EM} (T:qme K.k C tb) (ht:Yx K W t m):Yx K W (tCB (rIsi K.k) (tCons t (tCons (tC (.ref (cA K.k C))) tNil))) (qkr tb m):=fun σ G H ρ R Q h=>by
 unfold qkr bindR at h;refine ht.fst R (fun x ρ1 e v G1 H1 S1 R1 x1=>?_) (fun e ρ1 q=>by rw[q]at h;exact h) (fun q=>by rw[q]at h;exact h);rw[e]at h;have h:=EPost.step S1 h;simp only at h;unfold qlE iiF at h;split at h
 ·rename_i D fs el;unfold iiG at h;split at h
  ·rename_i b el2;obtain⟨hc,hk⟩:=T _ (qcp el2);have qv:Vw K G1 H1 v (.ins D fs):=Xn R1 x1 el;obtain⟨_,_,_,rfl,q1,q2,q3⟩:=qv;exact⟨_,_,_,_,b,rfl,.own _,.base (.ins q1 hc.cl hc.ha hc.hn hc.htk hc.hm),hk,h _ _ _ (Stp.refl _ _ _ _) R1 (.bl b)⟩
  ·exact h.elim
 ·exact h.elim
theorem qjC {X:Cx} {xa:Option XA} {W:WX} {C:Str} {e:Expr} {m:EM} {tb:ITb} {p p' pos:Pos} (T:qme X.K C tb) (hm:X.mg "isinstance"=none) (hC:X.mg C=some (.ref (cA X.K C))) (ha:JE X xa W e m)
  (hg:Gl X "isinstance":=by rfl) (hgC:Gl X C:=by rfl) (hdb:(C == ("__debug__" : Str))=false:=by decide)
  (he:starEach [e,.Name C p'] X.env=(false,eval e X.env)::starEach [.Name C p'] X.env:=by rfl) (he2:starEach [.Name C p'] X.env=(false,eval (.Name C p') X.env)::starEach [] X.env:=by rfl) (hpl:(backTo pos (starEach [.Name C p'] X.env)).any (·.1)=false:=by rfl) :
  JE X xa W (.Call (.Name "isinstance" p) [e,.Name C p'] [] pos) (qkr tb m):=
 let ⟨_,h1,h2⟩:=ha;⟨_,L2.pe_callB call_isi hg hm (by first | boot_by_name | rfl | kernel_rfl) (pa_cons h1 (pa_cons (pe_glob (v:=.ref (cA X.K C)) hgC hC rfl hdb) pa_nil he2) he) (by decide) (by decide) he hpl,qkh T h2⟩
def qcU (n:Nat) (gs:GMs):GM:=fun d ρ=>match qaV d with
 | some ds=>if ds.length=n then gs ds ρ else none
 | none=>none
theorem qfY {K:PySem.W.Frag} {G:Hp} {v:V} {d:D} {ds:List D} (q:Dq K G v d) (e:qaV d=some ds):∃a xs,v=.ref a∧SqL K G a xs∧DqA K G xs ds:=by
 cases d<;>simp only[qaV,reduceCtorEq,Option.some.injEq]at e
 ·subst e;cases q with
  | lst h a=>exact⟨_,_,rfl,.inl (.inl h),a⟩
 ·subst e;cases q with
  | ro h a=>exact⟨_,_,rfl,h,a⟩
theorem qjP {K:Kx} {js:List Nat} {n:Nat} {gs:TGs} {gms:GMs} (hs:qhQ K js gs gms):GOk K js (gLst K.k n gs) (qcU n gms):=fun σ G H ρ v d ρ' R q e Q h=>by
 unfold qcU at e;split at e
 ·rename_i ds es;split at e
  ·rename_i hl;obtain⟨a,xs,rfl,h1,h2⟩:=qfY q es;exact⟨a,xs,rfl,R.same.seq h1,by rw[h2.length];exact hl,hs _ _ _ _ _ _ _ R h2 e Q h⟩
  ·cases e
 ·cases e
theorem qjy {X:Cx} {xa:Option XA} {js:List Nat} {tgs:List Expr} {gms:GMs} {pos:Pos} {k n:Nat} (hc:X.calm=true) (h:JGs X xa js tgs gms) (hn:(assignEach tgs X.env).length=n:=by rfl) (hst:(assignEach tgs X.env).findIdx? (·.1)=none:=by rfl):JG X xa js (.Tuple tgs k pos) (qcU n gms):=
 let ⟨_,a1,a2⟩:=h;⟨_,pg_lst hc a1 hn hst,qjP a2⟩
structure FldC (K:PySem.W.Frag) (C f:Str):Prop where
 cl:Cls K (cA K C)
 no:NoAttr K (cA K C) f
def Au (K:PySem.W.Frag) (f:Str) (cs:List Str):Prop:=∀C∈cs,FldC K C f
theorem K8 {K:PySem.W.Frag} {f:Str} {cs:List Str} (c:cs.all (ya K f)=true):Au K f cs:=fun C hC=>by
 have c:=List.all_eq_true.mp c C hC;unfold ya at c;rw[Bool.and_eq_true]at c;exact⟨Bp c.1,He.eqO_ok c.2⟩
def fdG (o:Option D) (ρ:Env):Res X:=match o with
 | some d=>.ok (.d d) ρ
 | none=>.bad
def fdF (cs:List Str) (f:Str) (o:Option D) (ρ:Env):Res X:=match o with
 | some (.ins C fs)=>if C∈cs then fdG (fs.lookup f) ρ else .bad
 | _=>.bad
def qlF (cs:List Str) (f:Str):X→Env→Res X:=fun x ρ1=>fdF cs f (look ρ1 x) ρ1
def Yt (cs:List Str) (f:Str) (m:EM):EM:=fun ρ=>bindR (m ρ) (qlF cs f)
theorem DqF.lookS {K:PySem.W.Frag} {G:Hp} {m:Str} {d:D}:∀{vs:List (Str×V)} {ds:List (Str×D)},DqF K G vs ds→ds.lookup m=some d→∃v,vs.lookup m=some v∧Dq K G v d
 | _,_,.nil,e=>by cases e
 | _,_,.cons (k:=k) h t,e=>by
  unfold List.lookup at e ⊢;split at e
  ·cases Option.some.inj e;exact⟨_,rfl,h⟩
  ·exact DqF.lookS t e
theorem qkj {K:Kx} {W:WX} {cs:List Str} {f:Str} {t:TE} {m:EM} (T:Au K.k f cs) (ht:Yx K W t m):Yx K W (tFld K.k t f) (Yt cs f m):=fun σ G H ρ R Q h=>by
 unfold Yt bindR at h;refine ht.fst R (fun x ρ1 e v G1 H1 S1 R1 x1=>?_) (fun e ρ1 q=>by rw[q]at h;exact h) (fun q=>by rw[q]at h;exact h);rw[e]at h;have h:=EPost.step S1 h;simp only at h;unfold qlF fdF at h;split at h
 ·rename_i C fs el;split at h
  ·rename_i hC;unfold fdG at h;split at h
   ·rename_i d ef;have qv:Vw K G1 H1 v (.ins C fs):=Xn R1 x1 el;obtain⟨_,_,_,rfl,q1,q2,q3⟩:=qv;obtain⟨u,e1,e2⟩:=q3.lookS ef;exact⟨_,_,_,_,u,rfl,q1,(T C hC).cl,(T C hC).no,e1,h u G1 H1 (Stp.refl _ _ _ _) R1 e2⟩
   ·exact h.elim
  ·exact h.elim
 ·exact h.elim
theorem Za {X:Cx} {xa:Option XA} {W:WX} {e:Expr} {f:Str} {m:EM} {pos:Pos} {cs:List Str} (T:Au X.K f cs) (ha:JE X xa W e m) (hb:attributeBase e f X.env (eval e X.env)=eval e X.env:=by rfl):JE X xa W (.Attribute e f pos) (Yt cs f m):=
 let ⟨_,h1,h2⟩:=ha;⟨_,pe_fld h1 hb,qkj T h2⟩
def putD (f:Str) (v:D):List (Str×D)→List (Str×D)
 | []=>[(f,v)]
 | (g,x)::r=>if g=f then (g,v)::r else (g,x)::putD f v r
theorem DqF.put {K:PySem.W.Frag} {G:Hp} {f:Str} {v:V} {d:D} (q:Dq K G v d):∀{vs:List (Str×V)} {ds:List (Str×D)},DqF K G vs ds→DqF K G (putF f v vs) (putD f d ds)
 | _,_,.nil=>.cons q .nil
 | _,_,.cons (k:=k) h t=>by
  unfold putF putD;split
  ·exact .cons q t
  ·exact .cons h (DqF.put q t)
theorem DqF.len {K:PySem.W.Frag} {G:Hp}:∀{vs:List (Str×V)} {ds:List (Str×D)},DqF K G vs ds→vs.length=ds.length
 | _,_,.nil=>rfl
 | _,_,.cons _ t=>by simp[DqF.len t]
def qhF (ρ:Env) (i:Nat):Option (L×Str×List (Str×D)):=match ρ[i]? with
 | some (some (.m (.ins C fs)))=>some (.m (.ins C fs),C,fs)
 | some (some (.r (.ins C fs)))=>some (.r (.ins C fs),C,fs)
 | _=>none
theorem qcb {K:Kx} {σ:L2.St} {G H:Hp} {ρ:Env} {i:Nat} {l:L} {C:Str} {fs:List (Str×D)} (R:Rel K σ G H ρ) (h:qhF ρ i=some (l,C,fs)) :
  ρ[i]?=some (some l)∧l.own=true∧∃a dx xs,σ[i]?=some (some (.ref a))∧G a=none∧H a=some (.ins (cA K C) dx xs)∧G dx=some (.own a)∧DqF K G xs fs:=by
 unfold qhF at h;split at h
 ·rename_i C' es he;cases Option.some.inj h;obtain⟨v,h1,h2⟩:=R.at_ i _ he;obtain⟨a,dx,xs,rfl,h3,h4,h5,h6⟩:=(show MOk K G H v (.ins C fs) from h2);exact⟨he,rfl,a,dx,xs,h1,h3,h4,h5,h6⟩
 ·rename_i C' es he;cases Option.some.inj h;obtain⟨v,h1,h2⟩:=R.at_ i _ he;obtain⟨a,dx,xs,rfl,h3,h4,h5,h6⟩:=(show MOk K G H v (.ins C fs) from h2);exact⟨he,rfl,a,dx,xs,h1,h3,h4,h5,h6⟩
 ·cases h
def qcD (cs:List Str) (f:Str) (i:Nat) (d:D) (ρ2:Env):Res Fl:=match qhF ρ2 i with
 | some (l,C,fs)=>if C∈cs∧fs.length<900 then .ok .nx (ρ2.set i (some (l.put (.ins C (putD f d fs))))) else .bad
 | none=>.bad
def Sr (cs:List Str) (f:Str) (i:Nat) (m:EM):SM:=fun ρ=>bindR (m ρ) fun x ρ1=>match fz ρ1 x with
 | some (d,ρ2)=>qcD cs f i d ρ2
 | none=>.bad
theorem qfO {K:Kx} {W:WX} {cs:List Str} {f:Str} {i:Nat} {t:TE} {m:EM} (T:Au K.k f cs) (ht:Yx K W t m):Di K W (sFld K.k (tVar i) t f) (Sr cs f i m):=fun σ G H ρ R D h=>by
 unfold Sr bindR at h;refine ht.fst R (fun x ρ1 e v G1 H1 S1 R1 x1=>?_) (fun e ρ1 q=>by rw[q]at h;exact J0.x h) (fun q=>by rw[q]at h;exact h);rw[e]at h;have h:=J0.step S1 h;simp only at h;split at h
 ·rename_i d ρ2 e2;obtain⟨G2,S2,R2,q2⟩:=Bk R1 x1 e2;have h:=J0.step S2 h;unfold qcD at h;split at h
  ·rename_i l C fs eo;split at h
   ·rename_i hC;obtain⟨k1,k2,a,dx,xs,hv,hG,hH,hd,hq⟩:=qcb R2 eo;refine⟨_,hv,a,_,dx,xs,rfl,hH,(T C hC.1).cl,(T C hC.1).no,by rw[hq.len];omega,?_⟩;have hne:dx≠a:=fun z=>by rw[z,hG]at hd;cases hd
    obtain⟨S3,R3⟩:=jb (x':=.ins C (putD f d fs)) (o:=.ins (cA K C) dx (putF f v xs)) R2 k1 k2 hv ⟨a,dx,_,rfl,hG,upd_same,hd,hq.put q2⟩;exact h _ _ _ S3 R3
   ·exact h.elim
  ·exact h.elim
 ·exact h.elim
theorem H5 {X:Cx} {xa:Option XA} {W:WX} {e:Expr} {f x:Str} {i:Nat} {m:EM} {p p' pos:Pos} {cs:List Str} (T:Au X.K f cs) (h:JE X xa W e m) (hi:X.N[i]?=some x:=by rfl) (hv:Vis X.env.scope x:=by first | exact .inl rfl | exact .inr (.inl rfl) | exact .inr (.inr rfl)) (hd:(x == ("__debug__" : Str))=false:=by decide) (hcd:(x == ("__classdict__" : Str))=false:=by decide)
  (hs:swapsWith e (some (.Attribute (.Name x p) f p')) pos.line X.env=pure false:=by rfl):JS X xa W (.Assign [.Attribute (.Name x p) f p'] e pos) (Sr cs f i m):=
 let ⟨_,h1,h2⟩:=h;⟨_,ps_fld (pe_var hi hv hd hcd) h1 hs,qfO T h2⟩
theorem Own.push {σ:L2.St} {ρ:Env} {v:V} {l:L} {a:Addr} (hl:σ.length=ρ.length) (h:Own (σ++[some v]) (ρ++[some l]) a):Own σ ρ a∨(l.own=true∧v=.ref a):=by
 obtain⟨i,l',h1,h2,h3⟩:=h;by_cases hi:i < ρ.length
 ·rw[List.getElem?_append_left hi]at h1;rw[List.getElem?_append_left (by omega)]at h3;exact .inl ⟨i,l',h1,h2,h3⟩
 ·have hi2:i=ρ.length:=by
   have:=(List.getElem?_eq_some_iff.mp h1).1;simp at this;omega
  subst hi2;rw[List.getElem?_append_right (Nat.le_refl _)]at h1;rw[← hl,List.getElem?_append_right (Nat.le_refl _)]at h3;simp at h1 h3;subst h1;exact .inr ⟨h2,h3⟩
theorem Bq.push {σ:L2.St} {ρ:Env} {v:V} {l:L} {a:Addr} (hl:σ.length=ρ.length) (h:Bq (σ++[some v]) (ρ++[some l]) a):Bq σ ρ a∨(l.own=true∧v=.ref a):=by
 obtain⟨i,l',h1,h2,h3⟩:=h;by_cases hi:i < ρ.length
 ·rw[List.getElem?_append_left hi]at h1;rw[List.getElem?_append_left (by omega)]at h3;exact .inl ⟨i,l',h1,h2,h3⟩
 ·have hi2:i=ρ.length:=by
   have:=(List.getElem?_eq_some_iff.mp h1).1;simp at this;omega
  subst hi2;rw[List.getElem?_append_right (Nat.le_refl _)]at h1;rw[← hl,List.getElem?_append_right (Nat.le_refl _)]at h3;simp at h1 h3;subst h1;have ho:l.own=true:=by
   cases l;all_goals first
    | rfl
    | cases h2
  exact .inr ⟨ho,h3⟩
theorem Own.pushL {σ:L2.St} {ρ:Env} {v:V} {l:L} {a:Addr} (hl:σ.length=ρ.length) (h:Own σ ρ a):Own (σ++[some v]) (ρ++[some l]) a:=by
 obtain⟨i,l',h1,h2,h3⟩:=h;have hi:=(List.getElem?_eq_some_iff.mp h1).1;exact⟨i,l',by rw[List.getElem?_append_left hi];exact h1,h2,by rw[List.getElem?_append_left (by omega)];exact h3⟩
theorem Bq.pushL {σ:L2.St} {ρ:Env} {v:V} {l:L} {a:Addr} (hl:σ.length=ρ.length) (h:Bq σ ρ a):Bq (σ++[some v]) (ρ++[some l]) a:=by
 obtain⟨i,l',h1,h2,h3⟩:=h;have hi:=(List.getElem?_eq_some_iff.mp h1).1;exact⟨i,l',by rw[List.getElem?_append_left hi];exact h1,h2,by rw[List.getElem?_append_left (by omega)];exact h3⟩
theorem Rel.push {K:Kx} {σ:L2.St} {G H:Hp} {ρ:Env} {v:V} {y:D} (R:Rel K σ G H ρ) (m:MOk K G H v y) (hn:∀a,v=.ref a→¬Own σ ρ a):Rel K (σ++[some v]) G H (ρ++[some (.m y)]):=by
 have hl:=R.len;refine⟨R.same,by simp[hl],fun i l e=>?_,R.exo,fun i j l l' a hij e1 e2 o1 o2 e3 e4=>?_⟩
 ·by_cases hi:i < ρ.length
  ·rw[List.getElem?_append_left hi]at e;obtain⟨u,h1,h2⟩:=R.at_ i l e;exact⟨u,by rw[List.getElem?_append_left (by omega)];exact h1,h2⟩
  ·have hi2:i=ρ.length:=by
    have:=(List.getElem?_eq_some_iff.mp e).1;simp at this;omega
   subst hi2;rw[List.getElem?_append_right (Nat.le_refl _)]at e;simp at e;subst e;exact⟨v,by rw[← hl,List.getElem?_append_right (Nat.le_refl _)];simp,m⟩
 ·have at':∀{i:Nat} {l:L},(ρ++[some (L.m y)])[i]?=some (some l)→(σ++[some v])[i]?=some (some (.ref a))→(i < ρ.length∧ρ[i]?=some (some l)∧σ[i]?=some (some (.ref a)))∨(i=ρ.length∧v=.ref a):=fun {i l} h1 h3=>by
   by_cases hi:i < ρ.length
   ·rw[List.getElem?_append_left hi]at h1;rw[List.getElem?_append_left (by omega)]at h3;exact .inl ⟨hi,h1,h3⟩
   ·have hi2:i=ρ.length:=by
     have:=(List.getElem?_eq_some_iff.mp h1).1;simp at this;omega
    subst hi2;rw[← hl,List.getElem?_append_right (Nat.le_refl _)]at h3;simp at h3;exact .inr ⟨rfl,h3⟩
  rcases at' e1 e3 with ⟨_,p1,p2⟩ | ⟨p1,p2⟩
  ·rcases at' e2 e4 with ⟨_,q1,q2⟩ | ⟨q1,q2⟩
   ·exact R.sep i j l l' a hij p1 q1 o1 o2 p2 q2
   ·exact hn a q2 ⟨i,l,p1,o1,p2⟩
  ·rcases at' e2 e4 with ⟨_,q1,q2⟩ | ⟨q1,q2⟩
   ·exact hn a p2 ⟨j,l',q1,o2,q2⟩
   ·exact hij (p1.trans q1.symm)
theorem Rel.pop {K:Kx} {σ:L2.St} {G H:Hp} {ρ:Env} {v:V} {y:D} (hl:σ.length=ρ.length) (R:Rel K (σ++[some v]) G H (ρ++[some (.m y)])):Rel K σ G H ρ∧MOk K G H v y∧∀a,v=.ref a→¬Own σ ρ a:=by
 have last:(ρ++[some (L.m y)])[ρ.length]?=some (some (L.m y)):=by rw[List.getElem?_append_right (Nat.le_refl _)];simp
 have lastS:(σ++[some v])[ρ.length]?=some (some v):=by rw[← hl,List.getElem?_append_right (Nat.le_refl _)];simp
 refine⟨⟨R.same,hl,fun i l e=>?_,R.exo,fun i j l l' a hij e1 e2 o1 o2 e3 e4=>?_⟩,?_,fun a ea ⟨i,l,h1,h2,h3⟩=>?_⟩
 ·have hi:=(List.getElem?_eq_some_iff.mp e).1;obtain⟨u,h1,h2⟩:=R.at_ i l (by rw[List.getElem?_append_left hi];exact e);rw[List.getElem?_append_left (by omega)]at h1;exact⟨u,h1,h2⟩
 ·have hi:=(List.getElem?_eq_some_iff.mp e1).1;have hj:=(List.getElem?_eq_some_iff.mp e2).1;refine R.sep i j l l' a hij ?_ ?_ o1 o2 ?_ ?_
  ·rw[List.getElem?_append_left hi];exact e1
  ·rw[List.getElem?_append_left hj];exact e2
  ·rw[List.getElem?_append_left (by omega)];exact e3
  ·rw[List.getElem?_append_left (by omega)];exact e4
 ·obtain⟨u,h1,h2⟩:=R.at_ _ _ last;rw[lastS]at h1;cases Option.some.inj (Option.some.inj h1);exact h2
 ·subst ea;have hi:=(List.getElem?_eq_some_iff.mp h1).1;refine R.sep i ρ.length l (.m y) a (by omega) ?_ last h2 rfl ?_ lastS
  ·rw[List.getElem?_append_left hi];exact h1
  ·rw[List.getElem?_append_left (by omega)];exact h3
theorem Stp.pop {σ:L2.St} {ρ1 ρ2:Env} {G1 H1 G2 H2 G' H':Hp} {x:Addr} {y z:D} (hl:σ.length=ρ1.length) (hl2:σ.length=ρ2.length) (g:Gro G1 H1 G2 H2) (hx:H1 x=none)
  (S:Stp (σ++[some (.ref x)]) (ρ1++[some (.m z)]) G2 H2 (σ++[some (.ref x)]) (ρ2++[some (.m y)]) G' H'):Stp σ ρ1 G1 H1 σ ρ2 G' H':=by
 have oX:∀{a:Addr},Own (σ++[some (V.ref x)]) (ρ1++[some (L.m z)]) a→Own σ ρ1 a∨H1 a=none:=fun {a} h=>by
  rcases Own.push hl h with h | ⟨_,e⟩
  ·exact .inl h
  ·cases e;exact .inr hx
 have oM:∀{a:Addr},Bq (σ++[some (V.ref x)]) (ρ1++[some (L.m z)]) a→Bq σ ρ1 a∨H1 a=none:=fun {a} h=>by
  rcases Bq.push hl h with h | ⟨_,e⟩
  ·exact .inl h
  ·cases e;exact .inr hx
 refine⟨g.g.trans S.g,fun a o h=>?_,fun a o h n=>?_,fun a h=>?_,fun a h=>?_,fun a h=>?_,fun i u h=>?_⟩
 ·rcases S.gf a o h with h | h | h
  ·rcases g.gf a o h with h | h
   ·exact .inl h
   ·exact .inr (.inl h)
  ·exact .inr (.inl (g.h.free h))
  ·rcases oM h with h | h
   ·exact .inr (.inr h)
   ·exact .inr (.inl h)
 ·refine S.fr a o (g.h a o h) fun q=>?_;rcases oX q with q | q
  ·exact n q
  ·rw[h]at q;cases q
 ·obtain⟨o,ho⟩:∃o,H1 a=some o:=by
   cases q:H1 a with
   | none=>exact absurd q h
   | some o=>exact⟨o,rfl⟩
  exact S.hn a (by rw[g.h a o ho];exact fun q=>nomatch q)
 ·rcases S.ow a (h.pushL hl2) with h | h
  ·exact oX h
  ·exact .inr (g.h.free h)
 ·rcases S.om a (h.pushL hl2) with h | h
  ·exact oM h
  ·exact .inr (g.h.free h)
 ·have hi:=(List.getElem?_eq_some_iff.mp h).1;obtain⟨_,w,h2⟩:=S.pin i u (by rw[List.getElem?_append_left hi];exact h);rw[List.getElem?_append_left (by omega)]at h2;exact⟨rfl,w,h2⟩
theorem qbb {ρ:Env} {l:Option L} {x:X} {a:L} (h:mkArg ρ x=some a):mkArg (ρ++[l]) x=some a∧∀i,x=.s i→i < ρ.length:=by
 cases x with
 | d y=>exact⟨h,fun i z=>nomatch z⟩
 | s i=>
  have hi:i < ρ.length:=by
   rcases Nat.lt_or_ge i ρ.length with q | q
   ·exact q
   ·unfold mkArg at h;simp only[List.getElem?_eq_none q]at h;cases h
  refine⟨?_,fun j z=>by cases z;exact hi⟩;unfold mkArg at h ⊢;simp only[List.getElem?_append_left hi];exact h
theorem L6 {ρ:Env} {l:Option L}:∀{xs:List X} {as:List L},Xf ρ xs=some as→Xf (ρ++[l]) xs=some as∧∀i∈slots xs,i < ρ.length
 | [],as,h=>⟨h,fun i hi=>by simp[slots]at hi⟩
 | x::xs,as,h=>by
  unfold Xf at h;split at h
  ·rename_i a as' e1 e2;cases Option.some.inj h;obtain⟨p1,p2⟩:=qbb (l:=l) e1;obtain⟨q1,q2⟩:=L6 (l:=l) e2;refine⟨by unfold Xf;rw[p1,q1],fun i hi=>?_⟩;cases x with
   | d y=>exact q2 i hi
   | s j=>
    rcases List.mem_cons.mp (show i∈j::slots xs from hi) with rfl | hi
    ·exact p2 _ rfl
    ·exact q2 i hi
  ·cases h
theorem qbX {ρ:Env} {l:Option L} {i:Nat} {y:D} (h:i < ρ.length):putS (ρ++[l]) i y=putS ρ i y++[l]:=by
 unfold putS;rw[List.getElem?_append_left h];rcases ρ[i]? with _ | _ | l0
 ·rfl
 ·rfl
 ·show (ρ++[l]).set i (some (l0.put y))=ρ.set i (some (l0.put y))++[l];rw[List.set_append_left _ _ h]
theorem qd6 {ρ:Env} {i:Nat} {y:D}:(putS ρ i y).length=ρ.length:=by
 unfold putS;split
 ·rw[List.length_set]
 ·rfl
theorem Cs {l:Option L}:∀{xs:List X} {as bs:List L} {ρ:Env},(∀i∈slots xs,i < ρ.length)→Yp (ρ++[l]) xs as bs=Yp ρ xs as bs++[l]
 | [],as,bs,ρ,_=>by unfold Yp;rfl
 | x::xs,[],bs,ρ,_=>by cases x<;>(unfold Yp;rfl)
 | x::xs,a::as,[],ρ,_=>by cases x<;>cases a<;>(unfold Yp;rfl)
 | .d _::xs,a::as,b::bs,ρ,h=>by
  show Yp (ρ++[l]) xs as bs=Yp ρ xs as bs++[l];exact Cs h
 | .s i::xs,a::as,b::bs,ρ,h=>by
  have hi:i < ρ.length:=h i (List.mem_cons_self);have ht:∀j∈slots xs,j < ρ.length:=fun j hj=>h j (List.mem_cons_of_mem _ hj);have skip:Yp (ρ++[l]) xs as bs=Yp ρ xs as bs++[l]:=Cs ht;cases a with
  | r u=>
   cases b with
   | r y=>
    show Yp (putS (ρ++[l]) i y) xs as bs=Yp (putS ρ i y) xs as bs++[l];rw[qbX hi];exact Cs fun j hj=>by rw[qd6];exact ht j hj
   | d _=>exact skip
   | m _=>exact skip
   | p _=>exact skip
   | xh=>exact skip
   | u _ _=>exact skip
  | d _=>cases b<;>exact skip
  | m _=>cases b<;>exact skip
  | p _=>cases b<;>exact skip
  | xh=>cases b<;>exact skip
  | u _ _=>cases b<;>exact skip
theorem Tx.push {K:Kx} {σ:L2.St} {G:Hp} {v:Option V}:∀{vs:List V} {xs:List X},Tx K σ G vs xs→Tx K (σ++[v]) G vs xs
 | _,_,.nil=>.nil
 | _,_,.cons (a:=u) (b:=x) h t=>.cons (by
   cases x with
   | d y=>exact h
   | s i=>
    have h:σ[i]?=some (some u):=h;show (σ++[v])[i]?=some (some u);rw[List.getElem?_append_left (List.getElem?_eq_some_iff.mp h).1];exact h) (Tx.push t)
def tMk (C:Addr) (sp:Sp) (E:L2.St→XK) (t:TA):TE:=fun σ H Q=>t σ H fun vs H1=>∀x dx,H1 x=none→H1 dx=none→dx≠x→sp (.ref x::vs) (upd (upd H1 dx (.own x)) x (.ins C dx [])) (fun v H2=>v=.non∧Q (.ref x) H2) (E σ)
def mkR (r:FRes) (ρ1:Env) (xs:List X) (as:List L):Res D:=match r with
 | .ok (.d .non) (.r x::bs)=>.ok x (Yp ρ1 xs as bs)
 | .ex e (_::bs)=>.ex e (Yp ρ1 xs as bs)
 | _=>.bad
def kMk (C:Str) (n:Nat) (F:List L→FRes) (xs:List X) (ρ1:Env):Res D:=match Xf ρ1 xs with
 | none=>.bad
 | some as=>if xs.length+1=n∧(slots xs).Nodup then mkR (F (.r (.ins C [])::as)) ρ1 xs as else .bad
def fMk (C:Str) (n:Nat) (F:List L→FRes) (ma:AM):FM:=fun ρ=>bindR (ma ρ) (kMk C n F)
theorem qjX {K:Kx} {W:WX} {C:Str} {n:Nat} {F:List L→FRes} {t:TA} {ma:AM} (ht:Bx K W t ma):qbB K W (tMk (cA K C) (spF K.k n F) (WE W) t) (fMk C n F ma):=fun σ G H ρ R Q h=>by
 unfold fMk bindR at h;refine ht.fst R (fun xs ρ1 e vs G1 H1 S1 R1 x1=>?_) (fun e ρ1 q=>by rw[q]at h;exact h) (fun q=>by rw[q]at h;exact h);rw[e]at h;have h:=Tz.step S1 h;simp only at h;unfold kMk at h;split at h
 ·exact h.elim
 ·rename_i as ea;split at h
  ·rename_i hnn;intro x dx hx hd hne;have g1:=Gro.new (o:=.own x) R1.same hd;have hx2:(upd H1 dx (.own x)) x=none:=by rw[upd_ne (fun z=>hne z.symm)];exact hx
   have g2:=Gro.newH (o:=.ins (cA K C) dx []) g1.s hx2;have g:=g1.trans g2;have R2:=R1.gro g;have nx:∀a,V.ref x=.ref a→¬Own σ ρ1 a:=fun a ea o=>by cases ea;exact Own.there R1 o hx
   have qtr:(upd G1 dx (.own x)) x=none:=by rw[upd_ne (fun z=>hne z.symm)];exact R1.same.free hx
   have m:MOk K (upd G1 dx (.own x)) (upd (upd H1 dx (.own x)) x (.ins (cA K C) dx [])) (.ref x) (.ins C []):=⟨x,dx,[],rfl,qtr,upd_same,upd_same,.nil⟩;have R3:=R2.push m nx;obtain⟨ea2,hsl⟩:=L6 (l:=some (.m (.ins C []))) ea;have X3:Tx K (σ++[some (.ref x)]) (upd G1 dx (.own x)) (.ref x::vs) (.s ρ1.length::xs):=.cons (by
    show (σ++[some (V.ref x)])[ρ1.length]?=_;rw[← R1.len,List.getElem?_append_right (Nat.le_refl _)];simp) (Tx.push (x1.mono g.g))
   have ea3:Xf (ρ1++[some (.m (.ins C []))]) (.s ρ1.length::xs)=some (.r (.ins C [])::as):=by
    have eq0:(ρ1++[some (L.m (.ins C []))])[ρ1.length]?=some (some (L.m (.ins C []))):=by rw[List.getElem?_append_right (Nat.le_refl _)];simp
    have ea0:mkArg (ρ1++[some (.m (.ins C []))]) (.s ρ1.length)=some (.r (.ins C [])):=by
     unfold mkArg;simp only[eq0]
    unfold Xf;rw[ea2,ea0]
   have nd3:(slots (.s ρ1.length::xs)).Nodup:=List.nodup_cons.mpr ⟨fun z=>Nat.lt_irrefl _ (hsl _ z),hnn.2⟩;refine⟨by rw[List.length_cons,x1.len];exact hnn.1,_,_,z6 R3 X3 ea3 nd3,?_⟩;have key:∀{y:D} {bs:List L} {G' H':Hp},Stp ((V.ref x::vs).map some) ((L.r (.ins C [])::as).map some) (upd G1 dx (.own x)) (upd (upd H1 dx (.own x)) x (.ins (cA K C) dx [])) ((V.ref x::vs).map some) ((L.r y::bs).map some) G' H'→Rel ⟨K.k,none⟩ ((V.ref x::vs).map some) G' H' ((L.r y::bs).map some)→
     Stp σ ρ1 G1 H1 σ (Yp ρ1 xs as bs) G' H'∧Rel K σ G' H' (Yp ρ1 xs as bs)∧MOk K G' H' (.ref x) y∧∀a,V.ref x=.ref a→H1 a=none∧¬Own σ (Yp ρ1 xs as bs) a:=fun {y bs G' H'} S' R'=>by
    obtain⟨S4,R4,_⟩:=Li R3 X3 ea3 nd3 S' R';have ep:Yp (ρ1++[some (.m (.ins C []))]) (.s ρ1.length::xs) (.r (.ins C [])::as) (.r y::bs)=Yp ρ1 xs as bs++[some (.m y)]:=by
     show Yp (putS (ρ1++[some (.m (.ins C []))]) ρ1.length y) xs as bs=_;have:putS (ρ1++[some (.m (.ins C []))]) ρ1.length y=ρ1++[some (.m y)]:=by
      unfold putS;rw[List.getElem?_append_right (Nat.le_refl _)];simp[L.put]
     rw[this];exact Cs hsl
    rw[ep]at S4 R4;have hl4:σ.length=(Yp ρ1 xs as bs).length:=by
     have:=R4.len;simp at this;exact this
    obtain⟨R5,m5,n5⟩:=Rel.pop hl4 R4;exact⟨Stp.pop R1.len hl4 g hx S4,R5,m5,fun a ea=>⟨by cases ea;exact hx,n5 a ea⟩⟩
   cases eF:F (.r (.ins C [])::as) with
   | bad=>rw[eF]at h;exact h.elim
   | ex ex bs=>
    rw[eF]at h;intro c d G' H' S' R' q;cases bs with
    | nil=>exact h.elim
    | cons b bs=>
     have pb:∃y,b=.r y:=by
      obtain⟨_,y,hy⟩:=S'.pin 0 (.ins C []) (by simp);simp at hy;exact⟨y,hy⟩
     obtain⟨y,rfl⟩:=pb;obtain⟨a,b,_⟩:=key S' R';exact h c d G' H' a b q
   | ok l bs=>
    rw[eF]at h;cases l with
    | d w=>
     cases w<;>first | exact h.elim | skip
     cases bs with
     | nil=>exact h.elim
     | cons b bs=>
      cases b<;>first | exact h.elim | skip
      rename_i y;intro v G' H' S' R' q;cases q;obtain⟨a,b,c,d⟩:=key S' R';exact⟨rfl,h (.ref x) G' H' a b ⟨c,d⟩⟩
    | m w=>exact h.elim
    | r w=>exact h.elim
    | p w=>exact h.elim
    | xh=>exact h.elim
    | u _ _=>exact h.elim
  ·exact h.elim
section
variable {X:Cx} {CX:CXT} {k:Nat} {f C:Addr} {fd:FuncData} {ps:List Str} {sp:Sp} {dvs:List V} {ds:List Value} {x:Str} {p pos:Pos} {e:Expr} {es:List Expr} {t:TA}
theorem qaZ {E:XK} {pins:List (Addr×Obj)} {σ:L2.St} {H:Hp} {s:Shared} {Q:VK} {us:List Value} {vs:List V} (M:Mk X.K C f) (F:FnOk X.prog X.w X.K X.mg X.base CX k f fd ps sp) (hr:Room (k+1) X.A) (hb:Binds X.K fd ps ds) (hd:Vals dvs ds)
  (hx:PassesAt CX X σ E) (I:Inv X pins σ H s) (r:Vals vs us)
  (h:∀x dx,H x=none→H dx=none→dx≠x→sp (.ref x::(vs++dvs)) (upd (upd H dx (.own x)) x (.ins C dx [])) (fun v H2=>v=.non∧Q (.ref x) H2) E) :
  wpAny (model X.prog X.w) X.A (call (.ref C) us) (EP X pins σ Q) X.xe s:=by
 have hq:=h (s.heap.objs.size+1) s.heap.objs.size (I.hok.fresh (Nat.le_succ _)) (I.hok.fresh (Nat.le_refl _)) (Nat.ne_of_lt (Nat.lt_succ_self _));have I2:=Inv.made (C:=C) I;have r2:Vals (V.ref (s.heap.objs.size+1)::(vs++dvs)) (Value.ref (s.heap.objs.size+1)::(us++ds)):=.cons rfl (r.append hd);have hl:(Value.ref (s.heap.objs.size+1)::us++ds).length=ps.length:=by
  have e:=r2.length;rw[F.len _ _ _ _ hq]at e;exact e.symm
 refine wpAny_call (make_map (f:=f) I.kIn M.makes M.init (beq_iff_eq.mp M.fn) (codeAny_mono (F.run _ X.stack _ _ ⟨Value.ref (s.heap.objs.size+1)::us,[]⟩ (Value.ref (s.heap.objs.size+1)::(us++ds)) _ _ E (hr.make C us [])
  (I2.env0.make C us []) (hb _ (Value.ref (s.heap.objs.size+1)::us) I2.kIn hl) r2 hq) fun r s' hq'=>?_))
 cases r with
 | error e=>exact hx pins _ _ e s' I2 hq'
 | ok fl=>
  cases fl with
  | ret u=>
   obtain⟨v,H',I3,rv,ev,q3⟩:=I2.after hq';subst ev;exact⟨rv,⟨V.ref (s.heap.objs.size+1),H',I3,rfl,q3⟩⟩
  | next=>exact False.elim hq'
  | brk=>exact False.elim hq'
  | cont=>exact False.elim hq'
theorem pe_mk {E:L2.St→XK} (M:Mk X.K C f) (F:FnOk X.prog X.w X.K X.mg X.base CX k f fd ps sp) (hr:Room (k+1) X.A) (hg:Gl X x) (hm:X.mg x=some (.ref C)) (hb:Binds X.K fd ps ds) (hd:Vals dvs ds) (hx:∀σ,PassesAt CX X σ (E σ))
  (ha:PA X (e::es) t) (hdb:(x == ("__debug__" : Str))=false:=by decide) (he:starEach (e::es) X.env=(false,eval e X.env)::starEach es X.env:=by rfl) (hpl:(backTo pos (starEach es X.env)).any (·.1)=false:=by rfl) :
  PE X (.Call (.Name x p) (e::es) [] pos) (tMk C sp E (qpG t dvs)):=by
 refine⟨fun pins s σ H Q I h=>?_⟩;refine wpAny_Call_Name_kw (ld_glob I hg hm ?_ hdb);refine PySem.W.callWith_K (h₀:=X.base) I.ok.mod.kin M.kp (thn (ha.run pos pins s σ H _ I h) fun us s1 ⟨vs,H1,I1,r,q⟩=>⟨I1.kIn,?_⟩) he hpl;exact qaZ M F hr hb hd (hx σ) I1 r q
end
structure MkB (P:Program) (w:World) (K:PySem.W.Frag) (mg:Str→Option Value) (base:Heap) (k:Nat) (C:Str) (n:Nat) (ms:List D) (R:List L→FRes):Prop where
 ex:∃f fd ps dvs ds,Mk K (cA K C) f∧FnOk P w K mg base (L2.CX P w) k f fd ps (spF K n R)∧Binds K fd ps ds∧Vals dvs ds∧∀G,DqA K G dvs ms
 g:mg C=some (.ref (cA K C))
theorem qn8 {X:Cx} {xa:Option XA} {W:WX} {C:Str} {n k:Nat} {ms:List D} {R:List L→FRes} {e:Expr} {es:List Expr} {am:AM} {p pos:Pos} (B:MkB X.prog X.w X.K X.mg X.base k C n ms R) (hr:Room (k+1) X.A) (tk:Takes X W) (ha:JA X xa W (e::es) am) (hg:Gl X C:=by rfl)
  (hdb:(C == ("__debug__" : Str))=false:=by decide) (he:starEach (e::es) X.env=(false,eval e X.env)::starEach es X.env:=by rfl) (hpl:(backTo pos (starEach es X.env)).any (·.1)=false:=by rfl):JF X xa W (.Call (.Name C p) (e::es) [] pos) (fMk C n R (qhu am ms)):=by
 obtain⟨f,fd,ps,dvs,ds,M,F,hb,hd,q⟩:=B.ex;obtain⟨_,h1,h2⟩:=ha;exact⟨_,pe_mk M F hr hg B.g hb hd (fun σ=>passAt tk σ) h1 hdb he hpl,qjX (qkJ h2 q)⟩
theorem qjB {X:Cx} {xa:Option XA} {W:WX} {C:Str} {n k:Nat} {ms:List D} {R:List L→FRes} {e:Expr} {es:List Expr} {am:AM} {p pos:Pos} (B:MkB X.prog X.w X.K X.mg X.base k C n ms R) (hr:Room (k+1) X.A) (tk:Takes X W) (ha:JA X xa W (e::es) am) (hg:Gl X C:=by rfl)
  (hdb:(C == ("__debug__" : Str))=false:=by decide) (he:starEach (e::es) X.env=(false,eval e X.env)::starEach es X.env:=by rfl) (hpl:(backTo pos (starEach es X.env)).any (·.1)=false:=by rfl):JE X xa W (.Call (.Name C p) (e::es) [] pos) (eF (fMk C n R (qhu am ms))):=by
 obtain⟨_,h1,h2⟩:=qn8 B hr tk ha hg hdb he hpl;exact⟨_,h1,h2.ev⟩
theorem qiw {X:Cx} {x y:Str} {j j2:_} {p p2 q q2 p3:Pos} {body:List Stmt} {rest:List MatchCase} {tb:TS} {tr:V→TS} (hu:X.A.units+64<cLine) (hb:PSs X body tb) (hr:PMs X rest tr) :
  PMs X (⟨.MatchOr [.MatchValue (.Constant (.str x) j p) p2,.MatchValue (.Constant (.str y) j2 q) q2] p3,none,body⟩::rest) (qdW X.K x tb (qdW X.K y tb tr)):=by
 refine⟨fun first pins s σ H D v u I r h=>?_⟩;refine wpAny_matchCases_cons (wpAny_matchPattern_Or (wpAny_matchFirst_cons (wpAny_matchPattern_Value ?_)));refine thn ((pe_str (X:=X) (x:=x) (j:=j) (pos:=p)).run pins s σ H (fun w H1=>w=.str x∧H1=H) I ⟨rfl,rfl⟩) fun xv s1 ⟨w,H1,I1,r1,ew,eH⟩=>?_;subst ew eH;refine thn (Zl hu pins s1 σ H1 v (.str x) u xv _ I1 r r1 h) fun c s2 ⟨w2,H2,I2,r2,b,ew2,q⟩=>?_;subst ew2;cases r2;refine wpAny_truthy_bool ?_;cases b with
 | true=>exact wpAny_pure (hb.run pins s2 σ H2 D I2 q)
 | false=>
  refine wpAny_matchFirst_cons (wpAny_matchPattern_Value ?_);refine thn ((pe_str (X:=X) (x:=y) (j:=j2) (pos:=_)).run pins s2 σ H2 (fun w H1=>w=.str y∧H1=H2) I2 ⟨rfl,rfl⟩) fun xv s3 ⟨w,H3,I3,r3,ew,eH⟩=>?_;subst ew eH;refine thn (Zl hu pins s3 σ H3 v (.str y) u xv _ I3 r r3 q) fun c s4 ⟨w4,H4,I4,r4,b,ew4,q4⟩=>?_;subst ew4;cases r4;refine wpAny_truthy_bool ?_;cases b with
  | true=>exact wpAny_pure (hb.run pins s4 σ H4 D I4 q4)
  | false=>exact wpAny_matchFirst_nil (hr.run false pins s4 σ H4 D v u I4 r q4)
theorem qjw {X:Cx} {xa:Option XA} {W:WX} {x y:Str} {j j2:_} {p p2 q q2 p3:Pos} {body:List Stmt} {rest:List MatchCase} {mb:SM} {mr:D→SM} (hu:X.A.units+64<cLine) (hb:JSs X xa W body mb) (hr:JM X xa W rest mr) :
  JM X xa W (⟨.MatchOr [.MatchValue (.Constant (.str x) j p) p2,.MatchValue (.Constant (.str y) j2 q) q2] p3,none,body⟩::rest) (Np x mb (Np y mb mr)):=
 let ⟨_,a,b⟩:=hb;let ⟨_,c,d⟩:=hr;⟨_,qiw hu a c,qck b (qck b d)⟩
abbrev pgA (K:PySem.W.Frag) (C m:Str):Addr:=unw K (maA K C m)
theorem qgX {K:PySem.W.Frag} {a:Addr} {d:He.DefD} (e:fnAt K a=d.val) (c:qhG K a d=true):∃fd,FunD K d.name d.qual d.params d.body d.scope (d.dvs K) (d.kws K) a fd:=by
 obtain⟨kp,c2⟩:=He.ba c;unfold fnAt at e;cases q:K.lookup a with
 | none=>
  rw[q]at c2;cases c2
 | some o=>
  obtain⟨oc,od,dt,osl⟩:=o;rw[q]at c2 e;cases dt with
  | func fd=>
   obtain⟨n1,n2,n3,n4,n5,n6,n7,n8,n9,n10,n11,n12,n13,n14,n15⟩:=fd;have e2:(some (n1,n2,n3,n4,n5,n6,n7,n15):He.FnW)=some (d.name,d.qual,d.params,.stmts d.body,d.scope,mainGlobals,[],builtinsNs):=e;simp only[Option.some.injEq,Prod.mk.injEq]at e2;obtain⟨h1,h2,h3,h4,h5,h6,h7,h8⟩:=e2;subst h1 h2 h3 h4 h5 h6 h7 h8;have c3:(PySem.W.codeIn K n13 d.qual && (He.dflB K n8 (d.dvs K) && He.kwdB K n9 (d.kws K)))=true:=c2;obtain⟨k1,k2⟩:=He.ba c3;obtain⟨k3,k4⟩:=He.ba k2;exact⟨_,⟨oc,od,n8,n9,n10,n11,n12,n13,n14,osl,rfl,q,k1,He.dflB_ok k3,He.kwdB_ok k4⟩,kp⟩
  | _=>cases c2
section
variable {fn:List He.DefD} {ms:List FO} {pr:List He.DefD} {ck:PySem.W.Frag→Bool} {K:PySem.W.Frag}
theorem xy.c (c:xy fn ms pr ck K):v7 fn ms ck K:=congrArg (fun z:AlP=>z.1) c
theorem xy.qiv (c:xy fn ms pr ck K) (i:Nat) {d:He.DefD} (h:pr[i]?=some d:=by rfl):∃fd,FunD K d.name d.qual d.params d.body d.scope (d.dvs K) (d.kws K) (unw K (He.fAd K d.at_)) fd:=by
 have c2:pr.all (fun d=>qhG K (unw K (He.fAd K d.at_)) d)=true:=congrArg (fun z:AlP=>z.2.1) c;have e:pr.map (fun d=>fnAt K (unw K (He.fAd K d.at_)))=pr.map He.DefD.val:=congrArg (fun z:AlP=>z.2.2) c;have e2:(pr.map fun d=>fnAt K (unw K (He.fAd K d.at_)))[i]?=(pr.map He.DefD.val)[i]?:=by rw[e]
 rw[List.getElem?_map,List.getElem?_map,h]at e2;exact qgX (Option.some.inj e2) (List.all_eq_true.mp c2 d (List.mem_of_getElem? h))
end
theorem qdT {S:PySem.W.Frag→Prop} {l:PySem.W.OpenLaw} {n k:Nat} {q:Program} {loose:List Str} {XP:(Str→Option Value)→Heap→Prop} {d:DefRec} {sx:Str} {nm:Str}
  (hn:l.most=some n) (hn2:n≤sizeLine) (hdf:d.params.defaults=[]) (hr:Room k callerA) (hnm:d.name=nm)
  (F:∀(w:World) (K:PySem.W.Frag) (mg:Str→Option Value) (h:Heap),K.In h→h.Ns mainGlobals mg→S K→
   mg nm=some (.ref (cA K nm))∧∃fd:FuncData,(∀(s:Shared) (u:Value),BindsTo s fd ⟨[u],[]⟩ [(sx,u)])∧∀base:Heap,FnOk l.prog w K mg base CX0 k (cA K nm) fd [sx] (Ax K n)) :
  PySem.W.WalkO q loose XP (fun _ h=>∃K:PySem.W.Frag,K.In h∧S K) l.row.toRowW d [] (fun f vs=>PySem.call f vs):=by
 refine L2.walk_ofE (n:=n) (k:=k) (x:=sx) (CX:=CX0) hn hn2 hdf hr (fun w mg fa h Y G hmg=>?_) (fun _ _ _ _ z=>z);obtain⟨K,KX,c⟩:=Y;obtain⟨hg,fd,hb,hF⟩:=F w K mg h KX G c;rw[hnm,hg]at hmg;have e:cA K nm=fa:=by injection hmg with e;injection e
 subst e;exact⟨K,fd,Ax K n,KX,hb,fun H a ns hl _ hS=>⟨a,ns,rfl,hS,hl,fun _=>rfl⟩,fun base _ _=>hF base⟩
structure FnP (P:Program) (w:World) (K:PySem.W.Frag) (mg:Str→Option Value) (base:Heap) (k:Nat) (C m:Str) (n:Nat) (R:List L→FRes):Prop where
 ex:∃fd ps,FnOk P w K mg base (L2.CX P w) k (pgA K C m) fd ps (spF K n R)∧Binds K fd ps []
theorem qfm {P:Program} {w:World} {K:PySem.W.Frag} {mg:Str→Option Value} {base:Heap} {C m x qual:Str} {st:Stmt} {N ps:List Str} {k:Nat} {body:SM} (F:∃fd,FunD K x qual (defArgs st) (defBody st) (defScope st) [] [] (pgA K C m) fd) (S:FnScope N ps (defScope st))
  (hbind:∀(kV doc pm:Value) (an:Option Addr) (cdv ct:Value) (us:List Value),us.length=ps.length→bindArgs (PySem.W.fnOf x qual (defArgs st) (defBody st) (defScope st) .none kV doc pm an cdv ct) ⟨us,[]⟩=pure (ps.zip us))
  (hb:∀(cdv:Value) (A:Around) (outer:List PySem.Env) (s:Shared) (H:Hp) (E:XK),Room k (A.deeper (envOfC qual (defScope st) s.heap.objs.size (pgA K C m) cdv))→
   JSs (cxOf (L2.CX P w) P w K mg base N qual (defScope st) (pgA K C m) cdv A outer s H E) none (fun cls d _ H=>E cls d H) (defBody st) body) :
  FnP P w K mg base (k+1) C m ps.length (Ze N.length body):=by
 obtain⟨fd,F⟩:=F;exact⟨⟨fd,ps,fn_ok (Ml F) S hb,(Ml F).binds hbind⟩⟩
structure PEnt (P:Program) (w:World) (K:PySem.W.Frag) (mg:Str→Option Value) (base:Heap) (k:Nat) (m:Str) (C:Str) (R:List L→FRes):Prop where
 ex:∃p g fd ps,Cls K (cA K C)∧PropOf K (cA K C) m p g∧FnOk P w K mg base (L2.CX P w) k g fd ps (spF K 1 R)∧Binds K fd ps []
def qdR (P:Program) (w:World) (K:PySem.W.Frag) (mg:Str→Option Value) (base:Heap) (k:Nat) (m:Str) (tb:MTb):Prop:=∀q∈tb,PEnt P w K mg base k m q.1 q.2
section
variable {P:Program} {w:World} {K:PySem.W.Frag} {mg:Str→Option Value} {base:Heap} {k j:Nat} {m C C2:Str} {R:List L→FRes} {tb:MTb}
theorem qal:qdR P w K mg base k m []:=fun _ h=>nomatch h
theorem jc (h:PEnt P w K mg base k m C R) (t:qdR P w K mg base k m tb):qdR P w K mg base k m ((C,R)::tb):=fun q hq=>by
 rcases List.mem_cons.mp hq with rfl | hq
 ·exact h
 ·exact t q hq
theorem qbY (c:qk7 K C m C2=true):Cls K (cA K C)∧PropOf K (cA K C) m (maA K C2 m) (pgA K C2 m):=by
 unfold qk7 at c;simp only[Bool.and_eq_true]at c;obtain⟨c0,c1,c2,c3,c4⟩:=c;refine⟨Bp c0,He.eqO_ok c1,He.eqO_ok c2,of_decide_eq_true c3,?_⟩;split at c4
 ·rename_i g r hr;refine⟨r,?_⟩;unfold pgA unw;rw[hr]
 ·cases c4
theorem qb5 (c:Cls K (cA K C)∧PropOf K (cA K C) m (maA K C2 m) (pgA K C2 m)) (F:FnP P w K mg base j C2 m 1 R) (hj:j≤k):PEnt P w K mg base k m C R:=by
 obtain⟨fd,ps,h,hb⟩:=F.ex;exact⟨_,_,fd,ps,c.1,c.2,h.mono hj,hb⟩
end
def qh2 (K:PySem.W.Frag) (tb:MTb) (ta:TE):TE:=fun σ H Q=>ta σ H fun x H1=>∃a C R dx fs,x=.ref a∧H1 a=some (.ins (cA K C) dx fs)∧tb.lookup C=some R∧spF K 1 R [x] H1 Q (fun _ _ _=>False)
theorem qf9 {X:Cx} {e:Expr} {f:Str} {pos:Pos} {k:Nat} {tb:MTb} {ta:TE} (he:PE X e ta) (T:qdR X.prog X.w X.K X.mg X.base k f tb) (hr:Room (k+1) X.A) (hab:attributeBase e f X.env (eval e X.env)=eval e X.env):PE X (.Attribute e f pos) (qh2 X.K tb ta):=by
 refine⟨fun pins s σ H Q I h=>?_⟩;refine attr_of hab (thn (he.run pins s σ H _ I h) fun u s1 ⟨x,H1,I1,rx,a,C,R,dx,fs,ex,ea,eR,q⟩=>?_);subst ex;obtain rfl:u=Value.ref a:=rx;obtain⟨p,g,fd,ps,hc,hp,F,hb⟩:=(T _ (F7 eR)).ex;exact getprop_ok (dvs:=[]) (ds:=[]) I1 ea hc hp F hr hb .nil (fun _ _ _ _ _ _ _ c=>by obtain⟨_,_,_,_,_,_,_,_,_,_,_,_,q⟩:=c;exact q) q
def qiL {α:Type}:Res α→Res α
 | .ex _ _=>.bad
 | r=>r
def qlz (tb:MTb):X→Env→Res X:=fun x ρ1=>match look ρ1 x with
 | some (.ins C _)=>(match tb.lookup C with
  | some R=>qiL (qbA 1 R [x] ρ1)
  | none=>.bad)
 | _=>.bad
def qha (tb:MTb) (ma:EM):EM:=fun ρ=>bindR (ma ρ) (qlz tb)
theorem qg6 {K:Kx} {W:WX} {tb:MTb} {ta:TE} {ma:EM} (ha:Yx K W ta ma):Yx K W (qh2 K.k tb ta) (qha tb ma):=fun σ G H ρ R Q h=>by
 unfold qha bindR at h;refine ha.fst R (fun x ρ1 e v G1 H1 S1 R1 x1=>?_) (fun e ρ1 q=>by rw[q]at h;exact h) (fun q=>by rw[q]at h;exact h);rw[e]at h;have h:=EPost.step S1 h;simp only at h;unfold qlz at h;split at h
 ·rename_i C fs el;split at h
  ·rename_i Rr eR;have q:Vw K G1 H1 v (.ins C fs):=Xn R1 x1 el;obtain⟨_,_,_,rfl,q1,q2,q3⟩:=q;refine⟨_,C,Rr,_,_,rfl,q1,eR,?_⟩;have h2:EPost K WF σ G1 H1 ρ1 Q (qbA 1 Rr [x] ρ1):=by
    cases e:qbA 1 Rr [x] ρ1 with
    | ok y ρ2=>rw[e]at h;exact h
    | ex y ρ2=>rw[e]at h;exact h.elim
    | bad=>rw[e]at h;exact h
   exact yv R1 (.cons x1 .nil) h2
  ·exact h.elim
 ·exact h.elim
theorem y5 {X:Cx} {xa:Option XA} {W:WX} {e:Expr} {f:Str} {pos:Pos} {k:Nat} {tb:MTb} {ma:EM} (T:qdR X.prog X.w X.K X.mg X.base k f tb) (hr:Room (k+1) X.A) (ho:JE X xa W e ma) (hab:attributeBase e f X.env (eval e X.env)=eval e X.env:=by rfl):JE X xa W (.Attribute e f pos) (qha tb ma):=
 let ⟨_,h1,h2⟩:=ho;⟨_,qf9 h1 T hr hab,qg6 h2⟩
theorem Sx {X:Cx} {xa:Option XA} {W:WX} {b:List Stmt}:JSs X xa W b (fun _=>.bad):=⟨fun _ _ _=>False,⟨fun _ _ _ _ _ _ h=>h.elim⟩,fun _ _ _ _ _ _ h=>h⟩
theorem yu {K:PySem.W.Frag} {C:Str} (q:qiY K C=true):Mk K (cA K C) (maA K C "__init__"):=by
 unfold qiY at q;simp only[Bool.and_eq_true]at q;exact⟨q.1,He.eqO_ok q.2.1,q.2.2.1,q.2.2.2⟩
theorem qe1 {P:Program} {w:World} {K:PySem.W.Frag} {mg:Str→Option Value} {base:Heap} {j k:Nat} {C:Str} {n:Nat} {R:List L→FRes} (M:Mk K (cA K C) (maA K C "__init__")) (F:FnM P w K mg base j C "__init__" n R) (g:mg C=some (.ref (cA K C))) (hj:j≤k):MkB P w K mg base k C n [] R:=by
 obtain⟨fd,ps,h,hb⟩:=F.ex;exact⟨⟨_,fd,ps,[],[],M,h.mono hj,hb,.nil,fun _=>.nil⟩,g⟩
def Dj (K:PySem.W.Frag) (G H:Hp) (bs:List Addr) (rows:List (List D)):Prop:=bs.length=rows.length∧∀(k:Nat) (b:Addr),bs[k]?=some b→∃ys ds,rows[k]?=some ds∧H b=some (.lst ys)∧DqA K G ys ds
structure NRel (K:Kx) (σ0:L2.St) (ρ0:Env) (G0 H0 Gm:Hp) (i:Nat) (rows:List (List D)) (σ:L2.St) (G H:Hp) (ρ:Env):Prop where
 rel:Rel K σ G H ρ
 stp:Stp σ0 ρ0 G0 H0 σ ρ G H
 mon:Same Gm G
 ex:∃(A:Addr) (bs:List Addr),σ[i]?=some (some (.ref A))∧H A=some (.lst (bs.map V.ref))∧(A::bs).Nodup∧(∀a∈A::bs,G a=none∧H0 a=none∧¬Own σ ρ a)∧Dj K.k G H bs rows
theorem ju {α:Type} {xs:List α} (h:xs.Nodup) {i j:Nat} {a:α} (hi:xs[i]?=some a) (hj:xs[j]?=some a):i=j:=by
 induction xs generalizing i j with
 | nil=>simp at hi
 | cons x xs ih=>
  obtain⟨h1,h2⟩:=List.nodup_cons.mp h;cases i with
  | zero=>
   cases j with
   | zero=>rfl
   | succ j=>
    simp at hi hj;subst hi;exact absurd (List.mem_of_getElem? hj) h1
  | succ i=>
   cases j with
   | zero=>
    simp at hi hj;subst hj;exact absurd (List.mem_of_getElem? hi) h1
   | succ j=>
    simp at hi hj;rw[ih h2 hi hj]
theorem Stp.updN {σ0 σ:L2.St} {ρ0 ρ:Env} {G0 H0 G H:Hp} {b:Addr} {o:HO} (S:Stp σ0 ρ0 G0 H0 σ ρ G H) (hb:H0 b=none):Stp σ0 ρ0 G0 H0 σ ρ G (upd H b o):=
 ⟨S.g,S.gf,fun a u h n=>by rw[upd_ne (fun z=>by rw[z,hb]at h;cases h)];exact S.fr a u h n,
  fun a h=>by
   by_cases q:a=b
   ·rw[q,upd_same];exact fun z=>nomatch z
   ·rw[upd_ne q];exact S.hn a h,S.ow,S.om,S.pin⟩
theorem Rel.updN {K:Kx} {σ:L2.St} {G H:Hp} {ρ:Env} {b:Addr} {o:HO} (R:Rel K σ G H ρ) (hg:G b=none) (hn:¬Own σ ρ b):Rel K σ G (upd H b o) ρ:=by
 refine⟨fun a u e=>?_,R.len,fun i l e=>?_,R.exo,R.sep⟩
 ·rw[upd_ne (fun z=>by rw[z,hg]at e;cases e)];exact R.same a u e
 ·obtain⟨v,h1,h2⟩:=R.at_ i l e;refine⟨v,h1,?_⟩;have ow:∀y,l.own=true→MOk K G H v y→MOk K G (upd H b o) v y:=fun y ol hm=>by
   refine hm.mono (Same.refl _) fun a ea=>?_;subst ea;obtain⟨c,ec,hc,_⟩:=hm.ref;cases ec;refine⟨hc,fun u hu=>?_⟩;rw[upd_ne (fun z=>hn ⟨i,l,e,ol,by rw[h1,z]⟩)];exact hu
  cases l with
  | d y=>exact h2
  | m y=>exact ow y rfl h2
  | r y=>exact ow y rfl h2
  | p y=>exact⟨ow y rfl h2.1,h2.2⟩
  | xh=>exact h2
  | u _ _=>exact h2
section
variable {K:Kx} {σ0 σ σ':L2.St} {ρ0 ρ ρ':Env} {G0 H0 Gm G H G' H':Hp} {i:Nat} {rows:List (List D)}
theorem NRel.step (N:NRel K σ0 ρ0 G0 H0 Gm i rows σ G H ρ) (S:Stp σ ρ G H σ' ρ' G' H') (R':Rel K σ' G' H' ρ') (hi:σ'[i]?=σ[i]?):NRel K σ0 ρ0 G0 H0 Gm i rows σ' G' H' ρ':=by
 obtain⟨A,bs,h1,h2,h3,h4,h5⟩:=N.ex;have th:∀a∈A::bs,H a≠none:=fun a ha=>by
  rcases List.mem_cons.mp ha with rfl | ha
  ·rw[h2];exact fun z=>nomatch z
  ·obtain⟨k,hk⟩:=List.getElem?_of_mem ha;obtain⟨ys,ds,_,q,_⟩:=h5.2 k a hk;rw[q];exact fun z=>nomatch z
 have kp:∀a∈A::bs,∀o,H a=some o→H' a=some o:=fun a ha o e=>S.fr a o e (h4 a ha).2.2;refine⟨R',N.stp.trans S,N.mon.trans S.g,A,bs,hi.trans h1,kp A List.mem_cons_self _ h2,h3,fun a ha=>⟨?_,(h4 a ha).2.1,fun q=>?_⟩,h5.1,fun k b hk=>?_⟩
 ·cases e:G' a with
  | none=>rfl
  | some o=>
   rcases S.gf a o e with q | q | q
   ·rw[(h4 a ha).1]at q;cases q
   ·exact absurd q (th a ha)
   ·exact absurd q.own (h4 a ha).2.2
 ·rcases S.ow a q with q | q
  ·exact (h4 a ha).2.2 q
  ·exact th a ha q
 ·obtain⟨ys,ds,e1,e2,e3⟩:=h5.2 k b hk;exact⟨ys,ds,e1,kp b (List.mem_cons_of_mem _ (List.mem_of_getElem? hk)) _ e2,e3.mono S.g⟩
theorem NRel.put {k:Nat} {b:Addr} {ys:List V} {ds:List D} (N:NRel K σ0 ρ0 G0 H0 Gm i rows σ G H ρ) {A:Addr} {bs:List Addr} (h1:σ[i]?=some (some (.ref A))) (h2:H A=some (.lst (bs.map V.ref))) (h3:(A::bs).Nodup) (h4:∀a∈A::bs,G a=none∧H0 a=none∧¬Own σ ρ a) (h5:Dj K.k G H bs rows)
  (hk:bs[k]?=some b) (q:DqA K G ys ds):NRel K σ0 ρ0 G0 H0 Gm i (rows.set k ds) σ G (upd H b (.lst ys)) ρ:=by
 have hb:=h4 b (List.mem_cons_of_mem _ (List.mem_of_getElem? hk));have hAb:A≠b:=fun z=>(List.nodup_cons.mp h3).1 (by rw[z];exact List.mem_of_getElem? hk);refine⟨N.rel.updN hb.1 hb.2.2,N.stp.updN hb.2.1,N.mon,A,bs,h1,by rw[upd_ne hAb];exact h2,h3,h4,by rw[List.length_set];exact h5.1,fun j c hj=>?_⟩;by_cases e:k=j
 ·subst e;rw[hk]at hj;cases Option.some.inj hj;have hl:k<rows.length:=by rw[← h5.1];exact (List.getElem?_eq_some_iff.mp hk).1
  exact⟨ys,ds,List.getElem?_set_self hl,upd_same,q⟩
 ·obtain⟨zs,es,e1,e2,e3⟩:=h5.2 j c hj;refine⟨zs,es,by rw[List.getElem?_set_ne e];exact e1,?_,e3⟩;rw[upd_ne fun z=>e (ju (List.nodup_cons.mp h3).2 (by rw[z];exact hk) hj)];exact e2
theorem Dj.upd {bs:List Addr} {rows:List (List D)} {a:Addr} {o:HO} {K:PySem.W.Frag} (h:Dj K G H bs rows) (n:a∉bs):Dj K G (L2.upd H a o) bs rows:=
 ⟨h.1,fun k b hk=>by
  obtain⟨ys,ds,e1,e2,e3⟩:=h.2 k b hk;exact⟨ys,ds,e1,by rw[upd_ne (fun z=>n (by rw[← z];exact List.mem_of_getElem? hk))];exact e2,e3⟩⟩
end
inductive NR where
 | nx (rows:List (List D)) (ρ:Env) | rt (d:D) (ρ:Env) | ex (e:Exn) (ρ:Env) | bad
abbrev NM:=List (List D)→Env→NR
def As (K:Kx) (W:WX) (σ0:L2.St) (ρ0:Env) (G0 H0 Gm:Hp) (i:Nat) (D:Ends):NR→Prop
 | .nx rows ρ'=>∀σ' G' H',NRel K σ0 ρ0 G0 H0 Gm i rows σ' G' H' ρ'→D.nx σ' H'
 | .rt d ρ'=>∀σ' v G' H',Stp σ0 ρ0 G0 H0 σ' ρ' G' H'→Rel K σ' G' H' ρ'→Dq K G' v d→D.rt v H'
 | .ex e ρ'=>∀c d σ' G' H',Stp σ0 ρ0 G0 H0 σ' ρ' G' H'→Rel K σ' G' H' ρ'→ExOk K G' c d e→W c d σ' H'
 | .bad=>False
def Nt (K:Kx) (W:WX) (i:Nat) (t:TS) (M:NM):Prop:=∀σ0 ρ0 G0 H0 Gm rows σ G H ρ,NRel K σ0 ρ0 G0 H0 Gm i rows σ G H ρ→∀D,As K W σ0 ρ0 G0 H0 Gm i D (M rows ρ)→t D σ H
section
variable {K:Kx} {W:WX} {i:Nat}
theorem As.x {σ0 σ:L2.St} {ρ0 ρ ρ1:Env} {G0 H0 Gm G H:Hp} {rows:List (List D)} {D:Ends} {e:Exn} (N:NRel K σ0 ρ0 G0 H0 Gm i rows σ G H ρ) (h:As K W σ0 ρ0 G0 H0 Gm i D (.ex e ρ1)):Wm K W σ G H ρ e ρ1:=fun c d G' H' S R q=>h c d σ G' H' (N.stp.trans S) R q
def qef:NM:=fun rows ρ=>.nx rows ρ
theorem qgn:Nt K W i tNext qef:=fun σ0 ρ0 G0 H0 Gm rows σ G H ρ N D h=>h σ G H N
def qar (M N:NM):NM:=fun rows ρ=>match M rows ρ with
 | .nx qbS ρ1=>N qbS ρ1
 | r=>r
theorem qgl {t u:TS} {M M2:NM} (ht:Nt K W i t M) (hu:Nt K W i u M2):Nt K W i (tSeq t u) (qar M M2):=fun σ0 ρ0 G0 H0 Gm rows σ G H ρ N D h=>by
 refine ht σ0 ρ0 G0 H0 Gm rows σ G H ρ N { D with nx:=u D } ?_;unfold qar at h;cases e:M rows ρ with
 | bad=>rw[e]at h;exact h
 | ex x ρ1=>rw[e]at h;exact h
 | rt d ρ1=>rw[e]at h;exact h
 | nx qbS ρ1=>
  rw[e]at h;exact fun σ' G' H' N'=>hu _ _ _ _ _ _ _ _ _ _ N' D h
def qiN (M1 M2:NM) (rows:List (List D)) (r:Res Bool):NR:=match r with
 | .ok true ρ1=>M1 rows ρ1
 | .ok false ρ1=>M2 rows ρ1
 | .ex e ρ1=>.ex e ρ1
 | .bad=>.bad
def nIf (c:TM) (M1 M2:NM):NM:=fun rows ρ=>qiN M1 M2 rows (c ρ)
theorem qiJ {tc:TT} {t u:TS} {c:TM} {M1 M2:NM} (hc:Ee K W tc c) (ht:Nt K W i t M1) (hu:Nt K W i u M2):Nt K W i (tIfS tc t u) (nIf c M1 M2):=fun σ0 ρ0 G0 H0 Gm rows σ G H ρ N D h=>by
 unfold nIf qiN at h;refine hc.fst N.rel (fun b ρ1 e G1 H1 S1 R1=>?_) (fun e ρ1 q=>by rw[q]at h;exact As.x N h) (fun q=>by rw[q]at h;exact h);rw[e]at h;have N1:=N.step S1 R1 rfl;cases b with
 | true=>exact ht _ _ _ _ _ _ _ _ _ _ N1 _ h
 | false=>exact hu _ _ _ _ _ _ _ _ _ _ N1 _ h
def qcj:NM:=fun rows ρ=>if rows.length<mx then .nx (rows++[[]]) ρ else .bad
theorem qed:Nt K W i (tDrop (tBM K "list" rAppend (tVar i) (tCons (tLst tNil) tNil))) qcj:=fun σ0 ρ0 G0 H0 Gm rows σ G H ρ N D h=>by
 unfold qcj at h;split at h
 ·rename_i hz;obtain⟨A,bs,h1,h2,h3,h4,h5⟩:=N.ex;refine⟨_,h1,ty_list h2,Nat.zero_le _,fun p hp=>?_⟩;have pA:p≠A:=fun z=>by rw[z,h2]at hp;cases hp
  have pb:p∉bs:=fun z=>by
   obtain⟨k,hk⟩:=List.getElem?_of_mem z;obtain⟨_,_,_,q,_⟩:=h5.2 k p hk;rw[hp]at q;cases q
  have hA2:(upd H p (.lst [])) A=some (.lst (bs.map V.ref)):=by rw[upd_ne (fun z=>pA z.symm)];exact h2
  refine⟨A,bs.map V.ref,.ref p,rfl,rfl,hA2,by rw[List.length_map,h5.1];exact Cf hz,?_⟩;have hGp:G p=none:=N.rel.same.free hp;have hop:¬Own σ ρ p:=fun o=>Own.there N.rel o hp;have h0p:H0 p=none:=N.stp.backS hp;have hAA:=h4 A List.mem_cons_self;refine h σ G _ ⟨(N.rel.updN hGp hop).updN hAA.1 hAA.2.2,(N.stp.updN h0p).updN hAA.2.1,N.mon,A,bs++[p],h1,by rw[upd_same];simp,?_,fun a ha=>?_,by simp[h5.1],fun k b hk=>?_⟩
  ·rw[← List.cons_append];refine List.nodup_append.mpr ⟨h3,by simp,fun a ha b hb=>?_⟩;have:b=p:=by simpa using hb
   subst this;rcases List.mem_cons.mp ha with rfl | ha
   ·exact fun z=>pA z.symm
   ·exact fun z=>pb (by rw[← z];exact ha)
  ·rcases List.mem_cons.mp ha with rfl | ha
   ·exact hAA
   ·rcases List.mem_append.mp ha with ha | ha
    ·exact h4 a (List.mem_cons_of_mem _ ha)
    ·have:a=p:=by simpa using ha
     subst this;exact⟨hGp,h0p,hop⟩
  ·by_cases hlt:k<bs.length
   ·rw[List.getElem?_append_left hlt]at hk;obtain⟨ys,ds,e1,e2,e3⟩:=h5.2 k b hk;have hbA:b≠A:=fun z=>(List.nodup_cons.mp h3).1 (by rw[← z];exact List.mem_of_getElem? hk);have hbp:b≠p:=fun z=>pb (by rw[← z];exact List.mem_of_getElem? hk);exact⟨ys,ds,by rw[List.getElem?_append_left (by rw[← h5.1];exact hlt)];exact e1,by rw[upd_ne hbA,upd_ne hbp];exact e2,e3⟩
   ·have hk2:k=bs.length:=by
     have:=(List.getElem?_eq_some_iff.mp hk).1;simp at this;omega
    subst hk2;rw[List.getElem?_append_right (Nat.le_refl _)]at hk;simp at hk;subst hk;refine⟨[],[],by rw[h5.1,List.getElem?_append_right (Nat.le_refl _)];simp,by rw[upd_ne pA,upd_same],.nil⟩
 ·exact h.elim
abbrev qd5 (K:PySem.W.Frag):List V→Hp→VK→Prop:=qio K
def yt (i j:Nat):NM:=fun rows ρ=>match rows.getLast? with
 | some ds=>(match Bz ρ j (.d (.tup ds)) with
  | some ρ'=>if j≠i then .nx rows.dropLast ρ' else .bad
  | none=>.bad)
 | none=>.bad
theorem qec {j:Nat}:Nt K W i (tAsg (tCB (qd5 K) (tCons (tBM0 K "list" rPop (tVar i)) tNil)) (gName j)) (yt i j):=fun σ0 ρ0 G0 H0 Gm rows σ G H ρ N D h=>by
 unfold yt at h;split at h
 ·rename_i ds hds;split at h
  ·rename_i ρ' e;split at h
   ·rename_i hji;obtain⟨A,bs,h1,h2,h3,h4,h5⟩:=N.ex;have hne:rows≠[]:=fun z=>by subst z;simp at hds
    have hlen:0<rows.length:=List.length_pos_iff.mpr hne;have hbl:bs.length-1<bs.length:=by rw[h5.1];omega
    have hbk:bs[bs.length-1]?=some (bs[bs.length-1]):=List.getElem?_eq_getElem hbl;generalize bs[bs.length-1]=b at hbk;obtain⟨ys,ds',e1,e2,e3⟩:=h5.2 _ b hbk;have hdd:ds'=ds:=by
     rw[List.getLast?_eq_getElem?]at hds;rw[h5.1,hds]at e1;exact (Option.some.inj e1).symm
    subst hdd;have hbA:b≠A:=fun z=>(List.nodup_cons.mp h3).1 (by rw[← z];exact List.mem_of_getElem? hbk);have hAA:=h4 A List.mem_cons_self;refine⟨_,h1,ty_list h2,A,bs.map V.ref,.ref b,rfl,rfl,h2,by rw[List.length_map,List.getElem?_map,hbk];rfl,b,ys,rfl,.inl ⟨.inl (.inl (by rw[upd_ne hbA];exact e2)),fun p o ho hp=>?_⟩⟩;have N1:NRel K σ0 ρ0 G0 H0 Gm i rows.dropLast σ G (upd H A (.lst ((bs.map V.ref).dropLast))) ρ:=by
     refine⟨N.rel.updN hAA.1 hAA.2.2,N.stp.updN hAA.2.1,N.mon,A,bs.dropLast,h1,by rw[upd_same,List.map_dropLast],?_,fun a ha=>h4 a ?_,by simp[h5.1],fun k c hk=>?_⟩
     ·refine List.nodup_cons.mpr ⟨fun z=>(List.nodup_cons.mp h3).1 (List.dropLast_subset _ z),(List.nodup_cons.mp h3).2.sublist (List.dropLast_sublist _)⟩
     ·rcases List.mem_cons.mp ha with rfl | ha
      ·exact List.mem_cons_self
      ·exact List.mem_cons_of_mem _ (List.dropLast_subset _ ha)
     ·have hlt:k<bs.dropLast.length:=(List.getElem?_eq_some_iff.mp hk).1;rw[List.getElem?_dropLast]at hk;rw[List.length_dropLast]at hlt;rw[if_pos hlt]at hk;obtain⟨zs,es,f1,f2,f3⟩:=h5.2 k c hk;have hcA:c≠A:=fun z=>(List.nodup_cons.mp h3).1 (by rw[← z];exact List.mem_of_getElem? hk);exact⟨zs,es,by rw[List.getElem?_dropLast,if_pos (by rw[← h5.1];exact hlt)];exact f1,by rw[upd_ne hcA];exact f2,f3⟩
    have g:=Gro.new (o:=.frz o (.tup ys)) N1.rel.same hp;have N2:=N1.step (g.stp (σ:=σ) (ρ:=ρ)) (N1.rel.gro g) rfl;have q:Dq K (upd G p (.frz o (.tup ys))) (.ref p) (.tup ds'):=.tup (.inl ⟨o,upd_same,ho⟩) (e3.mono g.g);obtain⟨S3,R3⟩:=Ll N2.rel q e;exact h _ _ _ (N2.step S3 R3 (List.getElem?_set_ne hji))
   ·exact h.elim
  ·exact h.elim
 ·exact h.elim
def qas (k:Nat) (rows:List (List D)) (o:Option (D×Env)):NR:=match o with
 | some (d,ρ3)=>(match rows[k]? with
  | some ds=>if ds.length<mx then .nx (rows.set k (ds++[d])) ρ3 else .bad
  | none=>.bad)
 | none=>.bad
def jv (k:Nat) (rows:List (List D)) (r:Res X):NR:=match r with
 | .ok y ρ2=>qas k rows (fz ρ2 y)
 | .ex e ρ2=>.ex e ρ2
 | .bad=>.bad
def qau (me:EM) (rows:List (List D)) (r:Res X):NR:=match r with
 | .ok (.d (.int z)) ρ1=>(match L2.ixN rows.length z with
  | some k=>jv k rows (me ρ1)
  | none=>.bad)
 | .ex e ρ1=>.ex e ρ1
 | _=>.bad
def qhH (mk me:EM):NM:=fun rows ρ=>qau me rows (mk ρ)
theorem qgp {tk te:TE} {mk me:EM} (hk:Yx K W tk mk) (he:Yx K W te me):Nt K W i (tDrop (tBM K "list" rAppend (tOp (rIxL K) (tVar i) tk) (tCons te tNil))) (qhH mk me):=fun σ0 ρ0 G0 H0 Gm rows σ G H ρ N D h=>by
 unfold qhH qau at h;obtain⟨_,_,h1,_⟩:=N.ex;refine⟨_,h1,hk.fst N.rel (fun x ρ1 e v G1 H1 S1 R1 x1=>?_) (fun e ρ1 q=>by rw[q]at h;exact As.x N h) (fun q=>by rw[q]at h;exact h)⟩;rw[e]at h;have N1:=N.step S1 R1 rfl;split at h
 ·rename_i z ρ2 eq;cases eq;split at h
  ·rename_i k ek;have x1:Dq K G1 v (.int z):=x1;cases x1;obtain⟨A,bs,g1,g2,g3,g4,g5⟩:=N1.ex;have hAeq:V.ref _=V.ref A:=Option.some.inj (Option.some.inj (h1.symm.trans g1));have hkl:k<bs.length:=by rw[g5.1];exact (L2.ixN_seq ek).2.1
   have hbk:bs[k]?=some (bs[k]):=List.getElem?_eq_getElem hkl;generalize bs[k]=b at hbk;obtain⟨ys,ds,e1,e2,e3⟩:=g5.2 k b hbk;have hat:L2.atI (bs.map V.ref) z=some (.ref b):=by
    unfold L2.atI;rw[List.length_map,g5.1,ek];show (bs.map V.ref)[k]?=_;rw[List.getElem?_map,hbk];rfl
   refine⟨A,bs.map V.ref,z,.ref b,hAeq,rfl,.inl (.inl g2),hat,ty_list e2,?_⟩;unfold jv at h;refine he.fst N1.rel (fun y ρ3 e' u G2 H2 S2 R2 x2=>?_) (fun e ρ1 q=>by rw[q]at h;exact As.x N1 h) (fun q=>by rw[q]at h;exact h);rw[e']at h;simp only at h;unfold qas at h;split at h
   ·rename_i d ρ4 ef;obtain⟨G3,S3,R3,q3⟩:=Bk R2 x2 ef;have N3:=(N1.step S2 R2 rfl).step S3 R3 rfl;split at h
    ·rename_i ds2 eds;split at h
     ·rename_i hz;rw[e1]at eds;cases Option.some.inj eds;obtain⟨A',bs',k1,k2,k3,k4,k5⟩:=N3.ex;have hA':A'=A:=by
       rw[g1]at k1;cases Option.some.inj (Option.some.inj k1);rfl
      subst hA';have hkp:H2 A'=some (.lst (bs.map V.ref)):=S2.fr _ _ g2 (g4 A' List.mem_cons_self).2.2;have hbs:bs'=bs:=by
       rw[hkp]at k2;have e0:bs.map V.ref=bs'.map V.ref:=by injection (Option.some.inj k2)
       have inj:∀{xs ys:List Addr},xs.map V.ref=ys.map V.ref→xs=ys:=fun {xs}=>by
        induction xs with
        | nil=>intro ys h;cases ys with
         | nil=>rfl
         | cons _ _=>cases h
        | cons x xs ih=>
         intro ys h;cases ys with
         | nil=>cases h
         | cons y ys=>
          simp only[List.map_cons,List.cons.injEq]at h;have:=h.1;cases this;rw[ih h.2]
       exact (inj e0).symm
      subst hbs;obtain⟨ys3,ds3,m1,m2,m3⟩:=k5.2 k b hbk;rw[e1]at m1;cases Option.some.inj m1;refine⟨b,ys3,u,rfl,rfl,m2,by rw[m3.length];exact Cf hz,?_⟩;exact h _ _ _ (NRel.put N3 k1 k2 k3 k4 k5 hbk (m3.append (.one q3)))
     ·exact h.elim
    ·exact h.elim
   ·exact h.elim
  ·exact h.elim
 ·rename_i eq;cases eq
 ·exact h.elim
def qee (rows:List (List D)) (r:Res X):NR:=match r with
 | .ok (.d (.int z)) ρ1=>(match L2.atI rows z with
  | some ds=>.rt (.tup ds) ρ1
  | none=>.bad)
 | .ex e ρ1=>.ex e ρ1
 | _=>.bad
def qiM (mk:EM):NM:=fun rows ρ=>qee rows (mk ρ)
theorem qgm {tk:TE} {mk:EM} (hk:Yx K W tk mk):Nt K W i (tRet (tCB (qd5 K) (tCons (tOp (rIxL K) (tVar i) tk) tNil))) (qiM mk):=fun σ0 ρ0 G0 H0 Gm rows σ G H ρ N D h=>by
 unfold qiM qee at h;obtain⟨_,_,h1,_⟩:=N.ex;refine⟨_,h1,hk.fst N.rel (fun x ρ1 e v G1 H1 S1 R1 x1=>?_) (fun e ρ1 q=>by rw[q]at h;exact As.x N h) (fun q=>by rw[q]at h;exact h)⟩;rw[e]at h;have N1:=N.step S1 R1 rfl;split at h
 ·rename_i z ρ2 eq;cases eq;split at h
  ·rename_i ds ek;have x1:Dq K G1 v (.int z):=x1;cases x1;obtain⟨A,bs,g1,g2,g3,g4,g5⟩:=N1.ex;have hAeq:V.ref _=V.ref A:=Option.some.inj (Option.some.inj (h1.symm.trans g1));unfold L2.atI at ek;obtain⟨k,ek1,ek2⟩:=Option.bind_eq_some_iff.mp ek;have hkl:k<bs.length:=by rw[g5.1];exact (L2.ixN_seq ek1).2.1
   have hbk:bs[k]?=some (bs[k]):=List.getElem?_eq_getElem hkl;generalize bs[k]=b at hbk;obtain⟨ys,ds',e1,e2,e3⟩:=g5.2 k b hbk;have e1:rows[k]?=some ds':=e1;rw[ek2]at e1;cases Option.some.inj e1;have hat:L2.atI (bs.map V.ref) z=some (.ref b):=by
    unfold L2.atI;rw[List.length_map,g5.1,ek1];show (bs.map V.ref)[k]?=_;rw[List.getElem?_map,hbk];rfl
   refine⟨A,bs.map V.ref,z,.ref b,hAeq,rfl,.inl (.inl g2),hat,b,ys,rfl,.inl ⟨.inl (.inl e2),fun p o ho hp=>?_⟩⟩;have g:=Gro.new (o:=.frz o (.tup ys)) N1.rel.same hp;exact h σ (.ref p) _ _ (N1.stp.trans g.stp) (N1.rel.gro g) (.tup (.inl ⟨o,upd_same,ho⟩) (e3.mono g.g))
  ·exact h.elim
 ·rename_i eq;cases eq
 ·exact h.elim
def qlf (js:List Nat):NR→NR
 | .nx rows ρ=>if Nv ρ js=true then .nx rows (Vz ρ js) else .bad
 | r=>r
def nFg (js:List Nat) (M:NM):NM:=fun rows ρ=>qlf js (M rows ρ)
theorem qeY {js:List Nat} {t:TS} {M:NM} (ht:Nt K W i t M):Nt K W i t (nFg js M):=fun σ0 ρ0 G0 H0 Gm rows σ G H ρ N D h=>by
 refine ht _ _ _ _ _ _ _ _ _ _ N D ?_;unfold nFg at h;cases e:M rows ρ with
 | bad=>rw[e]at h;exact h
 | ex x ρ1=>rw[e]at h;exact h
 | rt d ρ1=>rw[e]at h;exact h
 | nx qbS ρ1=>
  rw[e]at h;unfold qlf at h;simp only at h;split at h
  ·rename_i hw;intro σ' G' H' N';obtain⟨S2,R2⟩:=Lg N'.rel hw;exact h σ' G' H' (N'.step S2 R2 rfl)
  ·exact h.elim
def Pt (gm:GM) (M:NM):List D→NM
 | [],rows,ρ=>.nx rows ρ
 | d::ds,rows,ρ=>match gm d ρ with
  | none=>.bad
  | some ρ1=>(match M rows ρ1 with
   | .nx Ls ρ2=>Pt gm M ds Ls ρ2
   | r=>r)
def qeg (gm:GM) (M:NM) (rows:List (List D)) (r:Res (List D)):NR:=match r with
 | .ok ds ρ1=>Pt gm M ds rows ρ1
 | .ex e ρ1=>.ex e ρ1
 | .bad=>.bad
def qiO (im:IM) (gm:GM) (M:NM):NM:=fun rows ρ=>qeg gm M rows (im ρ)
theorem qgo {js:List Nat} {wi:TI} {g:TG} {tb:TS} {im:IM} {gm:GM} {M:NM} (hi:qeQ K W wi im) (hg:GOk K js g gm) (hb:Nt K W i tb M) (hj:i∉js):Nt K W i (tFor wi g tb) (qiO im gm M):=fun σ0 ρ0 G0 H0 Gm rows σ G H ρ N D h=>by
 unfold qiO qeg at h;refine hi.fst N.rel (fun ds ρ1 e J G1 H1 S1 R1 wk=>?_) (fun e ρ1 q=>by rw[q]at h;exact As.x N h) (fun q=>by rw[q]at h;exact h);rw[e]at h;have N1:=N.step S1 R1 rfl;simp only at h;have N1':NRel K σ0 ρ0 G0 H0 G1 i rows σ G1 H1 ρ1:=⟨N1.rel,N1.stp,Same.refl _,N1.ex⟩;refine⟨fun k m σ' H'=>m=ds.length-k∧k≤ds.length∧∃G' ρ' rows',NRel K σ0 ρ0 G0 H0 G1 i rows' σ' G' H' ρ'∧As K W σ0 ρ0 G0 H0 Gm i D (Pt gm M (ds.drop k) rows' ρ'),⟨ds.length,by simp,Nat.zero_le _,G1,ρ1,rows,N1',by simpa using h⟩,?_⟩;rintro k m σ' H' ⟨rfl,hk,G',ρ',rows',N',h'⟩;obtain⟨go,stop⟩:=wk G' H' N'.mon N'.rel.same;by_cases hlt:k<ds.length
 ·obtain⟨d,hd⟩:∃d,ds[k]?=some d:=⟨ds[k],List.getElem?_eq_getElem hlt⟩;obtain⟨hgo,hy⟩:=go k d hd;refine .inr ⟨hgo,fun σ2 H2=>∃G2 ρ2 Ls,NRel K σ0 ρ0 G0 H0 G1 i Ls σ2 G2 H2 ρ2∧As K W σ0 ρ0 G0 H0 Gm i D (Pt gm M (ds.drop (k+1)) Ls ρ2),fun σ2 H2 ⟨G2,ρ2,Ls,R2,h2⟩=>⟨ds.length-(k+1),by omega,rfl,hlt,G2,ρ2,Ls,R2,h2⟩,fun x H2 y=>?_⟩;obtain⟨G2,gr,q2⟩:=hy x H2 y;rw[zj hd]at h';unfold Pt at h';have N2:=N'.step gr.stp (N'.rel.gro gr) rfl;split at h'
  ·exact h'.elim
  ·rename_i ρ2 e2;refine hg _ _ _ _ _ _ _ N2.rel q2 e2 _ fun σ2 T S3 R3=>?_;have N3:=N2.step S3 R3 (T.out i hj);refine hb σ0 ρ0 G0 H0 G1 rows' σ2 G2 H2 ρ2 N3 _ ?_;cases eb:M rows' ρ2 with
   | bad=>rw[eb]at h';exact h'
   | ex x ρ3=>rw[eb]at h';exact h'
   | rt d ρ3=>rw[eb]at h';exact h'
   | nx qmK ρ3=>
    rw[eb]at h';exact fun σ4 G4 H4 N4=>⟨G4,ρ3,qmK,N4,h'⟩
 ·have ei:k=ds.length:=by omega
  subst ei;rw[List.drop_length]at h';exact .inl ⟨stop,h' σ' G' H' ⟨N'.rel,N'.stp,N1.mon.trans N'.mon,N'.ex⟩⟩
def qlg:NR→Res Fl
 | .nx _ ρ'=>.ok .nx ρ'
 | .rt d ρ'=>.ok (.rt (.d d)) ρ'
 | .ex e ρ'=>.ex e ρ'
 | .bad=>.bad
def qbR (i:Nat) (M:NM):SM:=fun ρ=>match ρ[i]? with
 | some none=>qlg (M [[]] ρ)
 | _=>.bad
theorem qfQ {u:TS} {M:NM} (hu:Nt K W i u M):Di K W (tSeq (tAsg (tLst (tCons (tLst tNil) tNil)) (gName i)) u) (qbR i M):=fun σ G H ρ R D h=>by
 unfold qbR at h;split at h
 ·rename_i hi;refine⟨Nat.zero_le _,fun b hb=>⟨by show 1≤_;exact (by rw[sizeLine_eq];decide),fun A hA=>?_⟩⟩;have hil:i < σ.length:=by rw[R.len];exact (List.getElem?_eq_some_iff.mp hi).1
  have hbA:b≠A:=fun z=>by subst z;rw[upd_same]at hA;cases hA
  have hA0:H A=none:=by rw[upd_ne (fun z=>hbA z.symm)]at hA;exact hA
  have gb:G b=none:=R.same.free hb;have gA:G A=none:=R.same.free hA0;have nb:¬Own σ ρ b:=fun o=>Own.there R o hb;have nA:¬Own σ ρ A:=fun o=>Own.there R o hA0;have R2:=(R.updN (o:=.lst []) gb nb).updN (o:=.lst [.ref b]) gA nA;have S2:=((Stp.refl σ ρ G H).updN (o:=.lst []) hb).updN (o:=.lst [.ref b]) hA0;have own:∀{j:Nat} {l:L} {c:Addr},ρ[j]?=some (some l)→(σ.set i (some (V.ref A)))[j]?=some (some (.ref c))→σ[j]?=some (some (.ref c)):=fun {j l c} e1 e3=>by
   have:i≠j:=fun z=>by subst z;rw[hi]at e1;cases e1
   rw[List.getElem?_set_ne this]at e3;exact e3
  have oo:∀{c:Addr},Own (σ.set i (some (.ref A))) ρ c→Own σ ρ c:=fun {c} ⟨j,l,e1,e2,e3⟩=>⟨j,l,e1,e2,own e1 e3⟩;have om:∀{c:Addr},Bq (σ.set i (some (.ref A))) ρ c→Bq σ ρ c:=fun {c} ⟨j,l,e1,e2,e3⟩=>⟨j,l,e1,e2,own e1 e3⟩;have R3:Rel K (σ.set i (some (.ref A))) G (upd (upd H b (.lst [])) A (.lst [.ref b])) ρ:=by
   refine⟨R2.same,by rw[List.length_set];exact R2.len,fun j l e=>?_,R2.exo,fun j k l l' c hjk e1 e2 o1 o2 e3 e4=>R2.sep j k l l' c hjk e1 e2 o1 o2 (own e1 e3) (own e2 e4)⟩;have:i≠j:=fun z=>by subst z;rw[hi]at e;cases e
   rw[List.getElem?_set_ne this];exact R2.at_ j l e
  have S3:Stp σ ρ G H (σ.set i (some (.ref A))) ρ G (upd (upd H b (.lst [])) A (.lst [.ref b])):=by
   refine⟨S2.g,S2.gf,S2.fr,S2.hn,fun c h=>S2.ow c (oo h),fun c h=>S2.om c (om h),fun j x e=>⟨?_,x,e⟩⟩;have:i≠j:=fun z=>by subst z;rw[hi]at e;cases e
   rw[List.getElem?_set_ne this]
  have N:NRel K σ ρ G H G i [[]] (σ.set i (some (.ref A))) G (upd (upd H b (.lst [])) A (.lst [.ref b])) ρ:=by
   refine⟨R3,S3,Same.refl _,A,[b],List.getElem?_set_self hil,by rw[upd_same];rfl,?_,fun a ha=>?_,rfl,fun k c hk=>?_⟩
   ·simp only[List.nodup_cons,List.mem_singleton,List.not_mem_nil,not_false_eq_true,List.nodup_nil,and_true];exact fun z=>hbA z.symm
   ·simp only[List.mem_cons,List.not_mem_nil,or_false]at ha;rcases ha with rfl | rfl
    ·exact⟨gA,hA0,fun o=>nA (oo o)⟩
    ·exact⟨gb,hb,fun o=>nb (oo o)⟩
   ·cases k with
    | zero=>
     simp at hk;subst hk;exact⟨[],[],rfl,by rw[upd_ne hbA,upd_same],.nil⟩
    | succ k=>simp at hk
  refine hu _ _ _ _ _ _ _ _ _ _ N D ?_;cases e:M [[]] ρ with
  | bad=>rw[e]at h;exact h.elim
  | ex x ρ1=>rw[e]at h;exact h
  | rt d ρ1=>
   rw[e]at h;exact fun σ' v G' H' S' R' q=>h σ' v G' H' S' R' q
  | nx rows ρ1=>
   rw[e]at h;exact fun σ' G' H' N'=>h σ' G' H' N'.stp N'.rel
 ·exact h.elim
end
def JN (X:Cx) (xa:Option XA) (W:WX) (i:Nat) (s:Stmt) (M:NM):Prop:=∃t,PS X s t∧Nt ⟨X.K,xa⟩ W i t M
def JNs (X:Cx) (xa:Option XA) (W:WX) (i:Nat) (ss:List Stmt) (M:NM):Prop:=∃t,PSs X ss t∧Nt ⟨X.K,xa⟩ W i t M
section
variable {X:Cx} {xa:Option XA} {W:WX} {i j:Nat} {s:Stmt} {ss body orelse:List Stmt} {M M1 M2:NM} {x y:Str} {p p' apos pos spos:Pos} {c e a b:Expr} {tm:TM} {m m2:EM}
theorem Bf:JNs X xa W i [] qef:=⟨_,pss_nil,qgn⟩
theorem U2 (h1:JN X xa W i s M1) (h2:JNs X xa W i ss M2):JNs X xa W i (s::ss) (qar M1 M2):=let ⟨_,a,b⟩:=h1;let ⟨_,c,d⟩:=h2;⟨_,pss_cons a c,qgl b d⟩
theorem qjs {js:List Nat} (h:JNs X xa W i ss M):JNs X xa W i ss (nFg js M):=let ⟨t,h1,h2⟩:=h;⟨t,h1,qeY h2⟩
theorem qn7 {js:List Nat} (h:JN X xa W i s M):JN X xa W i s (nFg js M):=let ⟨t,h1,h2⟩:=h;⟨t,h1,qeY h2⟩
theorem qju (hc:JT X xa W c tm) (h1:JNs X xa W i body M1) (h2:JNs X xa W i orelse M2):JN X xa W i (.If c body orelse pos) (nIf tm M1 M2):=let ⟨_,a,b⟩:=hc;let ⟨_,c,d⟩:=h1;let ⟨_,e,f⟩:=h2;⟨_,ps_if a c e,qiJ b d f⟩
theorem qjv {tg iter:Expr} {im:IM} {gm:GM} {js:List Nat} (hp:PassesOwn (model X.prog X.w) X.A X.env X.xe) (hc:X.calm=true) (hi:JI X xa W tg iter im) (hg:JG X xa js tg gm) (hb:JNs X xa W i body M) (hj:i∉js:=by decide) (hs:∀x,foldedSetIterable iter X.env x=pure x:=by intro _;rfl) :
  JN X xa W i (.For tg iter body [] pos) (qiO im gm M):=let ⟨_,a1,a2⟩:=hi;let ⟨_,b1,b2⟩:=hg;let ⟨_,c1,c2⟩:=hb;⟨_,ps_for hp hc a1 b1 c1 hs,qgo a2 b2 c2 hj⟩
theorem qgF {lp:Pos} (hN:X.N[i]?=some x:=by rfl) (hv:Vis X.env.scope x:=by first | exact .inl rfl | exact .inr (.inl rfl) | exact .inr (.inr rfl)) (hd:(x == ("__debug__" : Str))=false:=by decide) (hcd:(x == ("__classdict__" : Str))=false:=by decide)
  (hbase:attributeBase (.Name x p) "append" X.env (eval (.Name x p) X.env)=eval (.Name x p) X.env:=by rfl)
  (hfew:((backTo pos (starEach [.List [] lp] X.env)).all (fun x=>!x.1) && (backToKw pos (keywordEach [] X.env)).all (fun x=>x.1.isSome)
   && decide (([.List [] lp]:List Expr).length+([]:List Keyword).length+(if ([]:List Keyword).isEmpty then 0 else 1)<30))=true:=by rfl)
  (hline:(apos.endLine == pos.line)=true:=by rfl) (hs:starEach [.List [] lp] X.env=(false,eval (.List [] lp) X.env)::starEach [] X.env:=by rfl) (hpl:(backTo pos (starEach [] X.env)).any (·.1)=false:=by rfl)
  (hw:swapsWith (.Call (.Attribute (.Name x p) "append" apos) [.List [] lp] [] pos) none spos.line X.env=pure false:=by rfl) :
  JN X xa W i (.Expr (.Call (.Attribute (.Name x p) "append" apos) [.List [] lp] [] pos) spos) qcj:=
 ⟨_,ps_expr (pe_bm PySem.F.plainAttrs_list PySem.F.slot_list_append PySem.F.type_list_append mt_append (pe_var hN hv hd hcd) (pa_cons (pe_lst pa_nil) pa_nil hs) hbase hfew hline hs hpl) hw,qed⟩
theorem qfa {sp:Pos} (hb:JE X xa W b m) (he:JE X xa W e m2) (hN:X.N[i]?=some x:=by rfl) (hv:Vis X.env.scope x:=by first | exact .inl rfl | exact .inr (.inl rfl) | exact .inr (.inr rfl)) (hd:(x == ("__debug__" : Str))=false:=by decide) (hcd:(x == ("__classdict__" : Str))=false:=by decide)
  (hix:PlainIx b:=by intro _ _;rfl)
  (hbase:attributeBase (.Subscript (.Name x p) b sp) "append" X.env (eval (.Subscript (.Name x p) b sp) X.env)=eval (.Subscript (.Name x p) b sp) X.env:=by rfl)
  (hfew:((backTo pos (starEach [e] X.env)).all (fun x=>!x.1) && (backToKw pos (keywordEach [] X.env)).all (fun x=>x.1.isSome)
   && decide (([e]:List Expr).length+([]:List Keyword).length+(if ([]:List Keyword).isEmpty then 0 else 1)<30))=true:=by rfl)
  (hline:(apos.endLine == pos.line)=true:=by rfl) (hs:starEach [e] X.env=(false,eval e X.env)::starEach [] X.env:=by rfl) (hpl:(backTo pos (starEach [] X.env)).any (·.1)=false:=by rfl)
  (hw:swapsWith (.Call (.Attribute (.Subscript (.Name x p) b sp) "append" apos) [e] [] pos) none spos.line X.env=pure false:=by rfl) :
  JN X xa W i (.Expr (.Call (.Attribute (.Subscript (.Name x p) b sp) "append" apos) [e] [] pos) spos) (qhH m m2):=
 let ⟨_,h1,h2⟩:=hb;let ⟨_,h3,h4⟩:=he
 ⟨_,ps_expr (pe_bm PySem.F.plainAttrs_list PySem.F.slot_list_append PySem.F.type_list_append mt_append (pe_ix ix_list (pe_var hN hv hd hcd) h1 hix) (pa_cons h3 pa_nil hs) hbase hfew hline hs hpl) hw,qgp h2 h4⟩
theorem qcM {pt py:Pos} (hNd:X.N.Nodup) (hm:X.mg "tuple"=none) (hj:X.N[j]?=some y:=by rfl) (hy:Loc X.env.scope y:=by first | exact .inl rfl | exact .inr rfl) (hN:X.N[i]?=some x:=by rfl) (hv:Vis X.env.scope x:=by first | exact .inl rfl | exact .inr (.inl rfl) | exact .inr (.inr rfl)) (hd:(x == ("__debug__" : Str))=false:=by decide) (hcd:(x == ("__classdict__" : Str))=false:=by decide)
  (hbase:attributeBase (.Name x p) "pop" X.env (eval (.Name x p) X.env)=eval (.Name x p) X.env:=by rfl) (hline:(apos.endLine == pos.line)=true:=by rfl) (hg:Gl X "tuple":=by rfl)
  (he:starEach [.Call (.Attribute (.Name x p) "pop" apos) [] [] pos] X.env=(false,eval (.Call (.Attribute (.Name x p) "pop" apos) [] [] pos) X.env)::starEach [] X.env:=by rfl) (hpl:(backTo p' (starEach [] X.env)).any (·.1)=false:=by rfl)
  (hs:swapsWith (.Call (.Name "tuple" pt) [.Call (.Attribute (.Name x p) "pop" apos) [] [] pos] [] p') (some (.Name y py)) spos.line X.env=pure false:=by rfl) (hf:X.fn y=true∨X.env.scope.names.lookup y=some .local:=by first | exact .inl rfl | exact .inr rfl) :
  JN X xa W i (.Assign [.Name y py] (.Call (.Name "tuple" pt) [.Call (.Attribute (.Name x p) "pop" apos) [] [] pos] [] p') spos) (yt i j):=
 ⟨_,ps_set hNd hj hy (pe_callTy (r:=qd5 X.K) Uo hg hm Uj (pa_cons (pe_bm0 PySem.F.plainAttrs_list PySem.F.slot_list_pop PySem.F.type_list_pop mt_pop (pe_var hN hv hd hcd) hbase hline) pa_nil he) (by decide) (by decide) he hpl) hs hf,qec⟩
theorem qjt {pt sp:Pos} (hm:X.mg "tuple"=none) (hb:JE X xa W b m) (hN:X.N[i]?=some x:=by rfl) (hv:Vis X.env.scope x:=by first | exact .inl rfl | exact .inr (.inl rfl) | exact .inr (.inr rfl)) (hd:(x == ("__debug__" : Str))=false:=by decide) (hcd:(x == ("__classdict__" : Str))=false:=by decide)
  (hix:PlainIx b:=by intro _ _;rfl) (hg:Gl X "tuple":=by rfl)
  (he:starEach [.Subscript (.Name x p) b sp] X.env=(false,eval (.Subscript (.Name x p) b sp) X.env)::starEach [] X.env:=by rfl) (hpl:(backTo p' (starEach [] X.env)).any (·.1)=false:=by rfl) :
  JN X xa W i (.Return (some (.Call (.Name "tuple" pt) [.Subscript (.Name x p) b sp] [] p')) spos) (qiM m):=
 let ⟨_,h1,h2⟩:=hb
 ⟨_,ps_ret (pe_callTy (r:=qd5 X.K) Uo hg hm Uj (pa_cons (pe_ix ix_list (pe_var hN hv hd hcd) h1 hix) pa_nil he) (by decide) (by decide) he hpl),qgm h2⟩
theorem qer {lp lp2:Pos} (hNd:X.N.Nodup) (h:JNs X xa W i ss M) (hN:X.N[i]?=some x:=by rfl) (hx:Loc X.env.scope x:=by first | exact .inl rfl | exact .inr rfl)
  (he:starEach [.List [] lp] X.env=(false,eval (.List [] lp) X.env)::starEach [] X.env:=by rfl)
  (hs:swapsWith (.List [.List [] lp] lp2) (some (.Name x p)) spos.line X.env=pure false:=by rfl) (hf:X.fn x=true∨X.env.scope.names.lookup x=some .local:=by first | exact .inl rfl | exact .inr rfl) :
  JSs X xa W (.Assign [.Name x p] (.List [.List [] lp] lp2) spos::ss) (qbR i M):=
 let ⟨_,h1,h2⟩:=h
 ⟨_,pss_cons (ps_set hNd hN hx (pe_lst (pa_cons (pe_lst pa_nil) pa_nil he)) hs hf) h1,qfQ h2⟩
end
end DL
namespace DL
open PySem L2
section
variable {ρ ρ1 ρ2:Env} {e:Exn} {i j:Int} {a b d:D} {ds es:List D} {x y:X} {C m:Str} {n:Nat} {R:List L→FRes} {tb:MTb} {fs:List (Str×D)}
theorem vm {xs:List X}:qbA n R xs ρ=clL n R xs (Xf ρ xs) ρ:=by
 have h:=qeH (ρ:=ρ) (n:=n) (F:=R) (ma:=fun ρ=>.ok xs ρ);exact h
@[simp] theorem qlZ {ma:EM} {am:AM}:Aq tb m n ma am ρ=bindR (ma ρ) (qax tb m n am):=(rfl)
def mtF (tb:MTb) (m:Str) (n:Nat) (am:AM) (x:X) (o:Option D) (ρ1:Env):Res X:=match o with
 | some (.ins C fs)=>(match tb.lookup C,fs.lookup m with
  | some R,none=>bindR (am ρ1) (A0 n R x)
  | _,_=>.bad)
 | _=>.bad
@[simp] theorem qjh {am:AM}:qax tb m n am x ρ=mtF tb m n am x (look ρ x) ρ:=(rfl)
def mtG (n:Nat) (am:AM) (x:X) (o:Option (List L→FRes)) (p:Option D) (ρ1:Env):Res X:=match o,p with
 | some R,none=>bindR (am ρ1) (A0 n R x)
 | _,_=>.bad
@[simp] theorem qqE {am:AM}:mtF tb m n am x (some (.ins C fs)) ρ=mtG n am x (tb.lookup C) (fs.lookup m) ρ:=(rfl)
@[simp] theorem qqD {am:AM}:mtG n am x (some R) none ρ=bindR (am ρ) (A0 n R x):=(rfl)
@[simp] theorem qjg {xs:List X}:A0 n R x xs ρ=clL n R (x::xs) (Xf ρ (x::xs)) ρ:=by
 unfold A0;exact vm
@[simp] theorem qij {me:EM} {mc:D→SM}:Lr me mc ρ=bindR (me ρ) (kMt mc):=(rfl)
@[simp] theorem qrb {mc:D→SM}:kMt mc x ρ=mtE mc (qkv ρ x) ρ:=(rfl)
@[simp] theorem qqF {mc:D→SM}:mtE mc (some d) ρ=mc d ρ:=(rfl)
@[simp] theorem qrZ:qkv ρ (.d d)=some d:=(rfl)
@[simp] theorem qlj {s:Str} {mb:SM} {mr:D→SM}:Np s mb mr d ρ=mcL (eqB d (.str s)) mb (mr d) ρ:=(rfl)
@[simp] theorem qsS {mb mr:SM}:mcL (some true) mb mr ρ=mb ρ:=(rfl)
@[simp] theorem qsT {mb mr:SM}:mcL (some false) mb mr ρ=mr ρ:=(rfl)
@[simp] theorem qlk {mb:SM}:qbc mb d ρ=mb ρ:=(rfl)
end
theorem qkL {ds:List D} (n:Nat):L2.atI ds (n:Int)=ds[n]?:=by
 unfold L2.atI L2.ixN;by_cases h:n<ds.length
 ·simp[h]
 ·have h1:¬(n:Int)<ds.length:=by omega
  simp[h1];omega
@[simp] theorem qr7 {ds:List D}:L2.atI ds 4=ds[4]?:=qkL 4
section
variable {ρ:Env} {i j:Int} {a b d:D} {ds es:List D} {x y:X} {C f:Str} {tb:CTb} {it:ITb} {fs:List (Str×D)} {s t:Str}
@[simp] theorem qoO {m:EM}:qkr it m ρ=bindR (m ρ) (qlE it):=(rfl)
@[simp] theorem qnY:qlE it x ρ=iiF it (look ρ x) ρ:=(rfl)
@[simp] theorem qrx:iiF it (some (.ins C fs)) ρ=iiG (it.lookup C) ρ:=(rfl)
@[simp] theorem qrw {b:Bool}:iiG (some b) ρ=.ok (.d (.bl b)) ρ:=(rfl)
@[simp] theorem qok {n:Nat} {gs:GMs}:qcU n gs (.lst ds) ρ=if ds.length=n then gs ds ρ else none:=(rfl)
end
section
variable {ρ ρ1:Env} {e:Exn} {a b d:D} {ds:List D} {x y:X} {C f:Str} {cs:List Str} {fs:List (Str×D)} {n i:Nat} {R:List L→FRes} {tb:MTb}
@[simp] theorem qoP {m:EM}:Yt cs f m ρ=bindR (m ρ) (qlF cs f):=(rfl)
@[simp] theorem qn0:qlF cs f x ρ=fdF cs f (look ρ x) ρ:=(rfl)
@[simp] theorem qrP:fdF cs f (some (.ins C fs)) ρ=if C∈cs then fdG (fs.lookup f) ρ else .bad:=(rfl)
@[simp] theorem qrO:fdG (some d) ρ=.ok (.d d) ρ:=(rfl)
def oiE:Option (Option L)→Option (L×Str×List (Str×D))
 | some (some (.m (.ins C fs)))=>some (.m (.ins C fs),C,fs)
 | some (some (.r (.ins C fs)))=>some (.r (.ins C fs),C,fs)
 | _=>none
@[simp] theorem qmX:qhF ρ i=oiE ρ[i]?:=(rfl)
@[simp] theorem qsO:oiE (some (some (.r (.ins C fs))))=some (.r (.ins C fs),C,fs):=(rfl)
def qpR (cs:List Str) (f:Str) (i:Nat) (d:D) (o:Option (L×Str×List (Str×D))) (ρ2:Env):Res Fl:=match o with
 | some (l,C,fs)=>if C∈cs∧fs.length<900 then .ok .nx (ρ2.set i (some (l.put (.ins C (putD f d fs))))) else .bad
 | none=>.bad
def sfO (cs:List Str) (f:Str) (i:Nat):Option (D×Env)→Res Fl
 | some (d,ρ2)=>qcD cs f i d ρ2
 | none=>.bad
def kSF (cs:List Str) (f:Str) (i:Nat):X→Env→Res Fl:=fun x ρ1=>sfO cs f i (fz ρ1 x)
@[simp] theorem qkZ {m:EM}:Sr cs f i m ρ=bindR (m ρ) (kSF cs f i):=(rfl)
@[simp] theorem qq3:kSF cs f i x ρ=sfO cs f i (fz ρ x):=(rfl)
@[simp] theorem qpQ:sfO cs f i (some (d,ρ))=qcD cs f i d ρ:=(rfl)
@[simp] theorem qlv:qcD cs f i d ρ=qpR cs f i d (oiE ρ[i]?) ρ:=(rfl)
@[simp] theorem qmx {l:L}:qpR cs f i d (some (l,C,fs)) ρ=if C∈cs∧fs.length<900 then .ok .nx (ρ.set i (some (l.put (.ins C (putD f d fs))))) else .bad:=(rfl)
@[simp] theorem qk5 {v:D}:putD f v []=[(f,v)]:=(rfl)
@[simp] theorem qit {g:Str} {v w:D}:putD f v ((g,w)::fs)=if g=f then (g,v)::fs else (g,w)::putD f v fs:=(rfl)
@[simp] theorem qrQ {ma:AM}:fMk C n R ma ρ=bindR (ma ρ) (kMk C n R):=(rfl)
def qqJ (C:Str) (n:Nat) (F:List L→FRes) (xs:List X) (o:Option (List L)) (ρ1:Env):Res D:=match o with
 | none=>.bad
 | some as=>if xs.length+1=n∧(slots xs).Nodup then mkR (F (.r (.ins C [])::as)) ρ1 xs as else .bad
@[simp] theorem qrc {xs:List X}:kMk C n R xs ρ=qqJ C n R xs (Xf ρ xs) ρ:=(rfl)
@[simp] theorem qnb {xs:List X} {as:List L}:qqJ C n R xs (some as) ρ=if xs.length+1=n∧(slots xs).Nodup then mkR (R (.r (.ins C [])::as)) ρ xs as else .bad:=(rfl)
@[simp] theorem qqH {xs:List X} {as bs:List L}:mkR (.ok (.d .non) (.r d::bs)) ρ xs as=.ok d (Yp ρ xs as bs):=(rfl)
def qrk (ds:List D):List X→Env→Res (List X):=fun xs ρ1=>.ok (xs++ds.map .d) ρ1
@[simp] theorem qpc {ma:AM}:qhu ma ds ρ=bindR (ma ρ) (qrk ds):=(rfl)
@[simp] theorem qn4 {xs:List X}:qrk ds xs ρ=.ok (xs++ds.map .d) ρ:=(rfl)
@[simp] theorem qoH {m:EM}:qha tb m ρ=bindR (m ρ) (qlz tb):=(rfl)
def prG (x:X) (o:Option (List L→FRes)) (ρ1:Env):Res X:=match o with
 | some R=>qiL (qbA 1 R [x] ρ1)
 | none=>.bad
def pyF (tb:MTb) (x:X) (o:Option D) (ρ1:Env):Res X:=match o with
 | some (.ins C _)=>prG x (tb.lookup C) ρ1
 | _=>.bad
@[simp] theorem qnP:qlz tb x ρ=pyF tb x (look ρ x) ρ:=(rfl)
@[simp] theorem qp4:pyF tb x (some (.ins C fs)) ρ=prG x (tb.lookup C) ρ:=(rfl)
@[simp] theorem qp9:prG x (some R) ρ=qiL (clL 1 R [x] (Xf ρ [x]) ρ):=by
 show qiL (qbA 1 R [x] ρ)=_;rw[vm]
@[simp] theorem qm1 {α:Type} {v:α}:qiL (.ok v ρ)=.ok v ρ:=(rfl)
variable {rows:List (List D)} {M N:NM}
@[simp] theorem qm5:qef rows ρ=.nx rows ρ:=(rfl)
def nSq (N:NM):NR→NR
 | .nx qbS ρ1=>N qbS ρ1
 | r=>r
@[simp] theorem qm3:qar M N rows ρ=nSq N (M rows ρ):=by
 unfold qar nSq;cases M rows ρ<;>rfl
@[simp] theorem qqt:nSq N (.nx rows ρ)=N rows ρ:=(rfl)
@[simp] theorem qqs:nSq N (.rt d ρ)=.rt d ρ:=(rfl)
@[simp] theorem qqv {c:TM}:nIf c M N rows ρ=qiN M N rows (c ρ):=(rfl)
@[simp] theorem qqw:qiN M N rows (.ok true ρ)=M rows ρ:=(rfl)
@[simp] theorem qqx:qiN M N rows (.ok false ρ)=N rows ρ:=(rfl)
@[simp] theorem qlh:qcj rows ρ=if rows.length<mx then .nx (rows++[[]]) ρ else .bad:=(rfl)
def npS (i j:Nat) (rows:List (List D)):Option Env→NR
 | some ρ'=>if j≠i then .nx rows.dropLast ρ' else .bad
 | none=>.bad
def npL (i j:Nat) (rows:List (List D)) (ρ:Env):Option (List D)→NR
 | some ds=>npS i j rows (Bz ρ j (.d (.tup ds)))
 | none=>.bad
@[simp] theorem qld {j:Nat}:yt i j rows ρ=npL i j rows ρ rows.getLast?:=by
 unfold yt npL npS;cases rows.getLast? with
 | none=>rfl
 | some ds=>
  first
   | rfl
   | (cases Bz ρ j (.d (.tup ds))<;>rfl)
@[simp] theorem qqo {j:Nat}:npL i j rows ρ (some ds)=npS i j rows (Bz ρ j (.d (.tup ds))):=(rfl)
@[simp] theorem qqn {j:Nat}:npS i j rows (some ρ)=if j≠i then .nx rows.dropLast ρ else .bad:=(rfl)
@[simp] theorem qm9 {mk me:EM}:qhH mk me rows ρ=qau me rows (mk ρ):=(rfl)
def nA1 (me:EM) (rows:List (List D)) (ρ1:Env):Option Nat→NR
 | some k=>jv k rows (me ρ1)
 | none=>.bad
@[simp] theorem qiR {me:EM} {z:Int}:qau me rows (.ok (.d (.int z)) ρ)=nA1 me rows ρ (L2.ixN rows.length z):=(rfl)
@[simp] theorem qqB {me:EM} {k:Nat}:nA1 me rows ρ (some k)=jv k rows (me ρ):=(rfl)
@[simp] theorem qiQ {k:Nat}:jv k rows (.ok x ρ)=qas k rows (fz ρ x):=(rfl)
def nA3 (k:Nat) (rows:List (List D)) (d:D) (ρ3:Env):Option (List D)→NR
 | some ds=>if ds.length<mx then .nx (rows.set k (ds++[d])) ρ3 else .bad
 | none=>.bad
@[simp] theorem qiP {k:Nat}:qas k rows (some (d,ρ))=nA3 k rows d ρ rows[k]?:=(rfl)
@[simp] theorem qqA {k:Nat}:nA3 k rows d ρ (some ds)=if ds.length<mx then .nx (rows.set k (ds++[d])) ρ else .bad:=(rfl)
@[simp] theorem qm4 {mk:EM}:qiM mk rows ρ=qee rows (mk ρ):=(rfl)
def nRE (ρ1:Env):Option (List D)→NR
 | some ds=>.rt (.tup ds) ρ1
 | none=>.bad
@[simp] theorem qlc {z:Int}:qee rows (.ok (.d (.int z)) ρ)=nRE ρ (L2.atI rows z):=(rfl)
@[simp] theorem qqu:nRE ρ (some ds)=.rt (.tup ds) ρ:=(rfl)
@[simp] theorem qqy {js:List Nat}:nFg js M rows ρ=qlf js (M rows ρ):=(rfl)
@[simp] theorem qm7 {js:List Nat}:qlf js (.nx rows ρ)=if Nv ρ js=true then .nx rows (Vz ρ js) else .bad:=(rfl)
@[simp] theorem qm6 {im:IM} {gm:GM}:qiO im gm M rows ρ=qeg gm M rows (im ρ):=(rfl)
@[simp] theorem qle {gm:GM}:qeg gm M rows (.ok ds ρ)=Pt gm M ds rows ρ:=(rfl)
def nsE (i:Nat) (M:NM) (ρ:Env):Option (Option L)→Res Fl
 | some none=>qlg (M [[]] ρ)
 | _=>.bad
@[simp] theorem qk1:qbR i M ρ=nsE i M ρ ρ[i]?:=(rfl)
@[simp] theorem qqm:nsE i M ρ (some none)=qlg (M [[]] ρ):=(rfl)
@[simp] theorem qm8:qlg (.rt d ρ)=.ok (.rt (.d d)) ρ:=(rfl)
theorem Mh {gm:GM} {Ls:List (List D)} {ρ2:Env} (h1:gm d ρ=some ρ1) (h2:M rows ρ1=.nx Ls ρ2):Pt gm M (d::ds) rows ρ=Pt gm M ds Ls ρ2:=by
 show (match gm d ρ with
  | none=>NR.bad
  | some ρ1=>(match M rows ρ1 with
   | .nx Ls ρ2=>Pt gm M ds Ls ρ2
   | r=>r))=_
 rw[h1];simp only[h2]
@[simp] theorem qa9 {gm:GM}:Pt gm M [] rows ρ=.nx rows ρ:=(rfl)
end
theorem yr {a b:String}:(Str.ofString a=Str.ofString b)↔a=b:=by
 constructor
 ·intro h;rw[Str.ofString_eq_toList,Str.ofString_eq_toList]at h;have h:(a.toList.map Char.toNat).toArray=(b.toList.map Char.toNat).toArray:=by injection h
  have h:a.toList.map Char.toNat=b.toList.map Char.toNat:=by simpa using h
  have inj:∀{xs ys:List Char},xs.map Char.toNat=ys.map Char.toNat→xs=ys:=by
   intro xs;induction xs with
   | nil=>intro ys h;cases ys with
    | nil=>rfl
    | cons _ _=>cases h
   | cons x xs ih=>
    intro ys h;cases ys with
    | nil=>cases h
    | cons y ys=>
     simp only[List.map_cons,List.cons.injEq]at h;rw[ih h.2,Char.toNat_inj.mp h.1]
  exact String.toList_inj.mp (inj h)
 ·rintro rfl;rfl
theorem qbK (a:String):qfM (Str.ofString a)=true:=by
 unfold qfM;rw[Str.ofString_eq_toList];simp;intro c _;have:=c.valid;unfold UInt32.isValidChar Nat.isValidChar at this;show c.val.toNat<1114112;omega
@[simp] theorem qoD {a b:String}:eqB (.str (Str.ofString a)) (.str (Str.ofString b))=some (decide (a=b)):=by
 rw[qko (qbK a) (qbK b)];congr 1;by_cases h:a=b
 ·subst h;simp
 ·have:¬Str.ofString a=Str.ofString b:=fun z=>h (yr.mp z);simp[h,this]
@[simp] theorem qro {n:Nat}:L2.ixN (n+1) (-1)=some n:=by
 unfold L2.ixN;have h1:¬(0:Int)≤-1:=by decide
 have h2:-((n+1:Nat):Int)≤-1:=by omega
 rw[if_neg h1,if_pos h2];congr 1;omega
@[simp] theorem qjG {n:Nat}:L2.ixN (n+1+1) (-2)=some n:=by
 unfold L2.ixN;have h1:¬(0:Int)≤-2:=by decide
 have h2:-((n+1+1:Nat):Int)≤-2:=by omega
 rw[if_neg h1,if_pos h2];congr 1;omega
theorem qfw {ds:List D} {a b:D}:L2.atI (ds++[a,b]) (-2)=some a:=by
 unfold L2.atI;rw[show (ds++[a,b]).length=ds.length+1+1 by simp,qjG];simp
@[simp] theorem qlo {α:Type} {a b:String} {v:α} {fs:List (Str×α)}:List.lookup (Str.ofString a) ((Str.ofString b,v)::fs)=if a=b then some v else List.lookup (Str.ofString a) fs:=by
 by_cases h:a=b
 ·subst h;simp[List.lookup]
 ·have:¬Str.ofString a=Str.ofString b:=fun z=>h (yr.mp z);have hb:(Str.ofString a == Str.ofString b)=false:=by simpa using this
  simp[List.lookup,hb,h]
@[simp] theorem qqj {a b:String}:(Str.ofString a=Str.ofString b)=(a=b):=propext yr
end DL
namespace DL
open PySem PySem.Spec PyProof.Rows L2
def qdO (a b:Int):Prop:=-1000000≤a∧a≤1000000∧-1000000≤b∧b≤1000000
instance (a b:Int):Decidable (qdO a b):=inferInstanceAs (Decidable (_∧_∧_∧_))
def iX:X→Option Int
 | .d (.int i)=>some i
 | _=>none
theorem qod {K:Kx} {σ:L2.St} {G:Hp} {v:V} {x:X} {i:Int} (h:XOk K σ G v x) (e:iX x=some i):v=.int i:=by
 unfold iX at e;split at e
 ·cases Option.some.inj e;cases (show Dq K G v (.int _) from h);rfl
 ·cases e
def qq6 (x:X) (ρ1:Env):Res (Int×Int):=match iX x with
 | some n=>if qdO 0 n then .ok (0,n) ρ1 else .bad
 | none=>.bad
def qtU (x:X) (y:X) (ρ2:Env):Res (Int×Int):=match iX x,iX y with
 | some a,some b=>if qdO a b then .ok (a,b) ρ2 else .bad
 | _,_=>.bad
def rB1 (m:EM):Env→Res (Int×Int):=fun ρ=>bindR (m ρ) qq6
def qdG (K:Kx) (W:WX) (σ:L2.St) (G H:Hp) (ρ:Env) (Q:Int→Int→Hp→Prop):Res (Int×Int)→Prop
 | .ok p ρ'=>∀G' H',Stp σ ρ G H σ ρ' G' H'→Rel K σ G' H' ρ'→qdO p.1 p.2→Q p.1 p.2 H'
 | .ex e ρ'=>Wm K W σ G H ρ e ρ'
 | .bad=>False
def qmc (K:Kx) (W:WX) (t:L2.St→Hp→(Int→Int→Hp→Prop)→Prop) (m:Env→Res (Int×Int)):Prop:=∀σ G H ρ,Rel K σ G H ρ→∀Q,qdG K W σ G H ρ Q (m ρ)→t σ H Q
theorem qdG.step {K:Kx} {W:WX} {σ:L2.St} {G H G1 H1:Hp} {ρ ρ1:Env} {Q:Int→Int→Hp→Prop} (S:Stp σ ρ G H σ ρ1 G1 H1):∀{r:Res (Int×Int)},qdG K W σ G H ρ Q r→qdG K W σ G1 H1 ρ1 Q r
 | .ok _ _,h=>fun G' H' S'=>h G' H' (S.trans S')
 | .ex _ _,h=>Wm.step S h
 | .bad,h=>h
section
variable {K:Kx} {W:WX}
theorem qsy {t:TE} {m:EM} (ht:Yx K W t m):qmc K W (tRg1 t) (rB1 m):=fun σ G H ρ R Q h=>by
 unfold rB1 bindR at h;refine ht.fst R (fun x ρ1 e v G1 H1 S1 R1 x1=>?_) (fun e ρ1 q=>by rw[q]at h;exact h) (fun q=>by rw[q]at h;exact h);rw[e]at h;have h:=qdG.step S1 h;simp only at h;unfold qq6 at h;split at h
 ·rename_i n en;split at h
  ·rename_i hn;exact⟨n,qod x1 en,h G1 H1 (Stp.refl _ _ _ _) R1 hn⟩
  ·exact h.elim
 ·exact h.elim
theorem qmc.fst {t:L2.St→Hp→(Int→Int→Hp→Prop)→Prop} {m:Env→Res (Int×Int)} {σ:L2.St} {G H:Hp} {ρ:Env} (h:qmc K W t m) (R:Rel K σ G H ρ) {T:Int→Int→Hp→Prop}
  (k:∀a b ρ1,m ρ=.ok (a,b) ρ1→∀G1 H1,Stp σ ρ G H σ ρ1 G1 H1→Rel K σ G1 H1 ρ1→qdO a b→T a b H1) (kx:∀e ρ1,m ρ=.ex e ρ1→Wm K W σ G H ρ e ρ1) (kb:m ρ≠.bad):t σ H T:=by
 refine h σ G H ρ R T ?_;cases e:m ρ with
 | ok p ρ1=>exact fun G1 H1 S R r=>k p.1 p.2 ρ1 e G1 H1 S R r
 | ex e' ρ1=>exact kx e' ρ1 e
 | bad=>exact absurd e kb
end
def qpX:SM:=fun _=>.bad
def JR (X:Cx) (xa:Option XA) (W:WX) (e:Expr) (m:Env→Res (Int×Int)):Prop:=∃t,PRg X e t∧qmc ⟨X.K,xa⟩ W t m
section
variable {X:Cx} {xa:Option XA} {W:WX} {e a b:Expr} {m ma mb:EM} {mr:Env→Res (Int×Int)} {p pos:Pos}
theorem qtV (hm:X.mg "range"=none) (h:JE X xa W e m) (hg:Gl X "range":=by rfl) (na:starEach [e] X.env=(false,eval e X.env)::starEach [] X.env:=by rfl):JR X xa W (.Call (.Name "range" p) [e] [] pos) (rB1 m):=
 let ⟨_,h1,h2⟩:=h;⟨_,prg_1 hg hm h1 na,qsy h2⟩
theorem qjr {s:Stmt}:JS X xa W s qpX:=⟨fun _ _ _=>False,⟨fun _ _ _ _ _ _ h=>h.elim⟩,fun _ _ _ _ _ _ h=>h⟩
end
structure OpOk (K:PySem.W.Frag) (C nm:Str) (f:Addr):Prop where
 slf:PySem.W.selfFirst K (cA K C)=true
 at_:PySem.W.findIn K (.ref (cA K C)) nm=some (some (.ref f))
 fn:PySem.W.isFn K (.ref f)=true
structure OEnt (P:Program) (w:World) (K:PySem.W.Frag) (mg:Str→Option Value) (base:Heap) (k:Nat) (nm:Str) (n:Nat) (C:Str) (R:List L→FRes):Prop where
 ex:∃f fd ps,OpOk K C nm f∧FnOk P w K mg base (L2.CX P w) k f fd ps (spF K n R)∧Binds K fd ps []
def qfy (P:Program) (w:World) (K:PySem.W.Frag) (mg:Str→Option Value) (base:Heap) (k:Nat) (nm:Str) (n:Nat) (tb:MTb):Prop:=∀q∈tb,OEnt P w K mg base k nm n q.1 q.2
theorem qiH {K:PySem.W.Frag} {C nm C2:Str} (q:opB K C nm C2=true):OpOk K C nm (maA K C2 nm):=by
 unfold opB at q;simp only[Bool.and_eq_true]at q;exact⟨q.1,He.eqO_ok q.2.1,q.2.2⟩
section
variable {P:Program} {w:World} {K:PySem.W.Frag} {mg:Str→Option Value} {base:Heap} {k j n:Nat} {nm C C2:Str} {R:List L→FRes} {tb:MTb}
theorem qea:qfy P w K mg base k nm n []:=fun _ h=>nomatch h
theorem qcc (h:OEnt P w K mg base k nm n C R) (t:qfy P w K mg base k nm n tb):qfy P w K mg base k nm n ((C,R)::tb):=fun q hq=>by
 rcases List.mem_cons.mp hq with rfl | hq
 ·exact h
 ·exact t q hq
theorem qgh (c:OpOk K C nm (maA K C2 nm)) (F:FnM P w K mg base j C2 nm n R) (hj:j≤k):OEnt P w K mg base k nm n C R:=by
 obtain⟨fd,ps,h,hb⟩:=F.ex;exact⟨⟨_,fd,ps,c,h.mono hj,hb⟩⟩
end
def qpB (K:PySem.W.Frag) (tb:MTb) (E:L2.St→XK) (ta tb2:TE):TE:=fun σ H Q=>ta σ H fun x H1=>tb2 σ H1 fun y H2=>∃a b C R dx fs dy gs,x=.ref a∧y=.ref b∧H2 a=some (.ins (cA K C) dx fs)∧H2 b=some (.ins (cA K C) dy gs)∧tb.lookup C=some R∧spF K 2 R [x,y] H2 Q (E σ)
section
variable {X:Cx} {a b:Expr} {ta tb2:TE} {pos:Pos} {op:Operator} {k:Nat} {tb:MTb} {E:L2.St→XK}
theorem qbo {X:Cx} {pins:List (Addr×Obj)} {σ:L2.St} {Q:VK} {v:Value} {s:Shared} (h:EP X pins σ Q v s):PySem.W.CmpBack (EP X pins σ Q) v s:=by
 cases v with
 | notImplemented=>
  obtain⟨v,H,I,r,q⟩:=h;cases v<;>first | (obtain⟨_,r⟩:=r;cases r) | cases r
 | _=>exact h
theorem qiC (ha:PE X a ta) (hb:PE X b tb2) (T:qfy X.prog X.w X.K X.mg X.base k (PySem.dunder op.info.2) 2 tb) (hr:Room k X.A) (hx:∀σ,PassesAt (L2.CX X.prog X.w) X σ (E σ)):PE X (.BinOp a op b pos) (qpB X.K tb E ta tb2):=by
 refine⟨fun pins s σ H Q I h=>?_⟩;refine wpAny_BinOp (thn (ha.run pins s σ H _ I h) fun v s1 ⟨x,H1,I1,r1,q1⟩=>thn (hb.run pins s1 σ H1 _ I1 q1) fun u s2 ⟨y,H2,I2,r2,q2⟩=>?_);obtain⟨a',b',C,R,dx,fs,dy,gs,ex,ey,e1,e2,eR,q⟩:=q2;subst ex ey;obtain rfl:v=Value.ref a':=r1;obtain rfl:u=Value.ref b':=r2;obtain⟨f,fd,ps,ok,F,hbd⟩:=(T _ (F7 eR)).ex;obtain⟨mA,O,_⟩:=ins_get I2.hok e1;obtain⟨od,J,_⟩:=O.look;obtain⟨mB,O2,_⟩:=ins_get I2.hok e2;obtain⟨od2,J2,_⟩:=O2.look;obtain⟨m0,fr⟩:=I2.fr;refine PySem.W.binop_K fr I2.ok.mod.kin J J2.type ok.slf ok.at_ ok.fn ?_;exact thn (run_fnSD (us:=[.ref a',.ref b']) (vs:=[.ref a',.ref b']) F hr hbd .nil (hx σ) I2 (.cons rfl (.cons rfl .nil)) q) fun v s h=>qbo h
end
def qje (tb:MTb) (x:X):X→Env→Res X:=fun y ρ2=>match look ρ2 x,look ρ2 y with
 | some (.ins C _),some (.ins C2 _)=>if C2=C then (match tb.lookup C with
  | some R=>qbA 2 R [x,y] ρ2
  | none=>.bad) else .bad
 | _,_=>.bad
def qhK (tb:MTb) (ma mb:EM):EM:=fun ρ=>bindR (ma ρ) fun x ρ1=>bindR (mb ρ1) (qje tb x)
theorem qkb {K:Kx} {W:WX} {tb:MTb} {ta tb2:TE} {ma mb:EM} (ha:Yx K W ta ma) (hb:Yx K W tb2 mb):Yx K W (qpB K.k tb (WE W) ta tb2) (qhK tb ma mb):=fun σ G H ρ R Q h=>by
 unfold qhK bindR at h;refine ha.fst R (fun x ρ1 e v G1 H1 S1 R1 x1=>?_) (fun e ρ1 q=>by rw[q]at h;exact h) (fun q=>by rw[q]at h;exact h);rw[e]at h;have h:=EPost.step S1 h;simp only at h;refine hb.fst R1 (fun y ρ2 e u G2 H2 S2 R2 x2=>?_) (fun e ρ1 q=>by rw[q]at h;exact h) (fun q=>by rw[q]at h;exact h);rw[e]at h;have h:=EPost.step S2 h;simp only at h;unfold qje at h;split at h
 ·rename_i C fs C2 gs el el2;split at h
  ·rename_i ec;subst ec;split at h
   ·rename_i Rr eR;have x1:=XOk.mono S2.g x1;obtain⟨_,_,_,rfl,q1,_⟩:=(show Vw K G2 H2 v (.ins C2 fs) from Xn R2 x1 el);obtain⟨_,_,_,rfl,q2,_⟩:=(show Vw K G2 H2 u (.ins C2 gs) from Xn R2 x2 el2);exact⟨_,_,C2,Rr,_,_,_,_,rfl,rfl,q1,q2,eR,yv R2 (.cons x1 (.cons x2 .nil)) h⟩
   ·exact h.elim
  ·exact h.elim
 ·exact h.elim
section
variable {X:Cx} {xa:Option XA} {W:WX} {a b:Expr} {ma mb:EM} {pos:Pos} {op:Operator} {k:Nat} {tb:MTb} {nm:Str}
theorem qfc (T:qfy X.prog X.w X.K X.mg X.base k nm 2 tb) (hr:Room k X.A) (tk:Takes X W) (ha:JE X xa W a ma) (hb:JE X xa W b mb) (hn:PySem.dunder op.info.2=nm:=by decide):JE X xa W (.BinOp a op b pos) (qhK tb ma mb):=
 let ⟨_,h1,h2⟩:=ha;let ⟨_,h3,h4⟩:=hb;⟨_,qiC h1 h3 (hn▸T) hr (fun σ=>passAt tk σ),qkb h2 h4⟩
end
end DL
namespace DL
open PySem L2
section
variable {ρ ρ1:Env} {e:Exn} {d:D} {x y:X} {C:Str} {fs gs:List (Str×D)} {n i:Nat} {a b:Int} {R:List L→FRes} {tb:MTb}
def kb2 (ρ1:Env):Option Int→Option Int→Res (Int×Int)
 | some a,some b=>if qdO a b then .ok (a,b) ρ1 else .bad
 | _,_=>.bad
def qq8 (tb:MTb) (mb:EM):X→Env→Res X:=fun x ρ1=>bindR (mb ρ1) (qje tb x)
@[simp] theorem qoJ {ma mb:EM}:qhK tb ma mb ρ=bindR (ma ρ) (qq8 tb mb):=(rfl)
@[simp] theorem qnR {mb:EM}:qq8 tb mb x ρ=bindR (mb ρ) (qje tb x):=(rfl)
def opG (x y:X) (o:Option (List L→FRes)) (ρ2:Env):Res X:=match o with
 | some R=>qbA 2 R [x,y] ρ2
 | none=>.bad
def opF (tb:MTb) (x y:X) (o o2:Option D) (ρ2:Env):Res X:=match o,o2 with
 | some (.ins C _),some (.ins C2 _)=>if C2=C then opG x y (tb.lookup C) ρ2 else .bad
 | _,_=>.bad
@[simp] theorem qnQ:qje tb x y ρ=opF tb x y (look ρ x) (look ρ y) ρ:=(rfl)
@[simp] theorem qqg:opF tb x y (some (.ins C fs)) (some (.ins C gs)) ρ=opG x y (tb.lookup C) ρ:=by
 show (if C=C then _ else _)=_;rw[if_pos rfl]
@[simp] theorem qqf:opG x y (some R) ρ=clL 2 R [x,y] (Xf ρ [x,y]) ρ:=by
 show qbA 2 R [x,y] ρ=_;rw[vm]
end
end DL
namespace DL
open PySem PySem.Spec PyProof.Rows L2
inductive YR where
 | nx (ys:List D) (ρ:Env) | ex (e:Exn) (ρ:Env) | bad
def qdF (K:Kx) (W:WX) (σ:L2.St) (G H:Hp) (ρ:Env) (D:GEnds):YR→Prop
 | .nx ys ρ'=>∀σ' ws G' H',Stp σ ρ G H σ' ρ' G' H'→Rel K σ' G' H' ρ'→DqA K G' ws ys→D.nx ws σ' H'
 | .ex e ρ'=>∀c d σ' G' H',Stp σ ρ G H σ' ρ' G' H'→Rel K σ' G' H' ρ'→ExOk K G' c d e→W c d σ' H'
 | .bad=>False
section
variable {K:Kx} {W:WX} {σ σ1:L2.St} {G H G1 H1:Hp} {ρ ρ1:Env} {D:GEnds}
theorem qdF.step (S:Stp σ ρ G H σ1 ρ1 G1 H1):∀{r:YR},qdF K W σ G H ρ D r→qdF K W σ1 G1 H1 ρ1 D r
 | .nx _ _,h=>fun σ' ws G' H' S'=>h σ' ws G' H' (S.trans S')
 | .ex _ _,h=>fun c d σ' G' H' S'=>h c d σ' G' H' (S.trans S')
 | .bad,h=>h
theorem qdF.x {e:Exn} {ρ':Env} (h:qdF K W σ G H ρ D (.ex e ρ')):Wm K W σ G H ρ e ρ':=fun c d G' H' S' R' q=>h c d σ G' H' S' R' q
end
section
variable {K:Kx} {W:WX} {σ0 σ:L2.St} {ρ0 ρ:Env} {G0 H0 Gm G H:Hp} {i:Nat} {rows:List (List D)}
theorem qgA {a:Addr} {o:HO} (R:Rel K σ G H ρ) (S:Stp σ0 ρ0 G0 H0 σ ρ G H) (ga:G a=none) (h0:H0 a=none) (n:¬Own σ ρ a) (ha:H a=some o):Same G (upd G a o)∧Rel K σ (upd G a o) H ρ∧Stp σ0 ρ0 G0 H0 σ ρ (upd G a o) H:=by
 have sG:Same G (upd G a o):=fun b u e=>by rw[upd_ne (ne_of_none e ga)];exact e
 refine⟨sG,⟨fun b u e=>?_,R.len,fun j l e=>?_,fun y h=>(R.exo y h).mono sG,R.sep⟩,⟨S.g.trans sG,fun b u e=>?_,S.fr,S.hn,S.ow,S.om,S.pin⟩⟩
 ·by_cases q:b=a
  ·subst q;rw[upd_same]at e;rw[ha,e]
  ·rw[upd_ne q]at e;exact R.same b u e
 ·obtain⟨u,e1,e2⟩:=R.at_ j l e;refine⟨u,e1,?_⟩;have own:∀y,l.own=true→MOk K G H u y→MOk K (upd G a o) H u y:=fun y hlo hm=>by
   refine hm.mono sG fun b eb=>⟨?_,fun o e=>e⟩;subst eb;have nb:b≠a:=fun q=>by
    subst q;exact n ⟨j,l,e,hlo,e1⟩
   rw[upd_ne nb];obtain⟨c,ec,hc,_⟩:=hm.ref;cases ec;exact hc
  cases l with
  | d y=>exact Dq.mono sG e2
  | m y=>exact own y rfl e2
  | r y=>exact own y rfl e2
  | p y=>exact⟨own y rfl e2.1,e2.2⟩
  | xh=>exact e2
  | u _ _=>exact e2
 ·by_cases q:b=a
  ·subst q;exact .inr (.inl h0)
  ·rw[upd_ne q]at e;exact S.gf b u e
theorem qgz:∀(bs:List Addr) (rows:List (List D)) (G:Hp),bs.Nodup→Rel K σ G H ρ→Stp σ0 ρ0 G0 H0 σ ρ G H→(∀a∈bs,G a=none∧H0 a=none∧¬Own σ ρ a)→Dj K.k G H bs rows→
  ∃G',Same G G'∧(∀a,a∉bs→G' a=G a)∧Rel K σ G' H ρ∧Stp σ0 ρ0 G0 H0 σ ρ G' H∧DqA K G' (bs.map V.ref) (rows.map D.lst)
 | [],rows,G,_,R,S,_,h5=>by
  have:rows=[]:=List.length_eq_zero_iff.mp h5.1.symm;subst this;exact⟨G,Same.refl _,fun _ _=>rfl,R,S,.nil⟩
 | b::bs,rows,G,hn,R,S,h4,h5=>by
  obtain⟨n1,n2⟩:=List.nodup_cons.mp hn;cases rows with
  | nil=>exact absurd h5.1 (by simp)
  | cons ds rows=>
   obtain⟨ys,ds',e1,e2,e3⟩:=h5.2 0 b rfl;cases Option.some.inj e1;have hb:=h4 b List.mem_cons_self;obtain⟨s1,R1,S1⟩:=qgA R S hb.1 hb.2.1 hb.2.2 e2;have h4':∀a∈bs,(upd G b (.lst ys)) a=none∧H0 a=none∧¬Own σ ρ a:=fun a ha=>by
    have:=h4 a (List.mem_cons_of_mem _ ha);refine⟨?_,this.2⟩;rw[upd_ne (fun z=>n1 (by rw[← z];exact ha))];exact this.1
   have h5':Dj K.k (upd G b (.lst ys)) H bs rows:=⟨by have:=h5.1;simpa using this,fun k c hk=>by
    obtain⟨zs,es,f1,f2,f3⟩:=h5.2 (k+1) c (by simpa using hk);exact⟨zs,es,by simpa using f1,f2,f3.mono s1⟩⟩
   obtain⟨G',s2,out,R2,S2,q⟩:=qgz bs rows _ n2 R1 S1 h4' h5';refine⟨G',s1.trans s2,fun a ha=>?_,R2,S2,?_⟩
   ·rw[out a (fun z=>ha (List.mem_cons_of_mem _ z)),upd_ne (fun z=>ha (by rw[z];exact List.mem_cons_self))]
   ·exact .cons (.lst (s2 _ _ upd_same) ((e3.mono s1).mono s2)) q
theorem NRel.lock (N:NRel K σ0 ρ0 G0 H0 Gm i rows σ G H ρ) (hi:ρ[i]?=some none):∃G',Stp σ0 ρ0 G0 H0 σ (ρ.set i (some (.d (.lst (rows.map .lst))))) G' H∧Rel K σ G' H (ρ.set i (some (.d (.lst (rows.map .lst))))):=by
 obtain⟨A,bs,h1,h2,h3,h4,h5⟩:=N.ex;obtain⟨n1,n2⟩:=List.nodup_cons.mp h3;obtain⟨G1,s1,out,R1,S1,q⟩:=qgz bs rows G n2 N.rel N.stp (fun a ha=>h4 a (List.mem_cons_of_mem _ ha)) h5;have hA:=h4 A List.mem_cons_self;obtain⟨s2,R2,S2⟩:=qgA R1 S1 (by rw[out A n1];exact hA.1) hA.2.1 hA.2.2 h2;have dq:Dq K (upd G1 A (.lst (bs.map V.ref))) (.ref A) (.lst (rows.map .lst)):=.lst upd_same (q.mono s2);have hs:Bz ρ i (.d (.lst (rows.map .lst)))=some (ρ.set i (some (.d (.lst (rows.map .lst))))):=by
  unfold Bz;rw[hi]
 obtain⟨S3,R3⟩:=Ll R2 dq hs;have e:σ.set i (some (.ref A))=σ:=by
  apply List.ext_getElem?;intro j;by_cases z:i=j
  ·subst z;rw[List.getElem?_set_self (List.getElem?_eq_some_iff.mp h1).1,h1]
  ·rw[List.getElem?_set_ne z]
 rw[e]at S3 R3;exact⟨_,S2.trans S3,R3⟩
theorem NRel.start {A:Addr} {bs:List Addr} (R:Rel K σ G H ρ) (S:Stp σ0 ρ0 G0 H0 σ ρ G H) (hi:ρ[i]?=some none) (h2:H A=some (.lst (bs.map V.ref))) (h3:(A::bs).Nodup) (h4:∀a∈A::bs,G a=none∧H0 a=none∧¬Own σ ρ a) (h5:Dj K.k G H bs rows) :
  NRel K σ0 ρ0 G0 H0 G i rows (σ.set i (some (.ref A))) G H ρ:=by
 have hil:i < σ.length:=by rw[R.len];exact (List.getElem?_eq_some_iff.mp hi).1
 have own:∀{j:Nat} {l:L} {c:Addr},ρ[j]?=some (some l)→(σ.set i (some (V.ref A)))[j]?=some (some (.ref c))→σ[j]?=some (some (.ref c)):=fun {j l c} e1 e3=>by
  have:i≠j:=fun z=>by subst z;rw[hi]at e1;cases e1
  rw[List.getElem?_set_ne this]at e3;exact e3
 have oo:∀{c:Addr},Own (σ.set i (some (.ref A))) ρ c→Own σ ρ c:=fun {c} ⟨j,l,e1,e2,e3⟩=>⟨j,l,e1,e2,own e1 e3⟩;have om:∀{c:Addr},Bq (σ.set i (some (.ref A))) ρ c→Bq σ ρ c:=fun {c} ⟨j,l,e1,e2,e3⟩=>⟨j,l,e1,e2,own e1 e3⟩;have S1:Stp σ ρ G H (σ.set i (some (.ref A))) ρ G H:=by
  refine⟨Same.refl _,fun _ _ h=>.inl h,fun _ _ h _=>h,fun _ h=>h,fun c h=>.inl (oo h),fun c h=>.inl (om h),fun j x e=>⟨?_,x,e⟩⟩;have:i≠j:=fun z=>by subst z;rw[hi]at e;cases e
  rw[List.getElem?_set_ne this]
 have R3:Rel K (σ.set i (some (.ref A))) G H ρ:=by
  refine⟨R.same,by rw[List.length_set];exact R.len,fun j l e=>?_,R.exo,fun j k l l' c hjk e1 e2 o1 o2 e3 e4=>R.sep j k l l' c hjk e1 e2 o1 o2 (own e1 e3) (own e2 e4)⟩;have:i≠j:=fun z=>by subst z;rw[hi]at e;cases e
  rw[List.getElem?_set_ne this];exact R.at_ j l e
 exact⟨R3,S.trans S1,Same.refl _,A,bs,List.getElem?_set_self hil,h2,h3,fun a ha=>⟨(h4 a ha).1,(h4 a ha).2.1,fun o=>(h4 a ha).2.2 (oo o)⟩,h5⟩
end
variable {K:Kx} {W:WX}
def kvR:List (Key×List D)→List Addr→List (Key×V)
 | e::es,b::bs=>(e.1,.ref b)::kvR es bs
 | _,_=>[]
def ixK:List (Key×List D)→Key→Option Nat
 | [],_=>none
 | e::es,k=>if e.1=k then some 0 else (ixK es k).map (· + 1)
theorem qdE:∀{es:List (Key×List D)} {bs:List Addr} {k:Key},bs.length=es.length→((kvR es bs).any fun kv=>decide (kv.1=k))=(ixK es k).isSome
 | [],bs,k,h=>by
  have:bs=[]:=List.length_eq_zero_iff.mp h;subst this;rfl
 | e::es,[],k,h=>absurd h (by simp)
 | e::es,b::bs,k,h=>by
  have ih:=qdE (es:=es) (bs:=bs) (k:=k) (by simpa using h);unfold kvR ixK;rw[List.any_cons,ih];by_cases q:e.1=k
  ·simp[q]
  ·simp[q]
theorem qcA:∀{es:List (Key×List D)} {bs:List Addr} {k:Key} {ds:List D} {p:Addr},bs.length=es.length→kvR es bs++[(k,.ref p)]=kvR (es++[(k,ds)]) (bs++[p])
 | [],bs,k,ds,p,h=>by
  have:bs=[]:=List.length_eq_zero_iff.mp h;subst this;rfl
 | e::es,[],k,ds,p,h=>absurd h (by simp)
 | e::es,b::bs,k,ds,p,h=>by
  have ih:=qcA (es:=es) (bs:=bs) (k:=k) (ds:=ds) (p:=p) (by simpa using h);show (e.1,V.ref b)::(kvR es bs++[(k,.ref p)])=(e.1,V.ref b)::kvR (es++[(k,ds)]) (bs++[p]);rw[ih]
theorem qf4 {es:List (Key×List D)} {bs:List Addr} {k:Key} {ds:List D} {p:Addr} (h:bs.length=es.length) (n:ixK es k=none):putK (kvR es bs) k (.ref p)=kvR (es++[(k,ds)]) (bs++[p]):=by
 unfold putK;rw[qdE h,n];exact qcA h
theorem qcz:∀{es:List (Key×List D)} {bs:List Addr} {n:Nat} {k:Key} {ds ds':List D},es[n]?=some (k,ds)→kvR (es.set n (k,ds')) bs=kvR es bs
 | [],bs,n,k,ds,ds',h=>by simp at h
 | e::es,[],n,k,ds,ds',h=>by cases n<;>rfl
 | e::es,b::bs,0,k,ds,ds',h=>by
  have:e=(k,ds):=by simpa using h
  subst this;rfl
 | e::es,b::bs,n+1,k,ds,ds',h=>by
  have ih:=qcz (es:=es) (bs:=bs) (n:=n) (k:=k) (ds:=ds) (ds':=ds') (by simpa using h);rw[List.set_cons_succ];unfold kvR;rw[ih]
theorem qe4 {K:PySem.W.Frag} {G:Hp}:∀{es:List (Key×List D)} {bs:List Addr},bs.length=es.length→DqA K G (bs.map V.ref) ((es.map (·.2)).map D.lst)→DqK K G (kvR es bs) (es.map fun e=>(e.1,.lst e.2))
 | [],bs,h,_=>by
  have:bs=[]:=List.length_eq_zero_iff.mp h;subst this;exact .nil
 | e::es,[],h,_=>absurd h (by simp)
 | e::es,b::bs,h,q=>by
  cases q with
  | cons q1 q2=>exact .cons q1 (qe4 (by simpa using h) q2)
structure DRx (K:Kx) (σ0:L2.St) (ρ0:Env) (G0 H0 Gm:Hp) (i:Nat) (A:Addr) (bs:List Addr) (es:List (Key×List D)) (σ:L2.St) (G H:Hp) (ρ:Env):Prop where
 rel:Rel K σ G H ρ
 stp:Stp σ0 ρ0 G0 H0 σ ρ G H
 mon:Same Gm G
 at_:σ[i]?=some (some (.ref A))
 dk:H A=some (.dK (kvR es bs))
 nd:(A::bs).Nodup
 fr:∀a∈A::bs,G a=none∧H0 a=none∧¬Own σ ρ a
 rows:Dj K.k G H bs (es.map (·.2))
section
variable {σ0 σ σ':L2.St} {ρ0 ρ ρ':Env} {G0 H0 Gm G H G' H':Hp} {i:Nat} {A:Addr} {bs:List Addr} {es:List (Key×List D)}
theorem DRx.len (N:DRx K σ0 ρ0 G0 H0 Gm i A bs es σ G H ρ):bs.length=es.length:=by have:=N.rows.1;simpa using this
theorem DRx.step (N:DRx K σ0 ρ0 G0 H0 Gm i A bs es σ G H ρ) (S:Stp σ ρ G H σ' ρ' G' H') (R':Rel K σ' G' H' ρ') (hi:σ'[i]?=σ[i]?):DRx K σ0 ρ0 G0 H0 Gm i A bs es σ' G' H' ρ':=by
 have th:∀a∈A::bs,H a≠none:=fun a ha=>by
  rcases List.mem_cons.mp ha with rfl | ha
  ·rw[N.dk];exact fun z=>nomatch z
  ·obtain⟨k,hk⟩:=List.getElem?_of_mem ha;obtain⟨ys,ds,_,q,_⟩:=N.rows.2 k a hk;rw[q];exact fun z=>nomatch z
 have kp:∀a∈A::bs,∀o,H a=some o→H' a=some o:=fun a ha o e=>S.fr a o e (N.fr a ha).2.2;refine⟨R',N.stp.trans S,N.mon.trans S.g,hi.trans N.at_,kp A List.mem_cons_self _ N.dk,N.nd,fun a ha=>⟨?_,(N.fr a ha).2.1,fun q=>?_⟩,N.rows.1,fun k b hk=>?_⟩
 ·cases e:G' a with
  | none=>rfl
  | some o=>
   rcases S.gf a o e with q | q | q
   ·rw[(N.fr a ha).1]at q;cases q
   ·exact absurd q (th a ha)
   ·exact absurd q.own (N.fr a ha).2.2
 ·rcases S.ow a q with q | q
  ·exact (N.fr a ha).2.2 q
  ·exact th a ha q
 ·obtain⟨ys,ds,e1,e2,e3⟩:=N.rows.2 k b hk;exact⟨ys,ds,e1,kp b (List.mem_cons_of_mem _ (List.mem_of_getElem? hk)) _ e2,e3.mono S.g⟩
theorem DRx.put {n:Nat} {b:Addr} {k:Key} {ds ds':List D} {ys:List V} (N:DRx K σ0 ρ0 G0 H0 Gm i A bs es σ G H ρ) (hb:bs[n]?=some b) (he:es[n]?=some (k,ds)) (q:DqA K.k G ys ds') :
  DRx K σ0 ρ0 G0 H0 Gm i A bs (es.set n (k,ds')) σ G (upd H b (.lst ys)) ρ:=by
 have hbb:=N.fr b (List.mem_cons_of_mem _ (List.mem_of_getElem? hb));have hAb:A≠b:=fun z=>(List.nodup_cons.mp N.nd).1 (by rw[z];exact List.mem_of_getElem? hb);refine⟨N.rel.updN hbb.1 hbb.2.2,N.stp.updN hbb.2.1,N.mon,N.at_,by rw[upd_ne hAb,N.dk,qcz he],N.nd,N.fr,by rw[List.length_map,List.length_set];exact N.len,fun j c hj=>?_⟩;by_cases e:n=j
 ·subst e;rw[hb]at hj;cases Option.some.inj hj;have hl:n<es.length:=(List.getElem?_eq_some_iff.mp he).1;exact⟨ys,ds',by rw[List.getElem?_map,List.getElem?_set_self hl];rfl,upd_same,q⟩
 ·obtain⟨zs,us,e1,e2,e3⟩:=N.rows.2 j c hj;refine⟨zs,us,by rw[List.getElem?_map,List.getElem?_set_ne e,← List.getElem?_map];exact e1,?_,e3⟩;rw[upd_ne fun z=>e (ju (List.nodup_cons.mp N.nd).2 (by rw[z];exact hb) hj)];exact e2
theorem DRx.grow {p:Addr} {k:Key} (N:DRx K σ0 ρ0 G0 H0 Gm i A bs es σ G H ρ) (hp:H p=none) (hn:ixK es k=none) :
  DRx K σ0 ρ0 G0 H0 Gm i A (bs++[p]) (es++[(k,[])]) σ G (upd (upd H p (.lst [])) A (.dK (putK (kvR es bs) k (.ref p)))) ρ:=by
 have pA:p≠A:=fun z=>by rw[z,N.dk]at hp;cases hp
 have pb:p∉bs:=fun z=>by
  obtain⟨k,hk⟩:=List.getElem?_of_mem z;obtain⟨_,_,_,q,_⟩:=N.rows.2 k p hk;rw[hp]at q;cases q
 have hGp:G p=none:=N.rel.same.free hp;have hop:¬Own σ ρ p:=fun o=>Own.there N.rel o hp;have h0p:H0 p=none:=N.stp.backS hp;have hAA:=N.fr A List.mem_cons_self;have hl:=N.len;refine⟨(N.rel.updN hGp hop).updN hAA.1 hAA.2.2,(N.stp.updN h0p).updN hAA.2.1,N.mon,N.at_,by rw[upd_same,qf4 (ds:=[]) hl hn],?_,fun a ha=>?_,by simp[hl],fun j b hk=>?_⟩
 ·rw[← List.cons_append];refine List.nodup_append.mpr ⟨N.nd,by simp,fun a ha b hb=>?_⟩;have:b=p:=by simpa using hb
  subst this;rcases List.mem_cons.mp ha with rfl | ha
  ·exact fun z=>pA z.symm
  ·exact fun z=>pb (by rw[← z];exact ha)
 ·rcases List.mem_cons.mp ha with rfl | ha
  ·exact hAA
  ·rcases List.mem_append.mp ha with ha | ha
   ·exact N.fr a (List.mem_cons_of_mem _ ha)
   ·have:a=p:=by simpa using ha
    subst this;exact⟨hGp,h0p,hop⟩
 ·by_cases hlt:j<bs.length
  ·rw[List.getElem?_append_left hlt]at hk;obtain⟨ys,ds,e1,e2,e3⟩:=N.rows.2 j b hk;have hbA:b≠A:=fun z=>(List.nodup_cons.mp N.nd).1 (by rw[← z];exact List.mem_of_getElem? hk);have hbp:b≠p:=fun z=>pb (by rw[← z];exact List.mem_of_getElem? hk);exact⟨ys,ds,by rw[List.map_append,List.getElem?_append_left (by rw[← N.rows.1];exact hlt)];exact e1,by rw[upd_ne hbA,upd_ne hbp];exact e2,e3⟩
  ·have hk2:j=bs.length:=by
    have:=(List.getElem?_eq_some_iff.mp hk).1;simp at this;omega
   subst hk2;rw[List.getElem?_append_right (Nat.le_refl _)]at hk;simp at hk;subst hk;refine⟨[],[],by rw[List.map_append,List.getElem?_append_right (by rw[N.rows.1];exact Nat.le_refl _),N.rows.1];simp,by rw[upd_ne pA,upd_same],.nil⟩
theorem DRx.lock (N:DRx K σ0 ρ0 G0 H0 Gm i A bs es σ G H ρ) (hi:ρ[i]?=some none):∃G',Stp σ0 ρ0 G0 H0 σ (ρ.set i (some (.d (.dct (es.map fun e=>(e.1,.lst e.2)))))) G' H∧Rel K σ G' H (ρ.set i (some (.d (.dct (es.map fun e=>(e.1,.lst e.2)))))):=by
 obtain⟨n1,n2⟩:=List.nodup_cons.mp N.nd;obtain⟨G1,s1,out,R1,S1,q⟩:=qgz bs (es.map (·.2)) G n2 N.rel N.stp (fun a ha=>N.fr a (List.mem_cons_of_mem _ ha)) N.rows;have hA:=N.fr A List.mem_cons_self;obtain⟨s2,R2,S2⟩:=qgA R1 S1 (by rw[out A n1];exact hA.1) hA.2.1 hA.2.2 N.dk;have dq:Dq K.k (upd G1 A (.dK (kvR es bs))) (.ref A) (.dct (es.map fun e=>(e.1,.lst e.2))):=.dct upd_same (qe4 N.len (q.mono s2));have hs:Bz ρ i (.d (.dct (es.map fun e=>(e.1,.lst e.2))))=some (ρ.set i (some (.d (.dct (es.map fun e=>(e.1,.lst e.2)))))):=by
  unfold Bz;rw[hi]
 obtain⟨S3,R3⟩:=Ll R2 dq hs;have e:σ.set i (some (.ref A))=σ:=by
  apply List.ext_getElem?;intro j;by_cases z:i=j
  ·subst z;rw[List.getElem?_set_self (List.getElem?_eq_some_iff.mp N.at_).1,N.at_]
  ·rw[List.getElem?_set_ne z]
 rw[e]at S3 R3;exact⟨_,S2.trans S3,R3⟩
end
inductive DR where
 | nx (es:List (Key×List D)) (ρ:Env) | ex (e:Exn) (ρ:Env) | bad
def qkU (K:Kx) (W:WX) (σ0:L2.St) (ρ0:Env) (G0 H0 Gm:Hp) (i:Nat) (E:Ends):DR→Prop
 | .nx es ρ'=>∀A bs σ' G' H',DRx K σ0 ρ0 G0 H0 Gm i A bs es σ' G' H' ρ'→E.nx σ' H'
 | .ex e ρ'=>∀c d σ' G' H',Stp σ0 ρ0 G0 H0 σ' ρ' G' H'→Rel K σ' G' H' ρ'→ExOk K G' c d e→W c d σ' H'
 | .bad=>False
section
variable {i:Nat}
theorem qkU.x {σ0 σ:L2.St} {ρ0 ρ ρ1:Env} {G0 H0 Gm G H:Hp} {A:Addr} {bs:List Addr} {es:List (Key×List D)} {E:Ends} {e:Exn} (N:DRx K σ0 ρ0 G0 H0 Gm i A bs es σ G H ρ) (h:qkU K W σ0 ρ0 G0 H0 Gm i E (.ex e ρ1)):Wm K W σ G H ρ e ρ1:=fun c d G' H' S R q=>h c d σ G' H' (N.stp.trans S) R q
end
section
variable {F:PySem.W.Frag} {σ:L2.St} {G H:Hp} {ρ:Env} {W:WX}
theorem Rel.mp {xa:Option XA} {j:Nat} {x:D} {a:Addr} (R:Rel ⟨F,xa⟩ σ G H ρ) (h:ρ[j]?=some (some (.m x))) (hv:σ[j]?=some (some (.ref a))) (hx:∀y,xa=some y→y.a=a):Stp σ ρ G H σ (ρ.set j (some (.p x))) G H∧Rel ⟨F,xa⟩ σ G H (ρ.set j (some (.p x))):=by
 have own:∀{i:Nat} {l:L},(ρ.set j (some (.p x)))[i]?=some (some l)→∃l',ρ[i]?=some (some l')∧l'.own=l.own∧l'.ism=l.ism:=fun {i l} e=>by
  rcases X2 e with ⟨q,e'⟩ | ⟨_,e'⟩
  ·subst q;cases Option.some.inj e';exact⟨_,h,rfl,rfl⟩
  ·exact⟨_,e',rfl,rfl⟩
 refine⟨⟨Same.refl _,fun _ _ h=>.inl h,fun _ _ h _=>h,fun _ h=>h,fun a ⟨j,l,e1,e2,e3⟩=>?_,fun a ⟨j,l,e1,e2,e3⟩=>?_,fun k y e=>⟨rfl,y,?_⟩⟩,⟨R.same,by rw[List.length_set];exact R.len,fun k l e=>?_,R.exo,fun j k l l' b hjk e1 e2 o1 o2 e3 e4=>?_⟩⟩
 ·obtain⟨l',h1,h2,_⟩:=own e1;exact .inl ⟨j,l',h1,h2.trans e2,e3⟩
 ·obtain⟨l',h1,_,h2⟩:=own e1;exact .inl ⟨j,l',h1,h2.trans e2,e3⟩
 ·have hne:j≠k:=fun q=>by subst q;rw[h]at e;cases e
  rw[List.getElem?_set_ne hne];exact e
 ·rcases X2 e with ⟨q,e'⟩ | ⟨_,e'⟩
  ·subst q;cases Option.some.inj e';obtain⟨v,h3,h4⟩:=R.at_ _ _ h;refine⟨v,h3,h4,fun y hy=>?_⟩;rw[hv]at h3;cases Option.some.inj (Option.some.inj h3);rw[hx y hy]
  ·exact R.at_ k l e'
 ·obtain⟨m1,h1,z1,_⟩:=own e1;obtain⟨m2,h2,z2,_⟩:=own e2;exact R.sep j k m1 m2 b hjk h1 h2 (z1.trans o1) (z2.trans o2) e3 e4
end
end DL
namespace L2
open PySem PySem.Spec PyProof.Rows
def qby (kas:List (List Int×Addr×V)) (k:List Int):Option V:=(kas.find? fun p=>decide (p.1=k)).map (·.2.2)
def qa4 (kas:List (List Int×Addr×V)) (k:List Int) (b:Addr) (v:V):List (List Int×Addr×V):=
 if (qby kas k).isSome then kas.map (fun p=>if p.1=k then (p.1,p.2.1,v) else p) else kas++[(k,b,v)]
theorem KTI.val {kas:List (List Int×Addr×V)} {xs:List (List Int×Addr×Value)} (r:KTI kas xs) (k:List Int):RelO (qby kas k) ((atKey xs k).map (·.2)):=by
 induction r with
 | nil=>exact True.intro
 | @cons p q ps qs h t ih=>
  obtain⟨h1,_,h2⟩:=h;by_cases e:p.1=k
  ·have e':q.1=k:=h1.symm.trans e;have b:atKey (q::qs) k=some q.2:=by simp[atKey,List.find?_cons,e']
   have c:qby (p::ps) k=some p.2.2:=by simp[qby,List.find?_cons,e]
   rw[c,b];exact h2
  ·have e':¬q.1=k:=fun z=>e (h1.trans z);have b:atKey (q::qs) k=atKey qs k:=by simp[atKey,List.find?_cons,e']
   have c:qby (p::ps) k=qby ps k:=by simp[qby,List.find?_cons,e]
   rw[c,b];exact ih
theorem KTI.some {kas:List (List Int×Addr×V)} {xs:List (List Int×Addr×Value)} (r:KTI kas xs) (k:List Int):(qby kas k).isSome=(atKey xs k).isSome:=by
 rw[(r.val k).isSome_eq,Option.isSome_map]
theorem KTI.put {kas:List (List Int×Addr×V)} {xs:List (List Int×Addr×Value)} (r:KTI kas xs) (k:List Int) {b:Addr} {y:V} {u:Value} (ry:RelV y u):KTI (qa4 kas k b y) (storedH xs k b u):=by
 unfold qa4 storedH;rw[r.some k];by_cases q:(atKey xs k).isSome=true
 ·rw[if_pos q,if_pos q];clear q;induction r with
  | nil=>exact .nil
  | @cons p q ps qs h t ih=>
   rw[List.map_cons,List.map_cons];refine .cons ?_ ih;obtain⟨h1,h2,h3⟩:=h;unfold putAt;by_cases e:p.1=k
   ·rw[if_pos e,if_pos (h1.symm.trans e)];exact⟨h1,h2,ry⟩
   ·rw[if_neg e,if_neg (fun z=>e (h1.trans z))];exact⟨h1,h2,h3⟩
 ·rw[if_neg q,if_neg q];exact Paired.snoc r ⟨rfl,rfl,ry⟩
theorem KTI.length {kas:List (List Int×Addr×V)} {xs:List (List Int×Addr×Value)} (r:KTI kas xs):kas.length=xs.length:=Paired.length r
end L2
namespace DL
open PySem PySem.Spec PyProof.Rows L2
def qp5 (kvs:List (List Int×D)) (k:List Int) (d:D):List (List Int×D):=
 if (getT kvs k).isSome then kvs.map (fun kv=>if kv.1=k then (kv.1,d) else kv) else kvs++[(k,d)]
section
variable {K:PySem.W.Frag} {G H:Hp}
theorem DqT.get {k:List Int}:∀{vs:List (List Int×Addr×V)} {ds:List (List Int×D)},DqT K G vs ds→match getT ds k with
  | some d=>∃v,qby vs k=some v∧Dq K G v d
  | none=>qby vs k=none
 | _,_,.nil=>rfl
 | _,_,.cons (k:=j) h t=>by
  unfold getT qby;by_cases e:j=k
  ·simp only[List.find?_cons,decide_eq_true e,Option.map_some];exact⟨_,rfl,h⟩
  ·simp only[List.find?_cons,decide_eq_false e];exact DqT.get t
theorem DqT.some {k:List Int} {vs:List (List Int×Addr×V)} {ds:List (List Int×D)} (h:DqT K G vs ds):(qby vs k).isSome=(getT ds k).isSome:=by
 have:=h.get (k:=k);cases e:getT ds k with
 | none=>rw[e]at this;rw[this];rfl
 | some d=>rw[e]at this;obtain⟨v,h1,_⟩:=this;rw[h1];rfl
theorem DqT.length:∀{vs:List (List Int×Addr×V)} {ds:List (List Int×D)},DqT K G vs ds→vs.length=ds.length
 | _,_,.nil=>rfl
 | _,_,.cons _ t=>by simp[DqT.length t]
theorem DqT.mapk {k:List Int} {v:V} {d:D} (q:Dq K G v d):∀{vs:List (List Int×Addr×V)} {ds:List (List Int×D)},DqT K G vs ds→DqT K G (vs.map fun p=>if p.1=k then (p.1,p.2.1,v) else p) (ds.map fun kv=>if kv.1=k then (kv.1,d) else kv)
 | _,_,.nil=>.nil
 | _,_,.cons (k:=j) h t=>by
  rw[List.map_cons,List.map_cons];by_cases e:j=k
  ·simp only[if_pos e];exact .cons q (DqT.mapk q t)
  ·simp only[if_neg e];exact .cons h (DqT.mapk q t)
theorem DqT.app:∀{vs us:List (List Int×Addr×V)} {ds es:List (List Int×D)},DqT K G vs ds→DqT K G us es→DqT K G (vs++us) (ds++es)
 | _,_,_,_,.nil,b=>b
 | _,_,_,_,.cons h t,b=>.cons h (DqT.app t b)
theorem DqT.put {vs:List (List Int×Addr×V)} {ds:List (List Int×D)} {k:List Int} {b:Addr} {v:V} {d:D} (h:DqT K G vs ds) (q:Dq K G v d):DqT K G (qa4 vs k b v) (qp5 ds k d):=by
 unfold qa4 qp5;rw[h.some];split
 ·exact h.mapk q
 ·exact h.app (.cons q .nil)
theorem qdS.put {kas:List (List Int×Addr×V)} {k:List Int} {b:Addr} {v:V} (h:qdS K G kas) (hb:SqN K G b (k.map V.int)):qdS K G (qa4 kas k b v):=fun p hp=>by
 unfold qa4 at hp;split at hp
 ·obtain⟨q,hq,rfl⟩:=List.mem_map.mp hp;have:=h q hq;split<;>exact this
 ·rcases List.mem_append.mp hp with hp | hp
  ·exact h p hp
  ·cases List.mem_singleton.mp hp;exact hb
end
variable {K:Kx} {W:WX}
section
variable {ρ:Env} {me:EM} {fm:FM} {i j n:Nat} {F:List L→FRes} {ma:AM} {xs:List X} {as bs:List L} {x:X} {d y:D} {e:Exn}
@[simp] theorem qpp {i:Int}:uN (.int i)=true:=rfl
@[simp] theorem qpl {ds:List D}:uN (.tup ds)=true:=rfl
@[simp] theorem qpo {ds:List D}:uN (.lst ds)=true:=rfl
@[simp] theorem qpm {x:Str}:uN (.str x)=true:=rfl
@[simp] theorem qsr {ds:List D}:uN (.ro ds)=false:=rfl
@[simp] theorem qpn:uN .non=true:=rfl
@[simp] theorem qss {b:Bool}:uN (.bl b)=true:=rfl
@[simp] theorem qpq {C:Str} {fs:List (Str×D)}:uN (.ins C fs)=true:=rfl
@[simp] theorem qmh:qmi (.ro [d])=d:=rfl
end
section
variable {K:Kx} {W:WX} {σ:L2.St} {G H:Hp} {ρ:Env}
theorem LOk.free {v:V} {l:L} {a:Addr} (h:LOk K G H v l) (ho:l.own=true) (e:v=.ref a):G a=none∧H a≠none:=by
 have key:∀x,MOk K G H v x→G a=none∧H a≠none:=fun x hm=>by
  obtain⟨b,eb,h1,h2⟩:=hm.ref;rw[e]at eb;cases eb;exact⟨h1,h2⟩
 cases l with
 | d x=>cases ho
 | m x=>exact key x h
 | r x=>exact key x h
 | p x=>exact key x h.1
 | xh=>cases ho
 | u _ _=>cases ho
end
def ql3 (a b:D):Option (List D):=match qaV a,qaV b with
 | some x,some y=>if x.length+y.length≤mx then some (x++y) else none
 | _,_=>none
@[simp] theorem qo0 {x y:List D}:ql3 (.ro x) (.ro y)=if x.length+y.length≤mx then some (x++y) else none:=rfl
@[simp] theorem qo3 {x y:List D}:ql3 (.lst x) (.lst y)=if x.length+y.length≤mx then some (x++y) else none:=rfl
@[simp] theorem qo1 {x y:List D}:ql3 (.ro x) (.lst y)=if x.length+y.length≤mx then some (x++y) else none:=rfl
@[simp] theorem qo2 {x y:List D}:ql3 (.lst x) (.ro y)=if x.length+y.length≤mx then some (x++y) else none:=rfl
def qng:List D→Option D
 | [.tup ds]=>(match Aj ds with
   | some ns=>(qnh ns).map .int
   | none=>none)
 | as=>maxD as
@[simp] theorem qnf {ds:List D}:qng [.ro ds]=maxD [.ro ds]:=rfl
@[simp] theorem qlm {ds:List D}:qng [.lst ds]=maxD [.lst ds]:=rfl
@[simp] theorem qll {ds:List D}:qng [.tup ds]=maxD [.ro ds]:=rfl
structure Held (σ:L2.St) (ρ:Env) (G H:Hp) (a:Addr) (o:HO):Prop where
 g:G a=none
 h:H a=some o
 n:¬Own σ ρ a
theorem Held.step {σ σ1:L2.St} {ρ ρ1:Env} {G H G1 H1:Hp} {a:Addr} {o:HO} (h:Held σ ρ G H a o) (S:Stp σ ρ G H σ1 ρ1 G1 H1):Held σ1 ρ1 G1 H1 a o where
 g:=by
  cases e:G1 a with
  | none=>rfl
  | some u=>
   rcases S.gf a u e with q | q | q
   ·rw[h.g]at q;cases q
   ·rw[h.h]at q;cases q
   ·exact absurd q.own h.n
 h:=S.fr a o h.h h.n
 n:=fun q=>by
  rcases S.ow a q with q | q
  ·exact h.n q
  ·rw[h.h]at q;cases q
def HLs (K:Kx) (σ:L2.St) (ρ:Env) (G H:Hp) (v:V) (x:D):Prop:=∃a xs ds,v=.ref a∧x=.lst ds∧Held σ ρ G H a (.lst xs)∧DqA K.k G xs ds
theorem HLs.step {K:Kx} {σ σ1:L2.St} {ρ ρ1:Env} {G H G1 H1:Hp} {v:V} {x:D} (h:HLs K σ ρ G H v x) (S:Stp σ ρ G H σ1 ρ1 G1 H1):HLs K σ1 ρ1 G1 H1 v x:=by
 obtain⟨a,xs,ds,e1,e2,h1,h2⟩:=h;exact⟨a,xs,ds,e1,e2,h1.step S,h2.mono S.g⟩
theorem HLs.steps {K:Kx} {σ σ1:L2.St} {ρ ρ1:Env} {G H G1 H1:Hp} (S:Stp σ ρ G H σ1 ρ1 G1 H1):∀{vs:List V} {xs:List D},Paired (HLs K σ ρ G H) vs xs→Paired (HLs K σ1 ρ1 G1 H1) vs xs
 | _,_,.nil=>.nil
 | _,_,.cons h t=>.cons (h.step S) (HLs.steps S t)
def nOr:Option L→Bool
 | none=>true
 | some (.d _)=>true
 | _=>false
def qsb (ρ:Env):Bool:=ρ.all nOr
theorem qht {ρ:Env} (h:qsb ρ=true) {i:Nat} {l:L} (e:ρ[i]?=some (some l)):∃x,l=.d x:=by
 have:=List.all_eq_true.mp h _ (List.mem_of_getElem? e);cases l<;>first | exact⟨_,rfl⟩ | cases this
structure Dsp (K:Kx) (σ:L2.St) (G H:Hp) (ρ:Env) (i:Nat) (vs:List V) (ds:List D) (p:Addr):Prop where
 s:σ[i]?=some (some (.ref p))
 hd:Held σ ρ G H p (.lst vs)
 ls:Paired (HLs K σ ρ G H) vs ds
 nd:vs.Nodup
 pn:∀v∈vs,v≠.ref p
section
variable {K:Kx} {W:WX} {σ:L2.St} {G H:Hp} {ρ:Env} {i:Nat} {vs:List V} {ds:List D} {p:Addr}
theorem Dsp.step (X:Dsp K σ G H ρ i vs ds p) {G1 H1:Hp} (S:Stp σ ρ G H σ ρ G1 H1):Dsp K σ G1 H1 ρ i vs ds p:=⟨X.s,X.hd.step S,HLs.steps S X.ls,X.nd,X.pn⟩
end
section
variable {K:Kx} {G G':Hp}
theorem DqF.app {K:PySem.W.Frag}:∀{vs us:List (Str×V)} {ds es:List (Str×D)},DqF K G vs ds→DqF K G us es→DqF K G (vs++us) (ds++es)
 | _,_,_,_,.nil,b=>b
 | _,_,_,_,.cons h t,b=>.cons h (DqF.app t b)
end
structure FS (K:Kx) (i:Nat) (C f:Str) (a dx p:Addr) (A:List (Str×V)) (A':List (Str×D)) (σ:L2.St) (G H:Hp) (ρ:Env) (vs:List V) (ds:List D):Prop where
 r:Rel K σ G H (ρ.set i none)
 hn:qsb (ρ.set i none)=true
 e:ρ[i]?=some (some (.r (.ins C (A'++[(f,.lst ds)]))))
 s:σ[i]?=some (some (.ref a))
 ga:G a=none
 gp:G p=none
 ha:H a=some (.ins (cA K.k C) dx (A++[(f,.ref p)]))
 gd:G dx=some (.own a)
 hp:H p=some (.lst vs)
 qA:DqF K.k G A A'
 q:DqA K.k G vs ds
 lA:A.lookup f=none
 lA':A'.lookup f=none
def qih (C f:Str) (A':List (Str×D)) (ds:List D):D:=.ins C (A'++[(f,.lst ds)])
section
variable {K:Kx} {W:WX} {i:Nat} {C f:Str} {a dx p:Addr} {A:List (Str×V)} {A':List (Str×D)} {σ:L2.St} {G H G1 H1:Hp} {ρ ρ1:Env} {vs:List V} {ds:List D}
theorem FS.dat (X:FS K i C f a dx p A A' σ G H ρ vs ds) {j:Nat} {l:L} (hj:j≠i) (e:ρ[j]?=some (some l)):∃x,l=.d x:=by
 refine qht X.hn (i:=j) ?_;rw[List.getElem?_set_ne (fun z=>hj z.symm)];exact e
theorem FS.own (X:FS K i C f a dx p A A' σ G H ρ vs ds) {b:Addr} (h:Own σ ρ b):b=a:=by
 obtain⟨j,l,h1,h2,h3⟩:=h;by_cases hj:j=i
 ·subst hj;rw[X.s]at h3;cases h3;rfl
 ·obtain⟨x,rfl⟩:=X.dat hj h1;cases h2
def Fr (p:Addr) (G H G1 H1:Hp):Prop:=Same G G1∧∀b o,H b=some o→b≠p→H1 b=some o
theorem Fr.refl:Fr p G H G H:=⟨Same.refl _,fun _ _ e _=>e⟩
theorem Fr.trans {G2 H2:Hp} (x:Fr p G H G1 H1) (y:Fr p G1 H1 G2 H2):Fr p G H G2 H2:=⟨x.1.trans y.1,fun b o e hb=>y.2 b o (x.2 b o e hb) hb⟩
def qhx (K:Kx) (i:Nat) (C f:Str) (a dx p:Addr) (A:List (Str×V)) (A':List (Str×D)) (σ0:L2.St) (ρ0:Env) (G0 H0 G H:Hp) (D:Ends):Res Fl→Prop
 | .ok .nx ρ1=>∀σ1 G1 H1 vs1 ds1,Stp σ0 ρ0 G0 H0 σ1 ρ1 G1 H1→FS K i C f a dx p A A' σ1 G1 H1 ρ1 vs1 ds1→Fr p G H G1 H1→D.nx σ1 H1
 | .ok .ct ρ1=>∀σ1 G1 H1 vs1 ds1,Stp σ0 ρ0 G0 H0 σ1 ρ1 G1 H1→FS K i C f a dx p A A' σ1 G1 H1 ρ1 vs1 ds1→Fr p G H G1 H1→D.ct σ1 H1
 | _=>False
def qpT (i:Nat) (ρ:Env):Env:=match ρ[i]? with
 | some (some (.r x))=>ρ.set i (some (.d x))
 | _=>ρ
theorem FS.lk (X:FS K i C f a dx p A A' σ G H ρ vs ds):qpT i ρ=ρ.set i (some (.d (qih C f A' ds))):=by
 unfold qpT;rw[X.e];rfl
theorem qhx.step {σ0:L2.St} {ρ0:Env} {G0 H0:Hp} {D:Ends} (fr:Fr p G H G1 H1):∀{r:Res Fl},qhx K i C f a dx p A A' σ0 ρ0 G0 H0 G H D r→qhx K i C f a dx p A A' σ0 ρ0 G0 H0 G1 H1 D r
 | .ok .nx _,h=>fun σ1 G2 H2 vs1 ds1 S X q=>h σ1 G2 H2 vs1 ds1 S X (fr.trans q)
 | .ok .ct _,h=>fun σ1 G2 H2 vs1 ds1 S X q=>h σ1 G2 H2 vs1 ds1 S X (fr.trans q)
 | .ok .bk _,h=>h
 | .ok (.rt _) _,h=>h
 | .ex _ _,h=>h
 | .bad,h=>h
end
def upS:Sl→Sl
 | .p i=>.p (i+1)
 | .k j=>.k j
 | .m j=>.m j
theorem qgT {α:Type} {x:α} {us mv ws:List α}:∀{sl:List Sl},gS (.p 0::sl.map upS) (x::us) mv ws=x::gS sl us mv ws:=by
 have go:∀{sl:List Sl},gS (sl.map upS) (x::us) mv ws=gS sl us mv ws:=by
  intro sl;induction sl with
  | nil=>rfl
  | cons s sl ih=>
   unfold gS at ih ⊢;rw[List.map_cons,List.filterMap_cons,List.filterMap_cons,ih];cases s<;>rfl
 intro sl;have:=go (sl:=sl);unfold gS at this ⊢;rw[List.filterMap_cons,this];rfl
structure FnMW (P:Program) (w:World) (K:PySem.W.Frag) (mg:Str→Option Value) (base:Heap) (k:Nat) (C m qual:Str) (st:Stmt) (kws:List (Str×V)) (ps:List Str) (R:List L→FRes):Prop where
 ex:∃fd,FnOk P w K mg base (L2.CX P w) k (maA K C m) fd ps (spF K ps.length R)∧FunD K m qual (defArgs st) (defBody st) (defScope st) [] kws (maA K C m) fd
theorem qg2 {P:Program} {w:World} {K:PySem.W.Frag} {mg:Str→Option Value} {base:Heap} {C m qual:Str} {st:Stmt} {kws:List (Str×V)} {N ps:List Str} {k:Nat} {body:SM} (F:∃fd,FunD K m qual (defArgs st) (defBody st) (defScope st) [] kws (maA K C m) fd) (S:FnScope N ps (defScope st))
  (hb:∀(cdv:Value) (A:Around) (outer:List PySem.Env) (s:Shared) (H:Hp) (E:XK),Room k (A.deeper (envOfC qual (defScope st) s.heap.objs.size (maA K C m) cdv))→
   JSs (cxOf (L2.CX P w) P w K mg base N qual (defScope st) (maA K C m) cdv A outer s H E) none (fun cls d _ H=>E cls d H) (defBody st) body) :
  FnMW P w K mg base (k+1) C m qual st kws ps (Ze N.length body):=by
 obtain⟨fd,F⟩:=F;exact⟨⟨fd,qfl F S hb,F⟩⟩
structure MkKB (P:Program) (w:World) (K:PySem.W.Frag) (mg:Str→Option Value) (base:Heap) (k:Nat) (C:Str) (n np:Nat) (ks:List Str) (ms:List D) (sl:List Sl) (R:List L→FRes):Prop where
 ex:∃f fd ps g dm,Mk K (cA K C) f∧FnOk P w K mg base (L2.CX P w) k f fd ps (spF K n R)∧KBn K fd ps (np+1) ks g (fun vs zs=>gS (.p 0::sl.map upS) vs dm zs)∧∀G,DqA K G dm ms
 g:mg C=some (.ref (cA K C))
theorem qc {P:Program} {w:World} {K:PySem.W.Frag} {mg:Str→Option Value} {base:Heap} {j k np:Nat} {C qual:Str} {st:Stmt} {kws:List (Str×V)} {dm:List V} {ps ks:List Str} {ms:List D} {sl:List Sl} {R:List L→FRes} (M:Mk K (cA K C) (maA K C "__init__")) (F:FnMW P w K mg base j C "__init__" qual st kws ps R)
  (hb:∀fd,FunD K "__init__" qual (defArgs st) (defBody st) (defScope st) [] kws (maA K C "__init__") fd→∃g,KBn K fd ps (np+1) ks g (fun vs zs=>gS (.p 0::sl.map upS) vs dm zs)) (q:∀G,DqA K G dm ms) (g:mg C=some (.ref (cA K C))) (hj:j≤k):MkKB P w K mg base k C ps.length np ks ms sl R:=by
 obtain⟨fd,h,Fd⟩:=F.ex;obtain⟨gg,h2⟩:=hb fd Fd;exact⟨⟨_,fd,ps,gg,dm,M,h.mono hj,h2,q⟩,g⟩
section
variable {X:Cx} {CX:CXT} {k n:Nat} {f C:Addr} {fd:FuncData} {ps ks:List Str} {sp:Sp} {x:Str} {p pos:Pos} {e:Expr} {es:List Expr} {kws:List Keyword} {t tk:TA} {g:List Value→List Value→List Value} {sl:List Sl} {dm:List V}
theorem qa0 {E:XK} {pins:List (Addr×Obj)} {σ:L2.St} {H:Hp} {s:Shared} {Q:VK} {us ws:List Value} {vs zs:List V} (M:Mk X.K C f) (F:FnOk X.prog X.w X.K X.mg X.base CX k f fd ps sp) (hr:Room (k+1) X.A) (hb:KBn X.K fd ps (n+1) ks g (fun vs zs=>gS (.p 0::sl.map upS) vs dm zs))
  (hx:PassesAt CX X σ E) (I:Inv X pins σ H s) (r:Vals vs us) (rz:Vals zs ws) (l1:vs.length=n) (l2:zs.length=ks.length)
  (h:∀x dx,H x=none→H dx=none→dx≠x→sp (.ref x::gS sl vs dm zs) (upd (upd H dx (.own x)) x (.ins C dx [])) (fun v H2=>v=.non∧Q (.ref x) H2) E) :
  wpAny (model X.prog X.w) X.A (call (.ref C) us (ks.zip ws)) (EP X pins σ Q) X.xe s:=by
 have hq:=h (s.heap.objs.size+1) s.heap.objs.size (I.hok.fresh (Nat.le_succ _)) (I.hok.fresh (Nat.le_refl _)) (Nat.ne_of_lt (Nat.lt_succ_self _));have I2:=Inv.made (C:=C) I;have r1:Vals (V.ref (s.heap.objs.size+1)::vs) (Value.ref (s.heap.objs.size+1)::us):=.cons rfl r;have r2:=hb.rel r1 rz;rw[qgT]at r2;have e1:(Value.ref (s.heap.objs.size+1)::us).length=n+1:=r1.length.symm.trans (congrArg Nat.succ l1);have e2:ws.length=ks.length:=rz.length.symm.trans l2;refine wpAny_call (make_map (f:=f) I.kIn M.makes M.init (beq_iff_eq.mp M.fn) (codeAny_mono (F.run _ X.stack _ _ ⟨Value.ref (s.heap.objs.size+1)::us,ks.zip ws⟩ (g (Value.ref (s.heap.objs.size+1)::us) ws) _ _ E (hr.make C us (ks.zip ws))
  (I2.env0.make C us (ks.zip ws)) (hb.to _ (Value.ref (s.heap.objs.size+1)::us) ws I2.kIn e1 e2) r2 hq) fun r s' hq'=>?_))
 cases r with
 | error e=>exact hx pins _ _ e s' I2 hq'
 | ok fl=>
  cases fl with
  | ret u=>
   obtain⟨v,H',I3,rv,ev,q3⟩:=I2.after hq';subst ev;exact⟨rv,⟨V.ref (s.heap.objs.size+1),H',I3,rfl,q3⟩⟩
  | next=>exact False.elim hq'
  | brk=>exact False.elim hq'
  | cont=>exact False.elim hq'
end
theorem qfs {K:Kx} {σ:L2.St} {G:Hp}:∀{vs:List V} {ds:List D},DqA K.k G vs ds→Tx K σ G vs (ds.map .d)
 | _,_,.nil=>.nil
 | _,_,.cons h t=>.cons h (qfs t)
theorem qhr {K:Kx} {W:WX} {n m:Nat} {dm:List V} {ds:List D} {sl:List Sl} {t tk:TA} {ma mk:AM} (hs:∀G,DqA K.k G dm ds) (ht:Bx K W t ma) (hk:Bx K W tk mk):Bx K W (qhC n m dm sl t tk) (zp n m ds sl ma mk):=fun σ G H ρ R Q h=>by
 unfold zp bindR at h;refine ht.fst R (fun xs ρ1 e vs G1 H1 S1 R1 x1=>?_) (fun e ρ1 q=>by rw[q]at h;exact h) (fun q=>by rw[q]at h;exact h);rw[e]at h;have h:=Iy.step S1 h;simp only[qcG]at h;unfold bindR at h;refine hk.fst R1 (fun ys ρ2 e2 zs G2 H2 S2 R2 x2=>?_) (fun e ρ1 q=>by rw[q]at h;exact h) (fun q=>by rw[q]at h;exact h);rw[e2]at h;have h:=Iy.step S2 h;simp only[qcF]at h;split at h
 ·rename_i hl;exact⟨x1.len.trans hl.1,x2.len.trans hl.2,h _ G2 H2 (Stp.refl _ _ _ _) R2 (qaC (x1.mono S2.g) (qfs (hs G2)) x2)⟩
 ·exact h.elim
def qsR:Option L→Bool
 | none=>true
 | some (.d _)=>true
 | some (.r (.lst _))=>true
 | _=>false
def allR (ρ:Env):Bool:=ρ.all qsR
def qtp:Option L→Option L
 | some (.r (.lst _))=>none
 | o=>o
def qrz (ρ:Env):Env:=ρ.map qtp
theorem qhs {ρ:Env} (h:allR ρ=true) {i:Nat} {l:L} (e:ρ[i]?=some (some l)):(∃x,l=.d x)∨∃es,l=.r (.lst es):=by
 have:=List.all_eq_true.mp h _ (List.mem_of_getElem? e);cases l with
 | d x=>exact .inl ⟨x,rfl⟩
 | r x=>cases x<;>first | exact .inr ⟨_,rfl⟩ | cases this
 | _=>cases this
structure FT (K:Kx) (i:Nat) (C f:Str) (a dx p:Addr) (A:List (Str×V)) (A':List (Str×D)) (σ:L2.St) (G H:Hp) (ρ:Env) (vs:List V) (ds:List D):Prop where
 r:Rel K σ G H (ρ.set i none)
 hn:allR (ρ.set i none)=true
 np:¬Own σ (ρ.set i none) p
 na:¬Own σ (ρ.set i none) a
 e:ρ[i]?=some (some (.r (.ins C (A'++[(f,.lst ds)]))))
 s:σ[i]?=some (some (.ref a))
 ga:G a=none
 gp:G p=none
 ha:H a=some (.ins (cA K.k C) dx (A++[(f,.ref p)]))
 gd:G dx=some (.own a)
 hp:H p=some (.lst vs)
 qA:DqF K.k G A A'
 q:DqA K.k G vs ds
 lA:A.lookup f=none
 lA':A'.lookup f=none
section
variable {K:Kx} {W:WX} {i:Nat} {C f:Str} {a dx p:Addr} {A:List (Str×V)} {A':List (Str×D)} {σ:L2.St} {G H G1 H1:Hp} {ρ ρ1:Env} {vs:List V} {ds:List D}
theorem FT.dat (X:FT K i C f a dx p A A' σ G H ρ vs ds) {j:Nat} {l:L} (hj:j≠i) (e:ρ[j]?=some (some l)):(∃x,l=.d x)∨∃es,l=.r (.lst es):=by
 refine qhs X.hn (i:=j) ?_;rw[List.getElem?_set_ne (fun z=>hj z.symm)];exact e
def qs1 (i:Nat) (ρ:Env) (d:D):Env:=qrz (ρ.set i (some (.d d)))
def qhv (K:Kx) (i:Nat) (C f:Str) (a dx p:Addr) (A:List (Str×V)) (A':List (Str×D)) (σ0:L2.St) (ρ0:Env) (G0 H0 G H:Hp) (D:Ends):Res Fl→Prop
 | .ok .nx ρ1=>∀σ1 G1 H1 vs1 ds1,Stp σ0 ρ0 G0 H0 σ1 ρ1 G1 H1→FT K i C f a dx p A A' σ1 G1 H1 ρ1 vs1 ds1→Fr p G H G1 H1→D.nx σ1 H1
 | .ok .ct ρ1=>∀σ1 G1 H1 vs1 ds1,Stp σ0 ρ0 G0 H0 σ1 ρ1 G1 H1→FT K i C f a dx p A A' σ1 G1 H1 ρ1 vs1 ds1→Fr p G H G1 H1→D.ct σ1 H1
 | _=>False
def qpS (i:Nat) (ρ:Env):Env:=match ρ[i]? with
 | some (some (.r x))=>qrz (ρ.set i (some (.d x)))
 | _=>ρ
theorem FT.lk (X:FT K i C f a dx p A A' σ G H ρ vs ds):qpS i ρ=qs1 i ρ (qih C f A' ds):=by
 unfold qpS;rw[X.e];rfl
theorem qhv.step {σ0:L2.St} {ρ0:Env} {G0 H0:Hp} {D:Ends} (fr:Fr p G H G1 H1):∀{r:Res Fl},qhv K i C f a dx p A A' σ0 ρ0 G0 H0 G H D r→qhv K i C f a dx p A A' σ0 ρ0 G0 H0 G1 H1 D r
 | .ok .nx _,h=>fun σ1 G2 H2 vs1 ds1 S X q=>h σ1 G2 H2 vs1 ds1 S X (fr.trans q)
 | .ok .ct _,h=>fun σ1 G2 H2 vs1 ds1 S X q=>h σ1 G2 H2 vs1 ds1 S X (fr.trans q)
 | .ok .bk _,h=>h
 | .ok (.rt _) _,h=>h
 | .ex _ _,h=>h
 | .bad,h=>h
end
namespace Lay
def it:Nat→Nat→Nat
 | 0,i=>i
 | n+1,i=>it n (5*i+1)
def lp (mask:Nat):Nat→Nat→Nat→Nat×Nat
 | 0,i,p=>(i,p)
 | n+1,i,p=>lp mask n (SetTable.leap mask i p).1 (SetTable.leap mask i p).2
structure Own (mask:Nat) (owner:Array (Option Nat)) (k:Nat):Prop where
 size:owner.size=mask+1
 perm:(owner.toList.filterMap id).Perm (List.range k)
end Lay
end DL
namespace DL
open PySem PySem.Spec PyProof.Rows L2
namespace Lay
theorem qaQ:∀(fuel e n:Nat),n<2 ^ (e+fuel)→∃e',SetTable.sizeAbove.go n fuel (2 ^ e)=2 ^ e'∧n<2 ^ e'∧(2 ^ e'≤2 ^ e∨2 ^ e'≤2*n)
 | 0,e,n,h=>⟨e,rfl,by simpa using h,.inl (Nat.le_refl _)⟩
 | fuel+1,e,n,h=>by
  unfold SetTable.sizeAbove.go;split
  ·rename_i hc;obtain⟨e',h1,h2,h3⟩:=qaQ fuel (e+1) n (by rw[Nat.add_assoc,Nat.add_comm 1];exact h);rw[Nat.pow_succ]at h1;refine⟨e',h1,h2,?_⟩;rcases h3 with h3 | h3
   ·right;rw[Nat.pow_succ]at h3;omega
   ·right;exact h3
  ·rename_i hc;exact⟨e,rfl,by omega,.inl (Nat.le_refl _)⟩
theorem above (n:Nat) (h:n<2 ^ 20):∃e,SetTable.sizeAbove n=2 ^ e∧n<2 ^ e∧2 ^ e≤8+2*n:=by
 obtain⟨e,h1,h2,h3⟩:=qaQ 64 3 n (Nat.lt_trans h (by decide));refine⟨e,h1,h2,?_⟩;rcases h3 with h3 | h3<;>omega
end Lay
end DL
namespace DL
open PySem PySem.Spec PyProof.Rows L2
abbrev LeP (x y:Int×Int):Prop:=SrtO.lexB y x=false
theorem LeP.tr {x y z:Int×Int} (h1:LeP x y) (h2:LeP y z):LeP x z:=by
 have a:=SrtO.lexB_no.mp h1;have b:=SrtO.lexB_no.mp h2;exact SrtO.lexB_no.mpr (by omega)
end DL
namespace L2
open PySem PySem.Spec PyProof.Rows
def qdJ (h:Heap) (u:Value) (k:List Int):Prop:=∃a its,u=.ref a∧h.IsTuple a its∧IntsAre its.toList k
theorem qdJ.keeps {h h':Heap} {u:Value} {k:List Int} (q:qdJ h u k) (kp:∀b o,h.get? b=some o→o.cls=.type "tuple"→h'.get? b=some o):qdJ h' u k:=by
 obtain⟨a,its,e,⟨o,ho,hc,n,hd⟩,i⟩:=q;exact⟨a,its,e,⟨o,kp a o ho hc,hc,n,hd⟩,i⟩
end L2
namespace DL
open PySem PySem.Spec PyProof.Rows L2
section
variable {K:Kx} {W:WX}
structure DcI (K:Kx) (σ:L2.St) (G1 H1:Hp) (ρ1:Env) (js:List Nat) (A:Addr) (accV:List (Key×V)) (acc:List (Key×D)) (G':Hp) (ρ':Env) (H':Hp):Prop where
 S:Stp σ ρ1 G1 H1 σ ρ' G' H'
 R:Rel K σ G' H' ρ'
 h:H' A=some (.dK accV)
 g:G' A=none
 no:¬Own σ ρ' A
 q:DqK K G' accV acc
 len:ρ'.length=ρ1.length
 same:∀i∈js,ρ'[i]?=ρ1[i]?
theorem yk {σ:L2.St} {G H:Hp} {ρ:Env} {A:Addr} (R:Rel K σ G H ρ) (hA:H A=none):¬Own σ ρ A:=fun⟨i,l,e1,o,e3⟩=>by
 obtain⟨v,e4,e5⟩:=R.at_ i l e1;rw[e3]at e4;cases Option.some.inj (Option.some.inj e4);have:∀y,MOk K G H (.ref A) y→False:=fun y hm=>by
  obtain⟨a,ea,_,hn⟩:=hm.ref;cases ea;exact hn hA
 cases l with
 | d y=>cases o
 | m y=>exact this y e5
 | r y=>exact this y e5
 | p y=>exact this y e5.1
 | xh=>cases o
 | u _ _=>cases o
theorem DcI.start {σ:L2.St} {G1 H1:Hp} {ρ1:Env} {js:List Nat} {A:Addr} {accV:List (Key×V)} {acc:List (Key×D)} (R:Rel K σ G1 H1 ρ1) (hA:H1 A=none) (q:DqK K G1 accV acc):DcI K σ G1 H1 ρ1 js A accV acc G1 ρ1 (upd H1 A (.dK accV)):=
 ⟨(Stp.refl _ _ _ _).side hA,R.side (R.same.free hA) (yk R hA),upd_same,R.same.free hA,yk R hA,q,rfl,fun _ _=>rfl⟩
theorem DcI.item {σ:L2.St} {G1 H1 G' H':Hp} {ρ1 ρ':Env} {js:List Nat} {A:Addr} {accV:List (Key×V)} {acc:List (Key×D)} (I:DcI K σ G1 H1 ρ1 js A accV acc G' ρ' H') {G2 H2:Hp} (gr:Gro G' H' G2 H2):DcI K σ G1 H1 ρ1 js A accV acc G2 ρ' H2:=by
 refine⟨I.S.trans (gr.stp (σ:=σ) (ρ:=ρ')),I.R.gro gr,gr.h A _ I.h,?_,I.no,I.q.mono gr.g,I.len,I.same⟩;cases q:G2 A with
 | none=>rfl
 | some o=>
  rcases gr.gf A o q with z | z
  ·rw[I.g]at z;cases z
  ·rw[I.h]at z;cases z
theorem DcI.leave {σ σ2:L2.St} {G1 H1 G2 H2 G3 H3:Hp} {ρ1 ρ' ρ2 ρ3:Env} {js ks:List Nat} {A:Addr} {accV O9:List (Key×V)} {acc qkO:List (Key×D)} (I:DcI K σ G1 H1 ρ1 js A accV acc G2 ρ' H2) (hA:H1 A=none) (hcl:clean ρ1 js=true) (hks:∀i∈ks,i∈js)
  (T:Tg ks (wipe σ js) σ2 (Vz ρ' js) ρ2) (S4:Stp σ2 ρ2 G2 (jh A H2) σ2 ρ3 G3 (jh A H3)) (R4:Rel K σ2 G3 (jh A H3) ρ3) (h3:H3 A=some (.dK O9)) (g3:G3 A=none) (q3:DqK K G3 O9 qkO) :
  DcI K σ G1 H1 ρ1 js A O9 qkO G3 (X6 ρ1 ρ3 js) H3:=by
 have R2:Rel K σ G2 (jh A H2) ρ':=I.R.outD I.g I.no;have S2:Stp σ ρ1 G1 H1 σ ρ' G2 (jh A H2):=I.S.outD hA;obtain⟨S5,R5⟩:=Rel.turn R2 I.len I.same hcl ks hks T S4 R4;have l3:ρ3.length=ρ1.length:=by
  have e1:=R4.len;have e2:=T.len;rw[wipe_length]at e2;have e3:=R2.len;have e4:=I.len;omega
 have no3:¬Own σ (X6 ρ1 ρ3 js) A:=yk R5 jf;have S6:=(S2.trans S5).side (o:=.dK O9) hA;have R6:=R5.side (o:=.dK O9) g3 no3;rw[jg h3]at S6 R6;exact⟨S6,R6,h3,g3,no3,q3,by rw[Ul];exact l3,fun i hi=>Me l3 hi⟩
end
structure NScopeS (N ps:List Str) (sc:Scope):Prop where
 kind:sc.kind=.function
 co:sc.isCoroutine=false
 gen:sc.isGenerator=false
 nd:N.Nodup
 pre:N.take ps.length=ps
 par:∀x∈ps,sc.names.lookup x=some .local∨sc.names.lookup x=some .cell
 nocls:∀y∈sc.names,y.2=.cell→y.1≠"__class__"
 free:∀y∈sc.names,y.2=.free→y.1="__class__"
 clsk:sc.names.lookup ("__class__" : Str)=some .free
theorem cells_mem:∀(l:List (Str×NameKind)) (n:Nat) (a:List (Str×Addr)) (x:Str) (c:Addr),(x,c)∈cellsFrom n l a→(x,c)∈a∨(x,NameKind.cell)∈l
 | [],_,_,_,_,h=>.inl h
 | (y,k)::r,n,a,x,c,h=>by
  unfold cellsFrom at h;split at h
  ·rename_i hk;rcases cells_mem r (n+1) ((y,n)::a) x c h with z | z
   ·rcases List.mem_cons.mp z with e | z
    ·cases e;have:k=.cell:=eq_of_beq hk;exact .inr (by rw[this];exact List.mem_cons_self)
    ·exact .inl z
   ·exact .inr (List.mem_cons_of_mem _ z)
  ·rcases cells_mem r n a x c h with z | z
   ·exact .inl z
   ·exact .inr (List.mem_cons_of_mem _ z)
abbrev clS (sc:Scope) (L cc:Addr):List (Str×Addr):=cellsFrom (L+1) sc.names []++[(("__class__" : Str),cc)]
theorem NScopeS.look {N ps:List Str} {sc:Scope} (S:NScopeS N ps sc) {L:Addr} (cc:Addr):(clS sc L cc).lookup ("__class__" : Str)=some cc:=by
 have e:(cellsFrom (L+1) sc.names []).lookup ("__class__" : Str)=none:=by
  cases z:(cellsFrom (L+1) sc.names []).lookup ("__class__" : Str) with
  | none=>rfl
  | some c=>
   rcases cells_mem _ _ _ _ _ (PySem.mem_of_lookup z) with h | h
   ·cases h
   ·exact absurd rfl (S.nocls _ h rfl)
 unfold clS;rw[List.lookup_append,e];simp[List.lookup]
end DL
namespace L2
open PySem PySem.Calls PyProof.Rows PySem.Spec
def qpd (h:Heap) (z TI TO i1 i2 l1 l2 S:Addr) (i:Nat) (xs ys:Array Value):Prop:=
 IsPair h TI (.ref i1) (.ref i2)∧h.IsListIter i1 l1 i∧h.IsListIter i2 l2 i∧h.IsList l1 xs∧h.IsList l2 ys∧
  ((IsZip h z TI TO .none∧∃a b,IsPair h TO a b)∨∃T f oT,IsZipHeld h z TI TO T f∧h.get? T=some oT∧T≠z∧T≠i1∧T≠i2∧T≠S)
structure ZpG (xs ys:Array Value) (lo:Addr) (h:Heap) (as:List Addr):Prop where
 rise:as.Pairwise (· < ·)
 above:∀a∈as,lo<a
 pairs:∀(j:Nat) (a:Addr),as[j]?=some a→∃x y,xs[j]?=some x∧ys[j]?=some y∧h.get? a=some (tOb #[x,y])
theorem ZpG.there {xs ys:Array Value} {lo:Addr} {h:Heap} {as:List Addr} (g:ZpG xs ys lo h as) {a:Addr} (ha:a∈as):a<h.objs.size:=by
 obtain⟨j,hj⟩:=List.mem_iff_getElem?.mp ha;obtain⟨_,_,_,_,e⟩:=g.pairs j a hj;exact Heap.lt_size e
section
variable {z TI TO i1 i2 l1 l2 S:Addr} {i:Nat} {xs ys:Array Value}
theorem qpd.keep {h h':Heap} (st:qpd h z TI TO i1 i2 l1 l2 S i xs ys) (k:∀b o,b≠S→h.get? b=some o→h'.get? b=some o)
  (nz:z≠S) (nTI:TI≠S) (nTO:TO≠S) (n1:i1≠S) (n2:i2≠S) (m1:l1≠S) (m2:l2≠S):qpd h' z TI TO i1 i2 l1 l2 S i xs ys:=by
 obtain⟨hTI,h1,h2,hl1,hl2,hz⟩:=st;refine⟨k _ _ nTI hTI,h1.at fun o e=>k _ o n1 e,h2.at fun o e=>k _ o n2 e,hl1.at fun o e=>k _ o m1 e,hl2.at fun o e=>k _ o m2 e,?_⟩;rcases hz with ⟨hz,a,b,hTO⟩ | ⟨T,f,oT,hz,hT,r1,r2,r3,r4⟩
 ·exact .inl ⟨k _ _ nz hz,a,b,k _ _ nTO hTO⟩
 ·exact .inr ⟨T,f,oT,k _ _ nz hz,k _ _ r4 hT,r1,r2,r3,r4⟩
variable {prog:Program} {w:World} {A:Around} {E:Value→Shared→Prop} {s:Shared}
end
end L2
namespace L2
open PySem PySem.Calls PyProof.Rows PySem.Spec
structure ZpH (H H':Hp) (S:Addr) (as:List Addr) (xs ys:List V):Prop where
 s0:H S=none
 s1:H' S=some (.lst (as.map V.ref))
 ns:S∉as
 a0:∀a∈as,H a=none
 len:as.length=min xs.length ys.length
 off:∀b,b≠S→b∉as→H' b=H b
 prs:∀(j:Nat) (a:Addr),as[j]?=some a→∃x y o,xs[j]?=some x∧ys[j]?=some y∧H' a=some (.frz o (.tup [x,y]))∧o.dict=none
theorem ZpH.same {H H':Hp} {S:Addr} {as:List Addr} {xs ys:List V} (z:ZpH H H' S as xs ys):∀b o,H b=some o→H' b=some o:=fun b o e=>by
 rw[z.off b (fun q=>by rw[q,z.s0]at e;cases e) (fun q=>by rw[z.a0 b q]at e;cases e)];exact e
end L2
namespace DL
open PySem PySem.Spec PyProof.Rows L2
def qhb (us:List (Key×D)) (k:Key):List (Key×D):=us.filter fun kv=>decide (kv.1≠k)
theorem DqK.dropq {K:PySem.W.Frag} {G:Hp} {k:Key}:∀{vs:List (Key×V)} {ds:List (Key×D)},DqK K G vs ds→DqK K G (dropK vs k) (qhb ds k)
 | _,_,.nil=>.nil
 | _,_,.cons (k:=j) h t=>by
  have ih:=DqK.dropq (k:=k) t;unfold dropK qhb at *;rw[List.filter_cons,List.filter_cons];by_cases e:j=k
  ·simp only[e,ne_eq,not_true,decide_false];exact ih
  ·simp only[e,ne_eq,not_false_eq_true,decide_true,if_true];exact .cons h ih
def qkX (us:List (Key×D)) (x:Int):List (Key×D):=if (qfh us (.inl x)).isSome=true then qhb us (.inl x) else qmQ us (.inl x) (.bl true)
def Ai (mv:List (Key×D)):Nat→D→D→List (Key×D)→Option (List (Key×D))
 | _,.non,_,us=>some us
 | n+1,.int x,.int q,us=>if us.length<mx then (match qfh mv (.inl q) with
  | some (.tup [nd,q2])=>Ai mv n nd q2 (qkX us x)
  | _=>none) else none
 | _,_,_,_=>none
def qhZ (mv:List (Key×D)) (n:Nat) (e:Int) (us:List (Key×D)):Option (List (Key×D)):=match qfh mv (.inl e) with
 | some (.tup [nd,q])=>Ai mv n nd q us
 | _=>none
def qmp (K:PySem.W.Frag) (fu fe:Str):TS:=
 tSeq (tAsg (tDGet (tVar 1) (tFld K (tVar 0) fe)) (gTup K 2 (gCons (gName 2) (gCons (gName 3) gNil))))
  (tSeq (tWhile (tB (tNotN (tVar 2))) (tSeq (tIfS (tB (tDIn (tVar 2) (tFld K (tVar 0) fu))) (tSeq (sDDel (tFld K (tVar 0) fu) (tVar 2)) tNext) (tSeq (sDPut (tFld K (tVar 0) fu) (tVar 2) (tC (.bl true))) tNext))
   (tSeq (tAsg (tDGet (tVar 1) (tVar 3)) (gTup K 2 (gCons (gName 2) (gCons (gName 3) gNil)))) tNext))) tNext)
theorem qhT {H:Hp} {d:Addr} {o:HO} (h:H d=some o):upd H d o=H:=by
 funext b
 by_cases e:b=d
 ·rw[e,upd_same,h]
 ·rw[upd_ne e]
theorem qcu {mv:List (Key×D)} {n:Nat} {q:D} {us:List (Key×D)}:Ai mv n .non q us=some us:=by cases n<;>rfl
section
variable {K:PySem.W.Frag} {C fu fe:Str} {H:Hp} {a m dx d:Addr} {fs:List (Str×V)} {G:Hp} {mvV usV:List (Key×V)} {mvD usD us':List (Key×D)} {n:Nat} {e:Int} {E:Ends}
theorem qcV {k:Key} {t:D} (q:DqK K G mvV mvD) (h:qfh mvD k=some t):∃v,valV mvV k=some v∧Dq K G v t:=by
 have:=DqK.get (k:=k) q;rw[h]at this;exact this
theorem qjU {k:Key} (q:DqK K G mvV mvD) (h:qfh mvD k=none):valV mvV k=none:=by
 have:=DqK.get (k:=k) q;rw[h]at this;exact this
theorem qbI (fU:FldC K C fu) (fE:FldC K C fe) (ha:H a=some (.ins (cA K C) dx fs)) (hu:fs.lookup fu=some (.ref d)) (he:fs.lookup fe=some (.int e)) (hm:H m=some (.dK mvV)) (md:m≠d) (hd:H d=some (.dK usV)) (sG:Same G H) (gd:G d=none)
  (qm:DqK K G mvV mvD) (qu:DqK K G usV usD) (ht:qhZ mvD n e usD=some us') (hQ:∀σ usV',DqK K G usV' us'→E.nx σ (upd H d (.dK usV'))):qmp K fu fe E [some (.ref a),some (.ref m),none,none] H:=by
 have ad:a≠d:=fun z=>by rw[z,hd]at ha;cases ha
 unfold qhZ at ht;split at ht
 ·rename_i nd q hg;obtain⟨tv,e1,e2⟩:=qcV qm hg;cases e2 with
  | tup e3 e4=>
   rename_i t xs;cases e4 with
   | cons d1 e5=>
    cases e5 with
    | cons d2 e6=>
     cases e6;rename_i v1 v2;refine⟨_,rfl,_,rfl,a,_,dx,fs,_,rfl,ha,fE.cl,fE.no,he,m,.ref t,rfl,?_,?_⟩
     ·have:=DGet.k (k:=.inl e) hm;rw[e1]at this;exact this
     refine⟨t,[v1,v2],rfl,(Same.seqN sG e3).sq,rfl,v1,[v2],rfl,v2,[],rfl,rfl,?_⟩;refine⟨fun k σ H'=>∃nd q v1 v2 usV usD,σ=[some (.ref a),some (.ref m),some v1,some v2]∧H'=upd H d (.dK usV)∧DqK K G usV usD∧Dq K G v1 nd∧Dq K G v2 q∧Ai mvD k nd q usD=some us',⟨n,nd,q,v1,v2,usV,usD,rfl,(qhT hd).symm,qu,d1,d2,ht⟩,?_⟩;rintro k σ H' ⟨nd,q,v1,v2,usV,usD,rfl,rfl,qu,d1,d2,ht⟩;have ha':(upd H d (.dK usV)) a=some (.ins (cA K C) dx fs):=by rw[upd_ne ad];exact ha
     have hm':(upd H d (.dK usV)) m=some (.dK mvV):=by rw[upd_ne md];exact hm
     have hd':(upd H d (.dK usV)) d=some (.dK usV):=upd_same;refine⟨v1,rfl,_,rfl,?_⟩;cases d1 with
     | non=>
      rw[qcu]at ht;cases ht;rw[if_neg (by simp)];exact hQ _ _ qu
     | int x=>
      rw[if_pos (by simp)];cases k with
      | zero=>simp[Ai]at ht
      | succ k=>
       cases d2 with
       | int y=>
        unfold Ai at ht;split at ht
        ·rename_i hl;split at ht
         ·rename_i nd2 q2 hg;obtain⟨tv,e1,e2⟩:=qcV qm hg;cases e2 with
          | tup e3 e4=>
           rename_i t xs;cases e4 with
           | cons d1' e5=>
            cases e5 with
            | cons d2' e6=>
             cases e6;rename_i w1 w2;refine⟨fun σ' H'=>∃m',m'<k+1∧∃nd q v1 v2 usV usD,σ'=[some (.ref a),some (.ref m),some v1,some v2]∧H'=upd H d (.dK usV)∧DqK K G usV usD∧Dq K G v1 nd∧Dq K G v2 q∧Ai mvD m' nd q usD=some us',fun _ _ z=>z,?_⟩;have last:∀qhA,DqK K G qhA (qkX usD x)→∀D':Ends,D'.nx=(fun σ' H'=>∃m',m'<k+1∧∃nd q v1 v2 usV usD,σ'=[some (.ref a),some (.ref m),some v1,some v2]∧H'=upd H d (.dK usV)∧DqK K G usV usD∧Dq K G v1 nd∧Dq K G v2 q∧Ai mvD m' nd q usD=some us')→
               tSeq (tAsg (tDGet (tVar 1) (tVar 3)) (gTup K 2 (gCons (gName 2) (gCons (gName 3) gNil)))) tNext D' [some (.ref a),some (.ref m),some (.int x),some (.int y)] (upd H d (.dK qhA)):=fun qhA q2 D' hD=>by
              have hm2:(upd H d (.dK qhA)) m=some (.dK mvV):=by rw[upd_ne md];exact hm
              have s2:Same G (upd H d (.dK qhA)):=fun b o z=>by
               rw[upd_ne (fun w=>by rw[w,gd]at z;cases z)];exact sG b o z
              refine⟨_,rfl,_,rfl,m,.ref t,rfl,?_,?_⟩
              ·have:=DGet.k (k:=.inl y) hm2;rw[e1]at this;exact this
              refine⟨t,[w1,w2],rfl,(Same.seqN s2 e3).sq,rfl,w1,[w2],rfl,w2,[],rfl,rfl,?_⟩;show D'.nx _ _;rw[hD];exact⟨k,Nat.lt_succ_self k,nd2,_,w1,w2,qhA,_,rfl,rfl,q2,d1',d2',ht⟩
             refine⟨_,rfl,_,rfl,a,_,dx,fs,_,rfl,ha',fU.cl,fU.no,hu,d,valV usV (.inl x),rfl,DGet.k (k:=.inl x) hd',_,rfl,?_⟩;cases hgu:qfh usD (.inl x) with
             | none=>
              have hv:=qjU qu hgu;rw[hv];rw[if_neg (by simp)];refine⟨_,rfl,a,_,dx,fs,_,rfl,ha',fU.cl,fU.no,hu,_,rfl,d,_,rfl,DPut.k (k:=.inl x) (v:=.bl true) hd' ?_,?_⟩
              ·rw[qu.length];exact Cf hl
              ·rw[upd_upd];refine last _ ?_ _ rfl;unfold qkX;rw[hgu];exact qu.put (.bl true)
             | some z=>
              obtain⟨zv,hv,_⟩:=qcV qu hgu;rw[hv];rw[if_pos (by simp)];refine⟨_,rfl,a,_,dx,fs,_,rfl,ha',fU.cl,fU.no,hu,_,rfl,d,usV,.inl x,rfl,hd',rfl,by rw[hv];rfl,?_⟩;rw[upd_upd];refine last _ ?_ _ rfl;unfold qkX;rw[hgu];exact qu.dropq
         ·cases ht
        ·cases ht
       | _=>simp[Ai]at ht
     | _=>cases k<;>simp[Ai]at ht
 ·cases ht
end
structure FSt (K:PySem.W.Frag) (C fu:Str) (σ0:L2.St) (ρ0:Env) (G0 H0:Hp) (fs0:List (Str×D)) (a dx d:Addr) (fsV:List (Str×V)) (us:List (Key×D)) (σ:L2.St) (G H:Hp) (ρ:Env):Prop where
 rel:Rel ⟨K,none⟩ σ G H (none::ρ)
 s0:σ[0]?=some (some (.ref a))
 z0:σ0[0]?=some (some (.ref a))
 ga:G a=none
 ha:H a=some (.ins (cA K C) dx (fsV++[(fu,.ref d)]))
 gdx:G dx=some (.own a)
 qf:DqF K G fsV fs0
 gd:G d=none
 hd:∃usV,H d=some (.dK usV)∧DqK K G usV us
 na:¬Own σ (none::ρ) a
 nd:¬Own σ (none::ρ) d
 h0d:H0 d=none
 stp:Stp σ0 ρ0 G0 H0 σ (some (.r .non)::ρ) G H
section
variable {K:PySem.W.Frag} {C fu fe mt:Str} {σ0 σ σ3:L2.St} {ρ0 ρ ρ2:Env} {G0 H0 G H G' H' G2 Gc:Hp} {fs0:List (Str×D)} {a dx d:Addr} {fsV:List (Str×V)} {us us':List (Key×D)} {D:Ends}
theorem FSt.ad (F:FSt K C fu σ0 ρ0 G0 H0 fs0 a dx d fsV us σ G H ρ):a≠d:=fun z=>by
 obtain⟨_,h,_⟩:=F.hd;rw[← z,F.ha]at h;cases h
end
def qkV:List L→Option (List D)
 | []=>some []
 | .d x::as=>(qkV as).map (x::·)
 | _::_=>none
theorem qaf:∀{ds:List D},qkV (ds.map .d)=some ds
 | []=>rfl
 | d::ds=>by show (qkV (ds.map .d)).map (d::·)=_;rw[qaf];rfl
def vKp (as:List L):FRes→FRes
 | .ok l _=>.ok l as
 | .ex e _=>.ex e as
 | .bad=>.bad
def fV (n:Nat) (R:List L→FRes) (as:List L):FRes:=match qkV as with
 | some ds=>if n≤ds.length∧ds.length≤mx then vKp as (R ((ds.take n++[D.tup (ds.drop n)]).map L.d)) else .bad
 | none=>.bad
def spV (K:PySem.W.Frag) (n:Nat) (R:List L→FRes):Sp:=fun vs H Q E=>spF K vs.length (fV n R) vs H Q E
section
variable {K:PySem.W.Frag} {G H G' H':Hp} {vs:List V} {ds:List D} {R:List L→FRes} {n:Nat}
theorem qtR (s:Same G H) (q:DqA K G vs ds):qdL ⟨K,none⟩ G H vs (ds.map .d):=by
 refine⟨⟨s,by simp[q.length],fun i l e=>?_,fun y h=>(by cases h),fun i j l l' a _ e1 _ o1 _ _=>?_⟩,fun l hl=>?_⟩
 ·rw[List.getElem?_map,List.getElem?_map]at e;obtain⟨l',e1,e2⟩:=Option.map_eq_some_iff.mp e;obtain⟨d,e3,rfl⟩:=Option.map_eq_some_iff.mp e1;cases e2;obtain⟨v,h1,h2⟩:=q.get e3;exact⟨v,by rw[List.getElem?_map,h1];rfl,h2⟩
 ·rw[List.getElem?_map,List.getElem?_map]at e1;obtain⟨l',e1,e2⟩:=Option.map_eq_some_iff.mp e1;obtain⟨d,e3,rfl⟩:=Option.map_eq_some_iff.mp e1;cases e2;cases o1
 ·obtain⟨d,_,rfl⟩:=List.mem_map.mp hl;rfl
theorem qfg {σ σ':L2.St} {ρ':Env} (S:Stp σ ((ds.map L.d).map some) G H σ' ρ' G' H') (s:Same G' H'):Gro G H G' H':=by
 have no:∀a,¬Own σ ((ds.map L.d).map some) a:=fun a ⟨i,l,e,o,_⟩=>by
  rw[List.getElem?_map,List.getElem?_map]at e;obtain⟨l',e1,e2⟩:=Option.map_eq_some_iff.mp e;obtain⟨d,_,rfl⟩:=Option.map_eq_some_iff.mp e1;cases e2;cases o
 refine⟨S.g,s,fun a o e=>S.fr a o e (no a),fun a o e=>?_⟩;rcases S.gf a o e with h | h | h
 ·exact .inl h
 ·exact .inr h
 ·exact absurd h.own (no a)
end
structure FnV (P:Program) (w:World) (K:PySem.W.Frag) (mg:Str→Option Value) (base:Heap) (k:Nat) (x:Str) (n:Nat) (R:List L→FRes):Prop where
 ex:FnR P w K mg base (L2.CX P w) k (cA K x) (spV K n R)
 g:mg x=some (.ref (cA K x))
 kp:PySem.W.keepIn K (.ref (cA K x))=true
def xD (ρ:Env):X→Option D
 | .d d=>some d
 | .s i=>match ρ[i]? with
  | some (some (.d x))=>some x
  | _=>none
def xDs (ρ:Env):List X→Option (List D)
 | []=>some []
 | x::xs=>match xD ρ x,xDs ρ xs with
  | some d,some ds=>some (d::ds)
  | _,_=>none
section
variable {K:Kx} {W:WX} {σ:L2.St} {G H:Hp} {ρ:Env}
theorem qmg {v:V} {x:X} {d:D} (R:Rel K σ G H ρ) (h:XOk K σ G v x) (e:xD ρ x=some d):Dq K.k G v d:=by
 cases x with
 | d y=>cases Option.some.inj e;exact h
 | s i=>
  unfold xD at e;simp only at e;split at e
  ·rename_i y hy;cases Option.some.inj e;obtain⟨u,h1,h2⟩:=R.at_ i _ hy;have h:σ[i]?=some (some v):=h;rw[h]at h1;cases h1;exact h2
  ·cases e
theorem qbE (R:Rel K σ G H ρ):∀{vs:List V} {xs:List X} {ds:List D},Tx K σ G vs xs→xDs ρ xs=some ds→DqA K.k G vs ds
 | _,_,_,.nil,e=>by cases Option.some.inj e;exact .nil
 | _,_,_,.cons h t,e=>by
  unfold xDs at e;split at e
  ·rename_i d ds e1 e2;cases Option.some.inj e;exact .cons (qmg R h e1) (qbE R t e2)
  ·cases e
def tCallV (sp:Sp) (E:L2.St→XK) (t:TA):TE:=fun σ H Q=>t σ H fun vs H1=>sp vs H1 Q (E σ)
def cvE (ρ:Env):FRes→Res X
 | .ok (.d x) _=>.ok (.d x) ρ
 | .ok (.m x) _=>.ok (.d x) ρ
 | .ex e _=>.ex e ρ
 | _=>.bad
def vR (n:Nat) (R:List L→FRes) (ds:List D):FRes:=if n≤ds.length∧ds.length≤mx then R ((ds.take n++[D.tup (ds.drop n)]).map L.d) else .bad
def kCE (n:Nat) (R:List L→FRes) (ρ:Env):Option (List D)→Res X
 | some ds=>cvE ρ (vR n R ds)
 | none=>.bad
def qe8 (n:Nat) (R:List L→FRes):List X→Env→Res X:=fun xs ρ1=>kCE n R ρ1 (xDs ρ1 xs)
def qdi (n:Nat) (R:List L→FRes) (ma:AM):EM:=fun ρ=>bindR (ma ρ) (qe8 n R)
theorem qou {n:Nat} {R:List L→FRes} {ds:List D}:fV n R (ds.map .d)=vKp (ds.map .d) (vR n R ds):=by
 unfold fV vR;rw[qaf];simp only;split<;>rfl
theorem qhd {n:Nat} {R:List L→FRes} {vs:List V} {ds:List D} {Q:VK} {E:XK} (Rl:Rel K σ G H ρ) (q:DqA K.k G vs ds)
  (h:match vR n R ds with
   | .ok l _=>∀v G' H',Gro G H G' H'→qkP ⟨K.k,none⟩ H G' H' v l→Q v H'
   | .ex e _=>∀c d G' H',Gro G H G' H'→ExOk K.k G' c d e→E c d H'
   | .bad=>False):spV K.k n R vs H Q E:=by
 refine⟨rfl,G,ds.map .d,qtR Rl.same q,?_⟩;rw[qou];cases e:vR n R ds with
 | bad=>rw[e]at h;exact h.elim
 | ex x bs=>
  rw[e]at h;exact fun c d G' H' S' R' qe=>h c d G' H' (qfg S' R'.same) qe
 | ok l bs=>
  rw[e]at h;exact fun v G' H' S' R' qr=>h v G' H' (qfg S' R'.same) qr
theorem qeA {n:Nat} {R:List L→FRes} {t:TA} {ma:AM} (ht:Bx K W t ma):Yx K W (tCallV (spV K.k n R) (WE W) t) (qdi n R ma):=fun σ G H ρ Rl Q h=>by
 unfold qdi bindR at h;refine ht.fst Rl (fun xs ρ1 e vs G1 H1 S1 R1 x1=>?_) (fun e ρ1 q=>by rw[q]at h;exact h) (fun q=>by rw[q]at h;exact h);rw[e]at h;have h:=EPost.step S1 h;simp only[qe8]at h;cases e2:xDs ρ1 xs with
 | none=>rw[e2]at h;exact h.elim
 | some ds=>
  rw[e2]at h;simp only[kCE]at h;refine qhd R1 (qbE R1 x1 e2) ?_;cases e3:vR n R ds with
  | bad=>rw[e3]at h;exact h
  | ex x bs=>
   rw[e3]at h;exact fun c d G' H' g qe=>h c d G' H' g.stp (R1.gro g) qe
  | ok l bs=>
   rw[e3]at h;intro v G' H' g q;cases l with
   | d x=>exact h v G' H' g.stp (R1.gro g) q
   | m x=>
    obtain⟨G2,S2,R2,q2⟩:=Frs.lock g.stp (R1.gro g) ⟨q.1,fun a ea=>⟨q.2 a ea,fun z=>Own.there R1 z (q.2 a ea)⟩⟩;exact h v G2 H' S2 R2 q2
   | r x=>exact h.elim
   | p x=>exact h.elim
   | xh=>exact h.elim
   | u _ _=>exact h.elim
end
section
variable {X:Cx} {CX:CXT} {k:Nat} {f:Addr} {sp:Sp} {E:L2.St→XK} {x:Str} {p pos spos:Pos} {e:Expr} {es:List Expr} {te:TE} {t:TA}
theorem qd3 {pins:List (Addr×Obj)} {σ:L2.St} {H:Hp} {s:Shared} {Q:VK} {us:List Value} {vs:List V} (F:FnR X.prog X.w X.K X.mg X.base CX k f sp) (hr:Room k X.A) (hx:PassesAt CX X σ (E σ)) (I:Inv X pins σ H s) (r:Vals vs us) (h:sp vs H Q (E σ)):wpAny (model X.prog X.w) X.A (call (.ref f) us) (EP X pins σ Q) X.xe s:=
 wpAny_call (codeAny_mono (F X.A X.stack s H us vs Q (E σ) hr I.env0 r h) fun r s' hq=>by
  cases r with
  | error e=>exact hx pins H s e s' I hq
  | ok fl=>
   cases fl with
   | ret u=>exact I.after hq
   | next=>exact False.elim hq
   | brk=>exact False.elim hq
   | cont=>exact False.elim hq)
theorem qb9 (F:FnR X.prog X.w X.K X.mg X.base CX k f sp) (hr:Room k X.A) (hg:Gl X x) (hm:X.mg x=some (.ref f)) (hk:PySem.W.keepIn X.K (.ref f)=true) (hx:∀σ,PassesAt CX X σ (E σ)) (ha:PA X (e::es) t) (hdb:(x == ("__debug__" : Str))=false:=by decide)
  (he:starEach (e::es) X.env=(false,eval e X.env)::starEach es X.env:=by rfl) (hpl:(backTo pos (starEach es X.env)).any (·.1)=false:=by rfl):PE X (.Call (.Name x p) (e::es) [] pos) (tCallV sp E t):=by
 refine⟨fun pins s σ H Q I h=>?_⟩;refine wpAny_Call_Name_kw (ld_glob I hg hm ?_ hdb);exact PySem.W.callWith_K (h₀:=X.base) I.ok.mod.kin hk (thn (ha.run pos pins s σ H _ I h) fun us s1 ⟨vs,H1,I1,r,q⟩=>⟨I1.kIn,qd3 F hr (hx σ) I1 r q⟩) he hpl
end
section
variable {X:Cx} {xa:Option XA} {W:WX} {e:Expr} {es:List Expr} {am:AM} {me:EM} {pos p spos:Pos} {x:Str} {k n:Nat} {R:List L→FRes}
theorem qjE (B:FnV X.prog X.w X.K X.mg X.base k x n R) (hr:Room k X.A) (tk:Takes X W) (ha:JA X xa W (e::es) am) (hg:Gl X x:=by rfl)
  (hdb:(x == ("__debug__" : Str))=false:=by decide) (he:starEach (e::es) X.env=(false,eval e X.env)::starEach es X.env:=by rfl) (hpl:(backTo pos (starEach es X.env)).any (·.1)=false:=by rfl):JE X xa W (.Call (.Name x p) (e::es) [] pos) (qdi n R am):=
 let ⟨_,h1,h2⟩:=ha;⟨_,qb9 B.ex hr hg B.g B.kp (fun σ=>passAt tk σ) h1 hdb he hpl,qeA h2⟩
end
def qp2:List V→Hp→VK→Prop:=fun vs H Q=>∃a b:Int,vs=[.int a,.int b]∧a.natAbs<2 ^ 64∧b.natAbs<2 ^ 64∧Q (.int ((a.natAbs.lcm b.natAbs:Nat):Int)) H
theorem qkx {X:Cx}:CallR X (.builtin "math.lcm") qp2:=by
 intro pins s σ H vs us Q I r h;obtain⟨a,b,rfl,ha,hb,q⟩:=h;obtain⟨t,u,rfl⟩:=Vals.int2 r;exact PySem.W.mc_lcm ha hb fun _=>⟨.int _,H,I.tok _,⟨_,rfl⟩,q⟩
def qlt (ρ:Env):Option (List D)→Res X
 | some [.int a,.int b]=>if a.natAbs<2 ^ 64∧b.natAbs<2 ^ 64 then .ok (.d (.int ((a.natAbs.lcm b.natAbs:Nat):Int))) ρ else .bad
 | _=>.bad
def qlD:List X→Env→Res X:=fun xs ρ1=>qlt ρ1 (xDs ρ1 xs)
def qeF (ma:AM):EM:=fun ρ=>bindR (ma ρ) qlD
theorem qke {K:Kx} {W:WX} {t:TA} {ma:AM} (ht:Bx K W t ma):Yx K W (tCB qp2 t) (qeF ma):=fun σ G H ρ R Q h=>by
 unfold qeF bindR at h;refine ht.fst R (fun xs ρ1 e vs G1 H1 S1 R1 x1=>?_) (fun e ρ1 q=>by rw[q]at h;exact h) (fun q=>by rw[q]at h;exact h);rw[e]at h;have h:=EPost.step S1 h;simp only[qlD]at h;cases e2:xDs ρ1 xs with
 | none=>rw[e2]at h;exact h.elim
 | some ds=>
  rw[e2]at h;have q:=qbE R1 x1 e2;unfold qlt at h;split at h
  ·rename_i a b eq;cases Option.some.inj eq;split at h
   ·rename_i hh;cases q with
    | cons h1 q=>
    cases q with
    | cons h2 q=>
    cases q;cases h1;cases h2;exact⟨a,b,rfl,hh.1,hh.2,h _ _ _ (Stp.refl _ _ _ _) R1 (.int _)⟩
   ·exact h.elim
  ·exact h.elim
theorem jx {X:Cx} {xa:Option XA} {W:WX} {e:Expr} {es:List Expr} {am:AM} {pos p:Pos} {x:Str} (hm:X.mg x=some (.builtin "math.lcm")) (ha:JA X xa W (e::es) am) (hg:Gl X x:=by rfl)
  (hdb:(x == ("__debug__" : Str))=false:=by decide) (he:starEach (e::es) X.env=(false,eval e X.env)::starEach es X.env:=by rfl) (hpl:(backTo pos (starEach es X.env)).any (·.1)=false:=by rfl):JE X xa W (.Call (.Name x p) (e::es) [] pos) (qeF am):=
 let ⟨_,h1,h2⟩:=ha;⟨_,pe_callBfun qkx hg hm h1 hdb he hpl,qke h2⟩
section
variable {ρ:Env} {me:EM} {ma:AM} {n i:Nat} {R:List L→FRes} {xs:List X} {x:X} {d:D} {ds es:List D} {e:Exn} {bs:List L} {o:Option (Option L)} {a b:Int}
@[simp] theorem qtT:xD ρ (.d d)=some d:=(rfl)
@[simp] theorem qsm:xDs ρ []=some []:=(rfl)
def qkz:Option D→Option (List D)→Option (List D)
 | some d,some ds=>some (d::ds)
 | _,_=>none
@[simp] theorem qsn:xDs ρ (x::xs)=qkz (xD ρ x) (xDs ρ xs):=(rfl)
@[simp] theorem qoT:qkz (some d) (some ds)=some (d::ds):=(rfl)
@[simp] theorem qoL:qeF ma ρ=bindR (ma ρ) qlD:=(rfl)
@[simp] theorem qnX:qlD xs ρ=qlt ρ (xDs ρ xs):=(rfl)
@[simp] theorem qnC:qlt ρ (some [.int a,.int b])=if a.natAbs<2 ^ 64∧b.natAbs<2 ^ 64 then .ok (.d (.int ((a.natAbs.lcm b.natAbs:Nat):Int))) ρ else .bad:=(rfl)
end
section
variable {X:Cx} {CX:CXT} {k:Nat} {f C:Addr} {fd:FuncData} {ps ks:List Str} {sp:Sp} {x:Str} {p pos:Pos} {kws:List Keyword} {tk:TA} {g:List Value→List Value→List Value} {sl:List Sl} {dm:List V}
theorem qa5 {E:L2.St→XK} (M:Mk X.K C f) (F:FnOk X.prog X.w X.K X.mg X.base CX k f fd ps sp) (hr:Room (k+1) X.A) (hg:Gl X x) (hm:X.mg x=some (.ref C)) (hb:KBn X.K fd ps (0+1) ks g (fun vs zs=>gS (.p 0::sl.map upS) vs dm zs)) (hx:∀σ,PassesAt CX X σ (E σ))
  (hkw:PK X kws tk) (hall:(backToKw pos (keywordEach kws X.env)).all (·.1.isSome)=true:=by rfl) (hks:(backToKw pos (keywordEach kws X.env)).filterMap (·.1)=ks:=by rfl)
  (hdb:(x == ("__debug__" : Str))=false:=by decide) (hpl:((backTo pos (starEach [] X.env)).any (·.1) || (backToKw pos (keywordEach kws X.env)).any (·.1.isNone))=false:=by rfl) :
  PE X (.Call (.Name x p) [] kws pos) (tMk C sp E (qhC 0 ks.length dm sl tNil tk)):=by
 refine⟨fun pins s σ H Q I h=>?_⟩;refine wpAny_Call_Name_kw (ld_glob I hg hm ?_ hdb);refine PySem.W.callWith_KW0 (h₀:=X.base) I.ok.mod.kin M.kp hall ?_ hpl;refine thn (hkw.run pos pins s σ H _ I h) fun ws s2 ⟨zs,H2,I2,rz,l1,l2,q2⟩=>⟨I2.kIn,?_⟩;rw[hks];exact qa0 (us:=[]) (vs:=[]) M F hr hb (hx σ) I2 .nil rz l1 l2 q2
end
section
variable {X:Cx} {xa:Option XA} {W:WX} {C:Str} {n k:Nat} {ks:List Str} {ms:List D} {sl:List Sl} {R:List L→FRes} {kws:List Keyword} {mk:AM} {p pos:Pos}
theorem qgH (B:MkKB X.prog X.w X.K X.mg X.base k C n 0 ks ms sl R) (hr:Room (k+1) X.A) (tk:Takes X W) (hkw:JK X xa W kws mk) (hg:Gl X C:=by rfl) (hall:(backToKw pos (keywordEach kws X.env)).all (·.1.isSome)=true:=by rfl) (hks:(backToKw pos (keywordEach kws X.env)).filterMap (·.1)=ks:=by rfl)
  (hdb:(C == ("__debug__" : Str))=false:=by decide) (hpl:((backTo pos (starEach [] X.env)).any (·.1) || (backToKw pos (keywordEach kws X.env)).any (·.1.isNone))=false:=by rfl) :
  JF X xa W (.Call (.Name C p) [] kws pos) (fMk C n R (zp 0 ks.length ms sl Qr mk)):=by
 obtain⟨f,fd,ps,g,dm,M,F,hb,q⟩:=B.ex;obtain⟨_,h3,h4⟩:=hkw;exact⟨_,qa5 M F hr hg B.g hb (fun σ=>passAt tk σ) h3 hall hks hdb hpl,qjX (qhr q qaP h4)⟩
theorem Mi (B:MkKB X.prog X.w X.K X.mg X.base k C n 0 ks ms sl R) (hr:Room (k+1) X.A) (tk:Takes X W) (hkw:JK X xa W kws mk) (hg:Gl X C:=by rfl) (hall:(backToKw pos (keywordEach kws X.env)).all (·.1.isSome)=true:=by rfl) (hks:(backToKw pos (keywordEach kws X.env)).filterMap (·.1)=ks:=by rfl)
  (hdb:(C == ("__debug__" : Str))=false:=by decide) (hpl:((backTo pos (starEach [] X.env)).any (·.1) || (backToKw pos (keywordEach kws X.env)).any (·.1.isNone))=false:=by rfl) :
  JE X xa W (.Call (.Name C p) [] kws pos) (eF (fMk C n R (zp 0 ks.length ms sl Qr mk))):=by
 obtain⟨_,h1,h2⟩:=qgH B hr tk hkw hg hall hks hdb hpl;exact⟨_,h1,h2.ev⟩
end
end DL
namespace L2
open PySem PySem.Spec PyProof.Rows PySem.Calls
def qsi (K:PySem.W.Frag) (p q:Addr):It:=
 ⟨fun n Hh=>∃(as bs:List V) (v w:V),SqT K Hh p as∧SqT K Hh q bs∧as[n]?=some v∧bs[n]?=some w,
  fun n Hh z Hk=>∃v w,qtS Hh z Hk [v,w]∧(∀as,SqT K Hh p as→as[n]?=some v)∧∀bs,SqT K Hh q bs→bs[n]?=some w,
  fun n Hh=>∃as bs:List V,SqT K Hh p as∧SqT K Hh q bs∧(as.length≤n∨bs.length≤n)⟩
theorem qbD {Pg:Program} {wd:World} {K:PySem.W.Frag} {es:List Expr} {kq:Nat} {tp:Pos} {p q z TA TB u v:Addr} (D:ZipApart z TA TB u v p q) :
  Turn Pg wd K (.Tuple es kq tp) (qsi K p q) [z,TA,TB,u,v] z (fun n g=>IsZip g z TA TB .none∧IsPair g TA (.ref u) (.ref v)∧(∃m1 m2,IsPair g TB m1 m2)∧g.IsTupleIter u p n∧g.IsTupleIter v q n) where
 mem:=List.mem_cons_self
 obj:=fun n g st b hb=>by
  obtain⟨k1,k2,⟨m1,m2,k3⟩,⟨ou,e1,_,d1⟩,⟨ov,e2,_,d2⟩⟩:=st;simp only[List.mem_cons,List.not_mem_nil,or_false]at hb;rcases hb with rfl | rfl | rfl | rfl | rfl
  ·exact⟨_,k1,fun _ w=>nomatch w⟩
  ·exact⟨_,k2,fun _ w=>nomatch w⟩
  ·exact⟨_,k3,fun _ w=>nomatch w⟩
  ·exact⟨ou,e1,fun _ w=>by rw[d1]at w;cases w⟩
  ·exact⟨ov,e2,fun _ w=>by rw[d2]at w;cases w⟩
 keep:=fun n g g' st k=>by
  obtain⟨k1,k2,⟨m1,m2,k3⟩,k4,k5⟩:=st;exact⟨k z (by simp) _ k1,k TA (by simp) _ k2,⟨m1,m2,k TB (by simp) _ k3⟩,k4.at fun o w=>k u (by simp) o w,k5.at fun o w=>k v (by simp) o w⟩
 item:=by
  intro X hP hw hK hc n pins st σ H E I hf s1 hg;subst hP hw hK;obtain⟨k1,k2,⟨m1,m2,k3⟩,k4,k5⟩:=s1;obtain⟨as,bs,x,y,qa,qb,ha,hb⟩:=hg;obtain⟨its,rv,pa,_⟩:=I.tuple qa;obtain⟨jts,rw',pb,_⟩:=I.tuple qb;obtain⟨c1,hc1,r1⟩:=rv.get ha;obtain⟨c2,hc2,r2⟩:=rw'.get hb;have hzl:z<st.heap.objs.size:=Heap.lt_size k1;refine RZ.pyNext_zipT_item D k1 k2 k3 k4 k5 pa pb (x:=c1) (y:=c2) (by simpa using hc1) (by simpa using hc2) fun g' z' TB' k4' k5' hT hsz hk=>?_;refine⟨_,rfl,wpAny_letOwnedTupleGo_zip (s:={ st with heap:=g' }) z' fun g2 z2 sb=>?_⟩;have hT2:g2.get? st.heap.objs.size=some { cls:=.type "tuple",data:=.seq #[c1,c2] }:=(sb.2 _ (Nat.ne_of_gt hzl)).trans hT;have new:ObjOk X.prog X.w (upd H st.heap.objs.size (.frz (tOb #[c1,c2]) (.tup [x,y]))) g2 st.heap.objs.size (.frz (tOb #[c1,c2]) (.tup [x,y])):=
   ⟨hT2,by show 2≤sizeLine;decide,[c1,c2],.cons r1 (.cons r2 .nil),⟨_,hT2,rfl,_,rfl⟩⟩
  have I1:=I.turnedNew (t':=st.toks) (ch:=[z,TA,TB,u,v]) (fun b ob hb w=>(sb.2 b (fun e=>hb (by simp[e]))).trans (hk b ob (fun e=>hb (by simp[e])) (fun e=>hb (by simp[e])) (fun e=>hb (by simp[e])) (fun e=>hb (by simp[e])) w)) hf (Nat.le_refl _) new;refine⟨.ref st.heap.objs.size,_,I1,rfl,⟨x,y,⟨_,tOb #[c1,c2],rfl,rfl,I.hok.fresh (Nat.le_refl _),rfl⟩,fun l hl=>by rw[I.tuple_inj hl qa];exact ha,fun l hl=>by rw[I.tuple_inj hl qb];exact hb⟩,⟨z2,?_,⟨c1,c2,(sb.2 _ D.TOz).trans TB'⟩,k4'.at fun o w=>(sb.2 _ D.i1z).trans w,k5'.at fun o w=>(sb.2 _ D.i2z).trans w⟩,fun b hb=>?_⟩
  ·exact (sb.2 _ D.TIz).trans (hk _ _ D.TIz D.TITO D.TIi1 D.TIi2 k2)
  ·have hlt:b<st.heap.objs.size:=by
    simp only[List.mem_cons,List.not_mem_nil,or_false]at hb;rcases hb with rfl | rfl | rfl | rfl | rfl
    ·exact hzl
    ·exact Heap.lt_size k2
    ·exact Heap.lt_size k3
    ·obtain⟨_,e1,_⟩:=k4;exact Heap.lt_size e1
    ·obtain⟨_,e2,_⟩:=k5;exact Heap.lt_size e2
   rw[upd_ne (Nat.ne_of_lt hlt)];exact (hf b hb).1
 done:=by
  intro X hP hw hK hc n pins st σ H E I hf s1 hg;subst hP hw hK;obtain⟨k1,k2,⟨m1,m2,k3⟩,k4,k5⟩:=s1;obtain⟨as,bs,qa,qb,hend⟩:=hg;obtain⟨its,rv,pa,_⟩:=I.tuple qa;obtain⟨jts,rw',pb,_⟩:=I.tuple qb;have l1:=rv.length;have l2:=rw'.length;have he:its.toArray[n]?=none∨jts.toArray[n]?=none:=by
   rcases hend with w | w
   ·left;simp;omega
   ·right;simp;omega
  exact RZ.pyNext_zipT_end (I.ok.hd hc) D k1 k2 k3 k4 k5 pa pb he fun g' hk=>⟨rfl,I.turnedL (t':=st.toks) (ch:=[z,TA,TB,u,v]) (fun b o hb w=>
   hk b o (fun e=>hb (by simp[e])) (fun e=>hb (by simp[e])) (fun e=>hb (by simp[e])) (fun e=>hb (by simp[e])) w) hf⟩
 self:=fun Ar n st Q E s1 h=>wpAny_pyIter_zip s1.1 h
def qjK (K:PySem.W.Frag) (ta:TA):TI:=fun σ H R=>ta σ H fun vs H1=>∃p q as bs,vs=[.ref p,.ref q]∧SqT K H1 p as∧SqT K H1 q bs∧R (qsi K p q) H1
theorem qf6 {X:Cx} {e e2:Expr} {ta:TA} {p pos tp:Pos} {es:List Expr} {kq:Nat} (hg:Gl X "zip") (hm:X.mg "zip"=none) (ha:PA X [e,e2] ta)
  (hs:starEach [e,e2] X.env=(false,eval e X.env)::starEach [e2] X.env:=by rfl) (hpl:(backTo pos (starEach [e2] X.env)).any (·.1)=false:=by rfl) :
  PI X (.Tuple es kq tp) (.Call (.Name "zip" p) [e,e2] [] pos) (qjK X.K ta):=by
 refine⟨fun pins s σ H R I h=>?_⟩;refine Call_ (ld_blt I hg hm PyProof.Rows.boot_zip (PyProof.Rows.callWith_type1 (thn (ha.run pos pins s σ H _ I h) fun us t1 ⟨vs,H1,I1,rr,qq⟩=>?_) hs hpl));obtain⟨a,b,as,bs,ev,qa,qb,q⟩:=qq;subst ev;cases rr with
 | cons r rr=>
  cases rr with
  | cons r' rr=>
   cases rr;cases r;cases r';obtain⟨its,rv,pa,_⟩:=I1.tuple qa;obtain⟨jts,rw',pb,_⟩:=I1.tuple qb;obtain⟨o1,ho1,_⟩:=id pa;obtain⟨o2,ho2,_⟩:=id pb;have fr:∀c,c∈[t1.heap.objs.size+4,t1.heap.objs.size+2,t1.heap.objs.size+3,t1.heap.objs.size,t1.heap.objs.size+1]→FpOk X pins H1 c:=fun c hm=>by
    have hle:t1.heap.objs.size≤c:=by
     simp only[List.mem_cons,List.not_mem_nil,or_false]at hm;omega
    exact I1.fpOk hle (I1.hok.fresh hle)
   refine RZ.call_zipT (show t1.heap.IsTuple a its.toArray from pa) (show t1.heap.IsTuple b jts.toArray from pb) fun g' k1 k2 k3 k4 k5 hsz hk=>wpAny_pyIter_zip k1 ?_;exact⟨t1.heap.objs.size+4,[t1.heap.objs.size+4,t1.heap.objs.size+2,t1.heap.objs.size+3,t1.heap.objs.size,t1.heap.objs.size+1],_,_,H1,rfl,I1.kept (t':=t1.toks) hk,qbD (PySem.W.ktu_apart t1.heap.objs.size a b (Heap.lt_size ho1) (Heap.lt_size ho2)),⟨k1,k2,⟨_,_,k3⟩,k4,k5⟩,fr,q⟩
end L2
namespace DL
open PySem PySem.Spec PyProof.Rows L2
def prT:List D→List D→List D
 | d::ds,e::es=>.tup [d,e]::prT ds es
 | _,_=>[]
theorem qbZ:∀ds es:List D,(prT ds es).length=min ds.length es.length
 | [],_=>by simp[prT]
 | _::_,[]=>by simp[prT]
 | d::ds,e::es=>by simp[prT,qbZ ds es]
theorem qb0:∀{ds es:List D} {i:Nat} {d:D},(prT ds es)[i]?=some d→∃x y,ds[i]?=some x∧es[i]?=some y∧d=.tup [x,y]
 | [],_,_,_,h=>by simp[prT]at h
 | _::_,[],_,_,h=>by simp[prT]at h
 | x::ds,y::es,0,d,h=>⟨x,y,rfl,rfl,(Option.some.inj h).symm⟩
 | x::ds,y::es,i+1,d,h=>qb0 (ds:=ds) (es:=es) (i:=i) (by simpa [prT] using h)
def zpF (ρ:Env):Option D→Option D→Res (List D)
 | some (.tup ds),some (.tup es)=>.ok (prT ds es) ρ
 | _,_=>.bad
def zpK:List X→Env→Res (List D):=fun xs ρ1=>match xs with
 | [x,y]=>zpF ρ1 (look ρ1 x) (look ρ1 y)
 | _=>.bad
def qi1 (am:AM):IM:=fun ρ=>bindR (am ρ) zpK
section
variable {K:Kx} {W:WX}
theorem qjH {ta:TA} {am:AM} (ht:Bx K W ta am):qeQ K W (qjK K.k ta) (qi1 am):=fun σ G H ρ R Q h=>by
 unfold qi1 bindR at h;refine ht.fst R (fun xs ρ1 e vs G1 H1 S1 R1 x1=>?_) (fun e ρ1 q=>by rw[q]at h;exact h) (fun q=>by rw[q]at h;exact h);rw[e]at h;have h:=F1.step S1 h;dsimp only at h
 cases x1 with
 | nil=>exact h.elim
 | cons p1 t1=>
  cases t1 with
  | nil=>exact h.elim
  | cons p2 t2=>
   cases t2 with
   | cons _ _=>exact h.elim
   | nil=>
    have h:F1 K W σ G1 H1 ρ1 Q (zpF ρ1 (look ρ1 _) (look ρ1 _)):=h;unfold zpF at h;split at h
    ·rename_i ds es e1 e2;obtain⟨a,xs,rfl,g1,a1⟩:=Vw.tup (Xn R1 p1 e1);obtain⟨b,ys,rfl,g2,a2⟩:=Vw.tup (Xn R1 p2 e2);refine⟨a,b,xs,ys,rfl,(Same.seqN R1.same g1).sq,(Same.seqN R1.same g2).sq,h _ G1 H1 (Stp.refl _ _ _ _) R1 fun G2 H2 s1 s2=>?_⟩;have q1:=(Same.seqN s2 (Same.seqN s1 g1)).sq;have q2:=(Same.seqN s2 (Same.seqN s1 g2)).sq;refine⟨fun i d hd=>?_,?_⟩
     ·obtain⟨dx,dy,f1,f2,rfl⟩:=qb0 hd;obtain⟨u,u1,u2⟩:=a1.get f1;obtain⟨v,v1,v2⟩:=a2.get f2;refine⟨⟨xs,ys,u,v,q1,q2,u1,v1⟩,fun z H' hy=>?_⟩;obtain⟨m1,m2,⟨T,ob,hob,rfl,hT,rfl⟩,n1,n2⟩:=hy;have w1:=n1 xs q1;have w2:=n2 ys q2;rw[u1]at w1;rw[v1]at w2;cases Option.some.inj w1;cases Option.some.inj w2;have g:=Gro.new (o:=.frz ob (.tup [u,v])) s2 hT;exact⟨_,g,.tup (.inl ⟨ob,upd_same,hob⟩) (.cons ((u2.mono s1).mono g.g) (.cons ((v2.mono s1).mono g.g) .nil))⟩
     ·refine⟨xs,ys,q1,q2,?_⟩;rw[qbZ,a1.length,a2.length];omega
    ·exact h.elim
end
theorem qjx {X:Cx} {xa:Option XA} {W:WX} {e e2:Expr} {am:AM} {p pos tp:Pos} {es:List Expr} {kq:Nat} (hm:X.mg "zip"=none) (h:JA X xa W [e,e2] am) (hg:Gl X "zip":=by rfl)
  (hs:starEach [e,e2] X.env=(false,eval e X.env)::starEach [e2] X.env:=by rfl) (hpl:(backTo pos (starEach [e2] X.env)).any (·.1)=false:=by rfl) :
  JI X xa W (.Tuple es kq tp) (.Call (.Name "zip" p) [e,e2] [] pos) (qi1 am):=let ⟨_,h1,h2⟩:=h;⟨_,qf6 hg hm h1 hs hpl,qjH h2⟩
section
variable {ρ:Env} {am:AM} {x y:X} {ds es:List D}
@[simp] theorem qnk:qi1 am ρ=bindR (am ρ) zpK:=(rfl)
@[simp] theorem qpf:zpK [x,y] ρ=zpF ρ (look ρ x) (look ρ y):=(rfl)
@[simp] theorem qsk:zpF ρ (some (.tup ds)) (some (.tup es))=.ok (prT ds es) ρ:=(rfl)
end
end DL
namespace L2
open PySem PySem.Spec PyProof.Rows
def qjV (K:PySem.W.Frag) (ta:TE) (f:Str):TG:=fun y σ H Q=>ta σ H fun x H2=>∃a C dx fs,x=.ref a∧H2 a=some (.ins C dx fs)∧Cls K C∧NoAttr K C f∧fs.length<1000∧Q σ (upd H2 a (.ins C dx (putF f y fs)))
theorem qf7 {X:Cx} {o:Expr} {f:Str} {ta:TE} {pos:Pos} (ha:PE X o ta):PG X (.Attribute o f pos) (qjV X.K ta f):=by
 refine⟨fun pins s σ H v u Q I r h=>?_⟩;rw[assign_Attribute];refine wpAny_bind (wpAny_holding (thn (ha.run pins s σ H _ I h) fun ov s1 ⟨x,H1,I1,r1,a,C,dx,fs,ex,ea,c,n,l,q⟩=>?_));subst ex;obtain rfl:ov=Value.ref a:=r1;refine wpAny_bind (wpAny_standAt (wpAny_bind (wpAny_holding (setattr_ok I1 ea c n l r fun s2 I2=>?_))));exact wpAny_release ⟨σ,_,I2,q⟩
end L2
namespace DL
open PySem PySem.Spec PyProof.Rows L2
section
variable {K:Kx} {W:WX}
def qkR (K:Kx) (g:TG) (gm:GM):Prop:=∀σ G H ρ v d ρ',Rel K σ G H ρ→Dq K.k G v d→gm d ρ=some ρ'→
 ∀Q:L2.St→Hp→Prop,(∀H',Stp σ ρ G H σ ρ' G H'→Rel K σ G H' ρ'→Q σ H')→g v σ H Q
def qdK (K:Kx) (g:TGs) (gm:GMs):Prop:=∀σ G H ρ vs ds ρ',Rel K σ G H ρ→DqA K.k G vs ds→gm ds ρ=some ρ'→
 ∀Q:L2.St→Hp→Prop,(∀H',Stp σ ρ G H σ ρ' G H'→Rel K σ G H' ρ'→Q σ H')→g vs σ H Q
def j1 (cs:List Str) (f:Str) (i:Nat):GM:=fun d ρ=>match qhF ρ i with
 | some (l,C,fs)=>if C∈cs∧fs.length<900 then some (ρ.set i (some (l.put (.ins C (putD f d fs))))) else none
 | none=>none
theorem qjT {cs:List Str} {f:Str} {i:Nat} (T:Au K.k f cs):qkR K (qjV K.k (tVar i) f) (j1 cs f i):=fun σ G H ρ v d ρ' R q e Q h=>by
 unfold j1 at e;split at e
 ·rename_i l C fs eo;split at e
  ·rename_i hC;cases Option.some.inj e;obtain⟨k1,k2,a,dx,xs,hv,hG,hH,hd,hq⟩:=qcb R eo;refine⟨_,hv,a,_,dx,xs,rfl,hH,(T C hC.1).cl,(T C hC.1).no,by rw[hq.len];omega,?_⟩;have hne:dx≠a:=fun z=>by rw[z,hG]at hd;cases hd
   obtain⟨S3,R3⟩:=jb (x':=.ins C (putD f d fs)) (o:=.ins (cA K C) dx (putF f v xs)) R k1 k2 hv ⟨a,dx,_,rfl,hG,upd_same,hd,hq.put q⟩;exact h _ S3 R3
  ·cases e
 ·cases e
theorem qgR:qdK K gNil Wl:=fun σ G H ρ vs ds ρ' R q e Q h=>by
 cases q with
 | nil=>cases e;exact⟨rfl,h H (Stp.refl _ _ _ _) R⟩
 | cons=>cases e
theorem qex {g:TG} {gs:TGs} {gm:GM} {gms:GMs} (hg:qkR K g gm) (hs:qdK K gs gms):qdK K (gCons g gs) (Q3 gm gms):=fun σ G H ρ vs ds ρ' R q e Q h=>by
 cases q with
 | nil=>cases e
 | cons q1 q2=>
  unfold Q3 at e;simp only at e;split at e
  ·rename_i ρ1 e1;exact⟨_,_,rfl,hg _ _ _ _ _ _ _ R q1 e1 _ fun H1 S1 R1=>hs _ _ _ _ _ _ _ R1 q2 e _ fun H2 S2 R2=>h H2 (S1.trans S2) R2⟩
  ·cases e
theorem qjS {n:Nat} {gs:TGs} {gms:GMs} (hs:qdK K gs gms):qkR K (gTup K.k n gs) (K7 n gms):=fun σ G H ρ v d ρ' R q e Q h=>by
 unfold K7 at e;split at e
 ·rename_i ds;split at e
  ·rename_i hl;cases q with
   | tup hq qa=>exact⟨_,_,rfl,(Same.seqN R.same hq).sq,by rw[qa.length];exact hl,hs _ _ _ _ _ _ _ R qa e Q h⟩
  ·cases e
 ·cases e
theorem qfT {t:TE} {g:TG} {m:EM} {gm:GM} (ht:Yx K W t m) (hg:qkR K g gm):Di K W (tAsg t g) (Jm gm m):=fun σ G H ρ R D h=>by
 unfold Jm bindR at h;refine ht.fst R (fun x ρ1 e v G1 H1 S1 R1 x1=>?_) (fun e ρ1 q=>by rw[q]at h;exact J0.x h) (fun q=>by rw[q]at h;exact h);rw[e]at h;have h:=J0.step S1 h;simp only at h;split at h
 ·rename_i d ρ2 e2;obtain⟨G2,S2,R2,q2⟩:=Bk R1 x1 e2;have h:=J0.step S2 h;split at h
  ·rename_i ρ3 e3;exact hg _ _ _ _ _ _ _ R2 q2 e3 _ fun H' S R'=>h _ G2 H' S R'
  ·exact h.elim
 ·exact h.elim
end
section
variable {X:Cx} {xa:Option XA} {W:WX} {gm:GM} {gms:GMs}
def JGf (X:Cx) (xa:Option XA) (tg:Expr) (m:GM):Prop:=∃g,PG X tg g∧qkR ⟨X.K,xa⟩ g m
def qmd (X:Cx) (xa:Option XA) (tgs:List Expr) (m:GMs):Prop:=∃g,PGs X tgs g∧qdK ⟨X.K,xa⟩ g m
theorem y0 {f x:Str} {i:Nat} {p p':Pos} {cs:List Str} (T:Au X.K f cs) (hi:X.N[i]?=some x:=by rfl) (hv:Vis X.env.scope x:=by first | exact .inl rfl | exact .inr (.inl rfl) | exact .inr (.inr rfl)) (hd:(x == ("__debug__" : Str))=false:=by decide) (hcd:(x == ("__classdict__" : Str))=false:=by decide) :
  JGf X xa (.Attribute (.Name x p) f p') (j1 cs f i):=⟨_,qf7 (pe_var hi hv hd hcd),qjT T⟩
theorem qet:qmd X xa [] Wl:=⟨_,pgs_nil,qgR⟩
theorem Oe {e:Expr} {tgs:List Expr} (h1:JGf X xa e gm) (h2:qmd X xa tgs gms) (hs:(assignEach (e::tgs) X.env).map (·.2)=assign e X.env::(assignEach tgs X.env).map (·.2):=by rfl):qmd X xa (e::tgs) (Q3 gm gms):=
 let ⟨_,a1,a2⟩:=h1;let ⟨_,b1,b2⟩:=h2;⟨_,pgs_cons a1 b1 hs,qex a2 b2⟩
theorem qgG {tgs:List Expr} {k n:Nat} {pos:Pos} (hc:X.calm=true) (h:qmd X xa tgs gms) (hn:(assignEach tgs X.env).length=n:=by rfl) (hst:(assignEach tgs X.env).findIdx? (·.1)=none:=by rfl):JGf X xa (.Tuple tgs k pos) (K7 n gms):=
 let ⟨_,a1,a2⟩:=h;⟨_,pg_tup hc a1 hn hst,qjS a2⟩
theorem qgE {tg e:Expr} {m:EM} {pos:Pos} (h:JE X xa W e m) (hg:JGf X xa tg gm) (hs:swapsWithSole [tg] e pos.line X.env=pure false:=by rfl) (hw:swappedStores [tg] e X.env=pure none:=by rfl) (h1:(assignEach [tg] X.env).map (·.2)=[assign tg X.env]:=by rfl) :
  JS X xa W (.Assign [tg] e pos) (Jm gm m):=let ⟨_,a,b⟩:=h;let ⟨_,c,d⟩:=hg;⟨_,ps_asg a c hs hw h1,qfT b d⟩
end
section
variable {ρ:Env}
def gfE (cs:List Str) (f:Str) (i:Nat) (d:D) (ρ:Env):Option (L×Str×List (Str×D))→Option Env
 | some (l,C,fs)=>if C∈cs∧fs.length<900 then some (ρ.set i (some (l.put (.ins C (putD f d fs))))) else none
 | none=>none
@[simp] theorem qlR {cs:List Str} {f:Str} {i:Nat} {d:D}:j1 cs f i d ρ=gfE cs f i d ρ (qhF ρ i):=by
 unfold j1 gfE;rfl
@[simp] theorem qlS {cs:List Str} {f:Str} {i:Nat} {d:D} {l:L} {C:Str} {fs:List (Str×D)}:gfE cs f i d ρ (some (l,C,fs))=if C∈cs∧fs.length<900 then some (ρ.set i (some (l.put (.ins C (putD f d fs))))) else none:=(rfl)
end
end DL
namespace Law
open PySem PySem.Spec PyProof.Rows L2 DL
def Yu:SM:=(Qo (Sr ["Numbers"] "divisor" 0 (Qi 1))
 (Qo (Sr ["Numbers"] "modulus" 0 (Qi 2))
 (Qo (Sr ["Numbers"] "spread" 0 (Qi 3))
 (Qo (Sr ["Numbers"] "stride" 0 (Qi 4))
 (Qo (Sr ["Numbers"] "reach" 0 (Qi 5))
 Q2)))))
def Qk:List L→FRes:=Ze 6 Yu
def Jz:SM:=(Qo (J9 (eOp Vb (eOp Kz (Yt ["Numbers"] "divisor" (Qi 0)) (Yt ["Numbers"] "spread" (Qi 0))) (eC (.int 1))))
 Q2)
def Xu:List L→FRes:=Ze 1 Jz
def Ka:SM:=(Qo (J9 (Uz (Qd (Yt ["Numbers"] "divisor" (Qi 0)) (Qd (Yt ["Numbers"] "modulus" (Qi 0)) (Qd (Yt ["Numbers"] "spread" (Qi 0)) (Qd (Yt ["Numbers"] "stride" (Qi 0)) (Qd (Yt ["Numbers"] "reach" (Qi 0)) Qr)))))))
 Q2)
def Uv:List L→FRes:=Ze 1 Ka
def Xi:SM:=(Qo (Jm (K7 3 (Q3 (j1 ["StrandLine"] "begin" 0) (Q3 (j1 ["StrandLine"] "step" 0) (Q3 (j1 ["StrandLine"] "count" 0) Wl)))) (Qi 1))
 (Qo (Sr ["StrandLine"] "begin_move" 0 (eOp Gi (eOp ixD (Qi 2) (eC (.int 0))) (eOp ixD (Qi 1) (eC (.int 0)))))
 (Qo (Sr ["StrandLine"] "count_move" 0 (eOp Gi (eOp ixD (Qi 2) (eC (.int 2))) (eOp ixD (Qi 1) (eC (.int 2)))))
 (Qo (Sr ["StrandLine"] "place" 0 (Qi 3))
 (Qo (Sr ["StrandLine"] "place_move" 0 (Qi 4))
 Q2)))))
def Zw:List L→FRes:=Ze 5 Xi
def J8:SM:=(Qo (J9 (Uz (Qd (eOp Vb (Yt ["StrandLine"] "begin" (Qi 0)) (eOp Kz (Yt ["StrandLine"] "begin_move" (Qi 0)) (Qi 1))) (Qd (Yt ["StrandLine"] "step" (Qi 0)) (Qd (eOp Vb (Yt ["StrandLine"] "count" (Qi 0)) (eOp Kz (Yt ["StrandLine"] "count_move" (Qi 0)) (Qi 1))) Qr)))))
 Q2)
def J6:List L→FRes:=Ze 2 J8
def Xh:SM:=(Qo (J9 (eOp Vb (Yt ["StrandLine"] "place" (Qi 0)) (eOp Kz (Yt ["StrandLine"] "place_move" (Qi 0)) (Qi 1))))
 Q2)
def Xe:List L→FRes:=Ze 2 Xh
def Wb:SM:=(Qo (Jm (K7 3 (Q3 (Qg 1) (Q3 (Qg 2) (Q3 (Qg 3) Wl)))) (Qi 0))
 (Qo (J9 (Uz (Qd (eOp Vb (Qi 1) (eOp Kz (Qi 2) (eOp Gi (Qi 3) (eC (.int 1))))) (Qd (eUn Sv (Qi 2)) (Qd (Qi 3) Qr)))))
 Q2))
def J3:List L→FRes:=Ze 4 Wb
def U6:SM:=(Qo (Jm (K7 3 (Q3 (Qg 3) (Q3 (Qg 4) (Q3 (Qg 5) Wl)))) (Qi 0))
 (Qo (sIf (tBl (eOp geD (Qi 2) (Qi 5)))
 (Qo (J9 (eC .non))
 Q2)
 Q2)
 (Qo (J9 (Uz (Qd (eOp Vb (Qi 3) (eOp Kz (Qi 4) (Qi 2))) (Qd (eOp Kz (Qi 4) (Qi 1)) (Qd (eOp Sz (eOp Gi (eOp Vb (eOp Gi (Qi 5) (Qi 2)) (Qi 1)) (eC (.int 1))) (Qi 1)) Qr)))))
 Q2)))
def Vk:List L→FRes:=Ze 6 U6
def Gw:SM:=(Qo (Jm (K7 3 (Q3 (Qg 3) (Q3 (Qg 4) (Q3 (Qg 5) Wl)))) (Qi 0))
 (Qo (sIf (tBl (eOp isD (Qi 2) (eC .non)))
 (Qo (Jm (Qg 2) (Qi 5))
 Q2)
 Q2)
 (Qo (sIf (mOr (tBl (eOp ltD (Qi 1) (eC (.int 0)))) (tBl (eOp gtD (Qi 1) (Qi 5))))
 (Qo (Gp "BadPlace" "place" (Qd (Qi 1) Qr))
 Q2)
 Q2)
 (Qo (sIf (mOr (tBl (eOp ltD (Qi 2) (Qi 1))) (tBl (eOp gtD (Qi 2) (Qi 5))))
 (Qo (Gp "BadPlace" "place" (Qd (Qi 2) Qr))
 Q2)
 Q2)
 (Qo (sIf (tBl (eOp eqD (Qi 1) (Qi 2)))
 (Qo (J9 (eC .non))
 Q2)
 Q2)
 (Qo (J9 (Uz (Qd (eOp Vb (Qi 3) (eOp Kz (Qi 4) (Qi 1))) (Qd (Qi 4) (Qd (eOp Gi (Qi 2) (Qi 1)) Qr)))))
 Q2))))))
def Kl:List L→FRes:=Ze 6 Gw
def Th:SM:=(Qo (J9 (eCB qmq (Qd (eF (fLc (C4 (Qi 0)) [1] (Qg 1) jw (eOp ixD (Qi 1) (eC (.int 2))))) Qr)))
 Q2)
def Vl:List L→FRes:=Ze 2 Th
def Gv:SM:=(Qo (sIf (tBl (eOp eqD (eOp ixD (Qi 0) (eC (.int 0))) (eC (.str "block"))))
 (Qo (J9 (Uz (Qd (eOp Sz (eOp Kz (eOp ixD (Qi 0) (eC (.int 2))) (Qi 1)) (eOp ixD (Qi 0) (eC (.int 1)))) (Qd (eOp Sz (eOp Kz (eOp Vb (eOp ixD (Qi 0) (eC (.int 2))) (eC (.int 1))) (Qi 1)) (eOp ixD (Qi 0) (eC (.int 1)))) Qr))))
 Q2)
 Q2)
 (Qo (Jm (Qg 2) (eCB qg (Qd (eOp ixD (Qi 0) (eC (.int 1))) (Qd (Qi 1) Qr))))
 (Qo (Lr (eOp ixD (Qi 0) (eC (.int 0)))
 (Np "front" (Qo (J9 (Uz (Qd (eC (.int 0)) (Qd (Qi 2) Qr))))
 Q2)
 (Np "rest" (Qo (J9 (Uz (Qd (Qi 2) (Qd (Qi 1) Qr))))
 Q2)
 (Np "last" (Qo (J9 (Uz (Qd (eOp Gi (Qi 1) (Qi 2)) (Qd (Qi 1) Qr))))
 Q2)
 (qbc (Qo (J9 (Uz (Qd (eC (.int 0)) (Qd (eOp Gi (Qi 1) (Qi 2)) Qr))))
 Q2))))))
 Q2)))
def Kk:List L→FRes:=Ze 3 Gv
def Mm:SM:=(Qo (sIf (tBl (eOp ltD (Qi 0) (eC (.int 0))))
 (Qo (Gp "BadLength" "length" (Qd (Qi 0) Qr))
 Q2)
 Q2)
 (Qo (sIf (tBl (eOp eqD (Qi 0) (eC (.int 0))))
 (Qo (J9 (Uz Qr))
 Q2)
 Q2)
 (Qo (J9 (Uz (Qd (Uz (Qd (eC (.int 0)) (Qd (eC (.int 1)) (Qd (Qi 0) Qr)))) Qr)))
 Q2)))
def W5:List L→FRes:=Ze 1 Mm
def G7:SM:=(Qo (J9 (Yt ["Feed"] "_parts" (Qi 0)))
 Q2)
def N9:List L→FRes:=Ze 1 G7
def Wg:SM:=(sFg [5,6]
 (Qo (Jm (Qg 6) (eOp qba (eCB intD (Qd (eOp Kz (eOp Vb (Qi 3) (eC (.int 1))) (eOp Vb (eOp Vb (eC (.int 48271)) (eOp Kz (eC (.int 6)) (Qi 2))) (eOp Kz (eC (.int 2)) (Qi 5)))) Qr)) (eC (.int 2147483629))))
 (Qo (K3 (Fg 1 (eOp qba (eCB intD (Qd (eOp Kz (Qi 6) (Qi 6)) Qr)) (eC (.int 1000003)))))
 Q2)))
def Va:SM:=(sFg [5]
 (Qo (sIf (tBl (eOp gtD (Qi 4) (eC (.int 0))))
 (Qo (K3 (Fg 1 (eOp qba (eCB intD (Qd (Qi 4) Qr)) (eC (.int 1000)))))
 (Qo (Jm (Qg 4) (eOp Sz (Qi 4) (eC (.int 1000))))
 Q2))
 Q2)
 Q2))
def Xw:SM:=(sFg [2,3,4]
 (Qo (Jm (Qg 3) (eCB intD (Qd (eOp ixD (Qi 0) (Qi 2)) Qr)))
 (Qo (Jm (Qg 4) (eCB qma (Qd (Qi 3) Qr)))
 (Qo (sFg [4] (sIf (qgw (tBl (eOp geD (Qi 3) (eC (.int 0)))) (tBl (eOp ltD (Qi 3) (eOp qk8 (eC (.int 10)) (eC (.int 18))))))
 (Qo (Dy (Sw (Qd (eC (.int 3)) Qr)) (Qg 5)
 Wg)
 Q2)
 (Qo (Dy (Sw (Qd (eC (.int 60)) Qr)) (Qg 5)
 Va)
 Q2)))
 Q2))))
def U8:SM:=(Qo (Pp 1 (Dz Qr))
 (Qo (Dy (Sw (Qd (eCB qg (Qd (eCB F8 (Qd (Qi 0) Qr)) (Qd (eC (.int 63)) Qr))) Qr)) (Qg 2)
 Xw)
 (Qo (qaY (qj2 (Qi 1) qce qce (E7 (eUn Sv (eC (.int 1))))))
 Q2)))
def Vn:List L→FRes:=Ze 7 U8
def Mv:SM:=(Qo (sIf (tBl (eOp eqD (eCB F8 (Qd (Qi 0) Qr)) (eC (.int 0))))
 (Qo (J9 (eC (.int 0)))
 Q2)
 Q2)
 (Qo (J9 (eOp qba (eCB intD (Qd (qdh 0) Qr)) (Qi 1)))
 Q2))
def Qm:List L→FRes:=Ze 2 Mv
def Wd:SM:=(Qo (sIf (mOr (tBl (eOp eqD (eOp ixD (eOp ixD (Qi 0) (eUn Sv (eC (.int 1)))) (eC (.int 0))) (eC (.str "open")))) (tBl (eOp eqD (eOp ixD (eOp ixD (Qi 0) (eUn Sv (eC (.int 1)))) (eC (.int 0))) (eC (.str "next")))))
 (Qo (K3 (Fg 0 (Uz (Qd (eC (.str "same")) Qr))))
 Q2)
 Q2)
 (Qo (sIf (tBl (eOp eqD (eOp ixD (Qi 1) (eUn Sv (eC (.int 1)))) (eC (.int 0))))
 (Qo (K3 (Fg 0 (Uz (Qd (eC (.str "next")) Qr))))
 (Qo (Ep 1 (eUn Sv (eC (.int 1))) (eC (.int 1)))
 Q2))
 (Qo (K3 (Fg 0 (Uz (Qd (eC (.str "shut")) Qr))))
 (Qo (K3 (qdh 1))
 Q2)))
 Q2))
def Jv:List L→FRes:=Ze 2 Wd
def Z3:NM:=(nFg [2]
 (qar (nIf (mOr (tBl (eOp eqD (eOp ixD (Qi 2) (eC (.int 0))) (eC (.str "open")))) (tBl (eOp eqD (eOp ixD (Qi 2) (eC (.int 0))) (eC (.str "next")))))
 (qar qcj
 qef)
 (qar (nFg [3,4] (nIf (tBl (eOp eqD (eOp ixD (Qi 2) (eC (.int 0))) (eC (.str "shut"))))
 (qar (yt 1 3)
 (qar (yt 1 4)
 (qar (qhH (eUn Sv (eC (.int 1))) (Uz (Qd (eC (.str "both")) (Qd (Qi 4) (Qd (Qi 3) Qr)))))
 qef)))
 (qar (qhH (eUn Sv (eC (.int 1))) (Qi 2))
 qef)))
 qef))
 qef))
def G6:SM:=(qbR 1 (qar (qiO (C4 (Qi 0)) (Qg 2)
 Z3)
 (qar (qiM (eC (.int 0)))
 qef)))
def Kn:List L→FRes:=Ze 5 G6
def Jc:SM:=(sFg [4,5]
 (Qo (sIf (tBl (eOp eqD (Qi 3) (eC (.int 0))))
 (Qo qk3
 Q2)
 Q2)
 (Qo (Jm (Qg 5) (eOp qba (eCB intD (Qd (Qi 2) Qr)) (Qi 3)))
 (Qo (Jm (Qg 2) (Qi 3))
 (Qo (Jm (Qg 3) (Qi 5))
 Q2)))))
def We:SM:=(Qo (Jm (Qg 2) (Qi 0))
 (Qo (Jm (Qg 3) (Qi 1))
 (Qo (Dy (Sw (Qd (eC (.int 300)) Qr)) (Qg 4)
 Jc)
 (Qo (J9 (eOp Kz (eOp Sz (Qi 0) (Qi 2)) (Qi 1)))
 Q2))))
def Qt:List L→FRes:=Ze 6 We
def Vv:SM:=(sFg [5,6,7,8]
 (Qo (Jm (Qg 8) (eOp qba (eCB intD (Qd (eOp Gi (Qi 2) (Qi 4)) Qr)) (Qi 1)))
 (Qo (sIf (tBl (eOp ltD (Qi 8) (Qi 7)))
 (Qo (K3 (Fg 3 (Uz (Qd (eOp Vb (Qi 5) (eOp Kz (Qi 6) (Qi 8))) (Qd (eOp Kz (Qi 6) (Qi 1)) (Qd (eOp Vb (eC (.int 1)) (eOp Sz (eOp Gi (eOp Gi (Qi 7) (eC (.int 1))) (Qi 8)) (Qi 1))) Qr))))))
 Q2)
 Q2)
 (Qo (Jm (Qg 4) (eOp Vb (Qi 4) (Qi 7)))
 Q2))))
def Mu:SM:=(Qo (Pp 3 (Dz Qr))
 (Qo (Jm (Qg 4) (eC (.int 0)))
 (Qo (Dy (C4 (Qi 0)) (K7 3 (Q3 (Qg 5) (Q3 (Qg 6) (Q3 (Qg 7) Wl))))
 Vv)
 (Qo (J9 (eCB Cd (Qd (Qi 3) Qr)))
 Q2))))
def W7:List L→FRes:=Ze 9 Mu
def Kv:SM:=(sFg [5,6,7,8,9]
 (Qo (Jm (Qg 8) (eCB qi (Qd (eOp Gi (Qi 1) (Qi 4)) (Qd (eC (.int 0)) Qr))))
 (Qo (Jm (Qg 9) (eCB qg (Qd (eOp Gi (Qi 2) (Qi 4)) (Qd (Qi 7) Qr))))
 (Qo (sIf (tBl (eOp ltD (Qi 8) (Qi 9)))
 (Qo (K3 (Fg 3 (Uz (Qd (eOp Vb (Qi 5) (eOp Kz (Qi 6) (Qi 8))) (Qd (Qi 6) (Qd (eOp Gi (Qi 9) (Qi 8)) Qr))))))
 Q2)
 Q2)
 (Qo (Jm (Qg 4) (eOp Vb (Qi 4) (Qi 7)))
 Q2)))))
def Tn:SM:=(Qo (Pp 3 (Dz Qr))
 (Qo (Jm (Qg 4) (eC (.int 0)))
 (Qo (Dy (C4 (Qi 0)) (K7 3 (Q3 (Qg 5) (Q3 (Qg 6) (Q3 (Qg 7) Wl))))
 Kv)
 (Qo (J9 (eCB Cd (Qd (Qi 3) Qr)))
 Q2))))
def Hn:List L→FRes:=Ze 10 Tn
def V9:SM:=(Qo (J9 (qeI (qeG "int" (Qi 0)) (qeI (qkq (qeG "bool" (Qi 0))) (eOp eqD (Qi 0) (Qi 1)))))
 Q2)
def Zd:List L→FRes:=Ze 2 V9
def Wh:SM:=(sFg [2]
 (Qo (K3 (Fg 1 (eOp Vb (eOp ixD (Qi 1) (eUn Sv (eC (.int 1)))) (eOp ixD (Qi 2) (eC (.int 2))))))
 Q2))
def U9:SM:=(Qo (Pp 1 (Dz (Qd (eC (.int 0)) Qr)))
 (Qo (Dy (C4 (Qi 0)) (Qg 2)
 Wh)
 (Qo (J9 (Qi 1))
 Q2)))
def Je:List L→FRes:=Ze 3 U9
def Mp:SM:=(Qo (Jm (Qg 4) (eF (fLc (C4 (Qi 0)) [5,6] (K7 2 (Q3 (Qg 5) (Q3 (Qg 6) Wl))) jw (eOp Gi (eOp Kz (Qi 5) (Qi 2)) (eOp Kz (Qi 6) (Qi 1))))))
 (Qo (J9 (eOp leD (eOp Gi (eCB maxD (Qd (Qi 4) Qr)) (eCB minD (Qd (Qi 4) Qr))) (eOp Kz (Qi 3) (Qi 2))))
 Q2))
def Y4:List L→FRes:=Ze 7 Mp
def Gx:SM:=(Qo (J9 (eCB Cd (Qd (eF (fLc (C4 (qfr (Qi 0) (E7 (eUn Sv (eC (.int 1)))))) [1] (Qg 1) jw (Q6 1 J3 (Qd (Qi 1) Qr)))) Qr)))
 Q2)
def Km:List L→FRes:=Ze 2 Gx
def Ku:SM:=(sFg [5,6]
 (Qo (Jm (Qg 6) (Q6 3 Vk (Qd (Qi 5) (Qd (Qi 1) (Qd (eOp qba (eOp Gi (Qi 2) (Qi 4)) (Qi 1)) Qr)))))
 (Qo (sIf (tBl (eOp qjJ (Qi 6) (eC .non)))
 (Qo (K3 (Fg 3 (Qi 6)))
 Q2)
 Q2)
 (Qo (qdN 4 qeP (eOp ixD (Qi 5) (eC (.int 2))))
 Q2))))
def Ti:SM:=(Qo (Pp 3 (Dz Qr))
 (Qo (Jm (Qg 4) (eC (.int 0)))
 (Qo (Dy (C4 (Qi 0)) (Qg 5)
 Ku)
 (Qo (J9 (eCB Cd (Qd (Qi 3) Qr)))
 Q2))))
def Hm:List L→FRes:=Ze 7 Ti
def Ub:SM:=(sFg [6,7,8]
 (Qo (Jm (Qg 7) (eCB qi (Qd (eOp Gi (Qi 1) (Qi 5)) (Qd (eC (.int 0)) Qr))))
 (Qo (Jm (Qg 8) (eCB qg (Qd (eOp Gi (Qi 2) (Qi 5)) (Qd (eOp ixD (Qi 6) (eC (.int 2))) Qr))))
 (Qo (sIf (tBl (eOp ltD (Qi 7) (Qi 8)))
 (Qo (K3 (Fg 4 (Q6 3 Kl (zp 1 2 [] [.p 0,.k 0,.k 1] (Qd (Qi 6) Qr) (Qd (Qi 7) (Qd (Qi 8) Qr))))))
 Q2)
 Q2)
 (Qo (qdN 5 qeP (eOp ixD (Qi 6) (eC (.int 2))))
 Q2)))))
def Df:SM:=(Qo (Jm (Qg 3) (Q6 1 Vl (Qd (Qi 0) Qr)))
 (Qo (sIf (tBl (eOp isD (Qi 2) (eC .non)))
 (Qo (Jm (Qg 2) (Qi 3))
 Q2)
 Q2)
 (Qo (sIf (mOr (tBl (eOp ltD (Qi 1) (eC (.int 0)))) (tBl (eOp gtD (Qi 1) (Qi 3))))
 (Qo (Gp "BadPlace" "place" (Qd (Qi 1) Qr))
 Q2)
 Q2)
 (Qo (sIf (mOr (tBl (eOp ltD (Qi 2) (Qi 1))) (tBl (eOp gtD (Qi 2) (Qi 3))))
 (Qo (Gp "BadPlace" "place" (Qd (Qi 2) Qr))
 Q2)
 Q2)
 (Qo (Pp 4 (Dz Qr))
 (Qo (Jm (Qg 5) (eC (.int 0)))
 (Qo (Dy (C4 (Qi 0)) (Qg 6)
 Ub)
 (Qo (J9 (eCB Cd (Qd (Qi 4) Qr)))
 Q2))))))))
def Hw:List L→FRes:=Ze 9 Df
def My:SM:=(sFg [3]
 (Qo (Jm (Qg 2) (eOp Vb (eOp Kz (Qi 2) (eC (.int 1000))) (Q6 2 Qm (Qd (Qi 0) (Qd (eC (.int 1000)) Qr)))))
 Q2))
def Mr:SM:=(Qo (Jm (Qg 2) (eC (.int 0)))
 (Qo (Dy (Sw (Qd (Q6 2 Qm (Qd (Qi 0) (Qd (eOp Vb (Qi 1) (eC (.int 1))) Qr))) Qr)) (Qg 3)
 My)
 (Qo (J9 (Qi 2))
 Q2)))
def Y5:List L→FRes:=Ze 4 Mr
def Ha:SM:=(Qo (Jm (Qg 3) (Q6 2 Qm (Qd (Qi 0) (Qd (eC (.int 10)) Qr))))
 (Qo (sIf (tBl (eOp eqD (Qi 3) (eC (.int 0))))
 (Qo (J9 (Uz (Qd (eC (.str "same")) Qr)))
 Q2)
 Q2)
 (Qo (sIf (tBl (eOp eqD (Qi 3) (eC (.int 1))))
 (Qo (J9 (Uz (Qd (eC (.str "turn")) Qr)))
 Q2)
 Q2)
 (Qo (sIf (tBl (eOp ltD (Qi 3) (eC (.int 6))))
 (Qo (J9 (Uz (Qd (eOp ixD (eF (Dz (Qd (eC (.str "front")) (Qd (eC (.str "rest")) (Qd (eC (.str "last")) (Qd (eC (.str "but")) Qr)))))) (eOp Gi (Qi 3) (eC (.int 2)))) (Qd (Q6 2 Qm (Qd (Qi 0) (Qd (eOp Vb (Qi 1) (eC (.int 1))) Qr))) Qr))))
 Q2)
 Q2)
 (Qo (Jm (Qg 4) (eOp Vb (eC (.int 1)) (Q6 2 Qm (Qd (Qi 0) (Qd (Qi 2) Qr)))))
 (Qo (J9 (Uz (Qd (eOp ixD (eF (Dz (Qd (eC (.str "each")) (Qd (eC (.str "block")) Qr)))) (eOp qba (eCB intD (Qd (Qi 3) Qr)) (eC (.int 2)))) (Qd (Qi 4) (Qd (Q6 2 Qm (Qd (Qi 0) (Qd (Qi 4) Qr))) Qr)))))
 Q2))))))
def Vo:List L→FRes:=Ze 5 Ha
def Hc:SM:=(Qo (Jm (K7 5 (Q3 (Qg 2) (Q3 (Qg 3) (Q3 (Qg 4) (Q3 (Qg 5) (Q3 (Qg 6) Wl)))))) (Qi 1))
 (Qo (sFg [7] (sIf (tBl (eOp eqD (eOp ixD (Qi 0) (eC (.int 0))) (eC (.str "each"))))
 (Qo (Jm (Qg 7) (eOp Sz (eOp Gi (eOp Vb (Qi 4) (eOp Kz (eC (.int 2)) (eOp ixD (Qi 0) (eC (.int 1))))) (eC (.int 2))) (eOp ixD (Qi 0) (eC (.int 1)))))
 (Qo (J9 (Uz (Qd (eOp Kz (Qi 2) (eOp ixD (Qi 0) (eC (.int 1)))) (Qd (Q6 2 Qt (Qd (Qi 3) (Qd (eOp Kz (Qi 2) (eOp ixD (Qi 0) (eC (.int 1)))) Qr))) (Qd (Qi 7) (Qd (eOp Kz (Qi 5) (eOp ixD (Qi 0) (eC (.int 1)))) (Qd (eOp Vb (Qi 6) (eOp Kz (eOp Kz (eC (.int 2)) (Qi 5)) (eOp Gi (eOp ixD (Qi 0) (eC (.int 1))) (eC (.int 1))))) Qr)))))))
 Q2))
 Q2))
 (Qo (sIf (tBl (eOp eqD (eOp ixD (Qi 0) (eC (.int 0))) (eC (.str "block"))))
 (Qo (J9 (Uz (Qd (eOp Kz (Qi 2) (eOp ixD (Qi 0) (eC (.int 1)))) (Qd (Q6 2 Qt (Qd (Qi 3) (Qd (eOp Kz (Qi 2) (eOp ixD (Qi 0) (eC (.int 1)))) Qr))) (Qd (eOp Vb (Qi 4) (eC (.int 1))) (Qd (Qi 5) (Qd (eOp Vb (Qi 6) (eOp Kz (eOp Kz (eC (.int 2)) (Qi 5)) (eOp Vb (Qi 4) (eC (.int 2))))) Qr)))))))
 Q2)
 Q2)
 (Qo (sIf (mOr (tBl (eOp eqD (eOp ixD (Qi 0) (eC (.int 0))) (eC (.str "same")))) (tBl (eOp eqD (eOp ixD (Qi 0) (eC (.int 0))) (eC (.str "turn")))))
 (Qo (J9 (Qi 1))
 Q2)
 Q2)
 (Qo (J9 (Uz (Qd (Qi 2) (Qd (Qi 3) (Qd (eOp Vb (Qi 4) (eOp ixD (Qi 0) (eC (.int 1)))) (Qd (Qi 5) (Qd (eOp Vb (Qi 6) (eOp Kz (eOp Kz (eC (.int 2)) (Qi 5)) (eOp Vb (eOp Vb (Qi 4) (eOp ixD (Qi 0) (eC (.int 1)))) (eC (.int 1))))) Qr)))))))
 Q2)))))
def Vp:List L→FRes:=Ze 8 Hc
def Wc:SM:=(Qo (Jm (Qg 2) (eCB qmq (Qd (eF (fLc (C4 (Qi 1)) [3] (Qg 3) jw (eOp ixD (Qi 3) (eC (.int 2))))) Qr)))
 (Qo (Jm (Qg 4) (eC (.int 0)))
 (Qo (Jm (Qg 5) (Qi 2))
 (Qo (sIf (tBl (eOp eqD (eOp ixD (Qi 0) (eC (.int 0))) (eC (.str "turn"))))
 (Qo (J9 (eCB Cd (Qd (eF (fLc (C4 (qfr (Qi 1) (E7 (eUn Sv (eC (.int 1)))))) [6,7,8] (K7 3 (Q3 (Qg 6) (Q3 (Qg 7) (Q3 (Qg 8) Wl)))) jw (Uz (Qd (eOp Vb (Qi 6) (eOp Kz (Qi 7) (eOp Gi (Qi 8) (eC (.int 1))))) (Qd (eOp Gi (eC (.int 0)) (Qi 7)) (Qd (Qi 8) Qr)))))) Qr)))
 Q2)
 Q2)
 (Qo (sIf (tBl (eOp eqD (eOp ixD (Qi 0) (eC (.int 0))) (eC (.str "each"))))
 (Qo (J9 (Q6 3 W7 (Qd (Qi 1) (Qd (eOp ixD (Qi 0) (eC (.int 1))) (Qd (eOp ixD (Qi 0) (eC (.int 2))) Qr)))))
 Q2)
 Q2)
 (Qo (sIf (tBl (eOp eqD (eOp ixD (Qi 0) (eC (.int 0))) (eC (.str "front"))))
 (Qo (Jm (Qg 5) (eCB qg (Qd (eOp ixD (Qi 0) (eC (.int 1))) (Qd (Qi 2) Qr))))
 Q2)
 Q2)
 (Qo (sIf (tBl (eOp eqD (eOp ixD (Qi 0) (eC (.int 0))) (eC (.str "rest"))))
 (Qo (Jm (Qg 4) (eCB qg (Qd (eOp ixD (Qi 0) (eC (.int 1))) (Qd (Qi 2) Qr))))
 Q2)
 Q2)
 (Qo (sIf (tBl (eOp eqD (eOp ixD (Qi 0) (eC (.int 0))) (eC (.str "last"))))
 (Qo (Jm (Qg 4) (eCB qi (Qd (eC (.int 0)) (Qd (eOp Gi (Qi 2) (eOp ixD (Qi 0) (eC (.int 1)))) Qr))))
 Q2)
 Q2)
 (Qo (sIf (tBl (eOp eqD (eOp ixD (Qi 0) (eC (.int 0))) (eC (.str "but"))))
 (Qo (Jm (Qg 5) (eCB qi (Qd (eC (.int 0)) (Qd (eOp Gi (Qi 2) (eOp ixD (Qi 0) (eC (.int 1)))) Qr))))
 Q2)
 Q2)
 (Qo (sIf (tBl (eOp eqD (eOp ixD (Qi 0) (eC (.int 0))) (eC (.str "block"))))
 (Qo (Jm (Qg 4) (eOp Sz (eOp Kz (eOp ixD (Qi 0) (eC (.int 2))) (Qi 2)) (eOp ixD (Qi 0) (eC (.int 1)))))
 (Qo (Jm (Qg 5) (eOp Sz (eOp Kz (eOp Vb (eOp ixD (Qi 0) (eC (.int 2))) (eC (.int 1))) (Qi 2)) (eOp ixD (Qi 0) (eC (.int 1)))))
 Q2))
 Q2)
 (Qo (J9 (Q6 3 Hn (Qd (Qi 1) (Qd (Qi 4) (Qd (Qi 5) Qr)))))
 Q2)))))))))))
def Xt:List L→FRes:=Ze 9 Wc
def Jy:SM:=(Qo (sIf (tBl (eOp neD (eCB F8 (Qd (Qi 0) Qr)) (eCB F8 (Qd (Qi 1) Qr))))
 (Qo (J9 (eC (.bl false)))
 Q2)
 Q2)
 (Qo (J9 (eOp eqD (eCB F8 (Qd (eF (fLc (Sw (Qd (eCB F8 (Qd (Qi 1) Qr)) Qr)) [2] (Qg 2) (Ah (Ag (Q6 2 Zd (Qd (eOp ixD (Qi 0) (Qi 2)) (Qd (eOp ixD (Qi 1) (Qi 2)) Qr))))) (Qi 2))) Qr)) (eC (.int 0))))
 Q2))
def Qw:List L→FRes:=Ze 3 Jy
def Ms:SM:=(Qo (Jm (Qg 1) (eOp Vb (eC (.int 1)) (Q6 2 Qm (Qd (Qi 0) (Qd (eC (.int 12)) Qr)))))
 (Qo (Jm (Qg 2) (eOp Vb (eC (.int 1)) (Q6 2 Qm (Qd (Qi 0) (Qd (eC (.int 12)) Qr)))))
 (Qo (Jm (Qg 3) (Q6 2 Qm (Qd (Qi 0) (Qd (eC (.int 9)) Qr))))
 (Qo (J9 (Uz (Qd (Qi 1) (Qd (Qi 2) (Qd (Qi 3) (Qd (eOp Vb (eC (.int 1)) (Q6 2 Qm (Qd (Qi 0) (Qd (eC (.int 12)) Qr)))) (Qd (eOp Vb (eC (.int 1)) (Q6 2 Qm (Qd (Qi 0) (Qd (eC (.int 9)) Qr)))) Qr)))))))
 Q2))))
def Y6:List L→FRes:=Ze 4 Ms
def Kd:SM:=(sFg [12,13,14]
 (Qo (Jm (Qg 13) (eOp Vb (Yt ["StrandLine"] "begin" (Qi 12)) (eOp Kz (Yt ["StrandLine"] "step" (Qi 12)) (eOp Gi (Yt ["StrandLine"] "count" (Qi 12)) (eC (.int 1))))))
 (Qo (Jm (Qg 14) (eOp Vb (Yt ["StrandLine"] "begin_move" (Qi 12)) (eOp Kz (Yt ["StrandLine"] "step" (Qi 12)) (Yt ["StrandLine"] "count_move" (Qi 12)))))
 (Qo (sIf (mOr (tBl (eOp neD (eOp qba (eCB intD (Qd (Yt ["StrandLine"] "begin_move" (Qi 12)) Qr)) (eOp Sz (Qi 6) (Qi 5))) (eC (.int 0)))) (tBl (eOp neD (eOp qba (eCB intD (Qd (Qi 14) Qr)) (eOp Sz (Qi 6) (Qi 5))) (eC (.int 0)))))
 (Qo (J9 (eC (.bl false)))
 Q2)
 Q2)
 (Qo (K3 (Fg 10 (Uz (Qd (Yt ["StrandLine"] "begin" (Qi 12)) (Qd (Yt ["StrandLine"] "begin_move" (Qi 12)) Qr)))))
 (Qo (K3 (Fg 10 (Uz (Qd (Qi 13) (Qd (Qi 14) Qr)))))
 (Qo (K3 (Fg 11 (Uz (Qd (Yt ["StrandLine"] "place" (Qi 12)) (Qd (Yt ["StrandLine"] "place_move" (Qi 12)) Qr)))))
 Q2)))))))
def Ui:SM:=(Qo (Jm (K7 5 (Q3 (Qg 5) (Q3 (Qg 6) (Q3 (Qg 7) (Q3 (Qg 8) (Q3 (Qg 9) Wl)))))) (Qi 2))
 (Qo (Pp 10 (Dz (Qd (Uz (Qd (eC (.int 0)) (Qd (eC (.int 0)) Qr))) (Qd (Uz (Qd (eOp Gi (Qi 1) (eC (.int 1))) (Qd (Qi 6) Qr))) Qr))))
 (Qo (Pp 11 (Dz (Qd (Uz (Qd (eC (.int 0)) (Qd (eC (.int 0)) Qr))) (Qd (Uz (Qd (Qi 3) (Qd (Qi 4) Qr))) Qr))))
 (Qo (Dy (C4 (Qi 0)) (Qg 12)
 Kd)
 (Qo (J9 (qeI (Q6 4 Y4 (Qd (eFr (Qi 10)) (Qd (Qi 1) (Qd (Qi 6) (Qd (Qi 9) Qr))))) (Q6 4 Y4 (Qd (eFr (Qi 11)) (Qd (Qi 1) (Qd (Qi 6) (Qd (Qi 7) Qr)))))))
 Q2)))))
def Yl:List L→FRes:=Ze 15 Ui
def Kb:SM:=(Qo (sIf (Ah (Ag (qkr Mj (Qi 1))))
 (Qo qpX
 Q2)
 Q2)
 (Qo (J9 (eF (fMk "Numbers" 6 Qk (zp 0 5 [] [.k 0,.k 1,.k 2,.k 3,.k 4] Qr (Qd (qeF (Qd (Yt ["Numbers"] "divisor" (Qi 0)) (Qd (Yt ["Numbers"] "divisor" (Qi 1)) Qr))) (Qd (qeF (Qd (Yt ["Numbers"] "modulus" (Qi 0)) (Qd (Yt ["Numbers"] "modulus" (Qi 1)) Qr))) (Qd (eOp Vb (Yt ["Numbers"] "spread" (Qi 0)) (Yt ["Numbers"] "spread" (Qi 1))) (Qd (qeF (Qd (Yt ["Numbers"] "stride" (Qi 0)) (Qd (Yt ["Numbers"] "stride" (Qi 1)) Qr))) (Qd (eOp Vb (Yt ["Numbers"] "reach" (Qi 0)) (Yt ["Numbers"] "reach" (Qi 1))) Qr)))))))))
 Q2))
def V7:List L→FRes:=Ze 2 Kb
def Gz:SM:=(Qo (Jm (Qg 2) (eOp Vb (Yt ["Numbers"] "spread" (Qi 1)) (Qi 0)))
 (Qo (J9 (eF (fMk "Numbers" 6 Qk (zp 0 5 [] [.k 0,.k 1,.k 2,.k 3,.k 4] Qr (Qd (Yt ["Numbers"] "divisor" (Qi 1)) (Qd (Yt ["Numbers"] "modulus" (Qi 1)) (Qd (Qi 2) (Qd (Yt ["Numbers"] "stride" (Qi 1)) (Qd (eOp Vb (Yt ["Numbers"] "reach" (Qi 1)) (eOp Kz (eOp Kz (eC (.int 2)) (Yt ["Numbers"] "stride" (Qi 1))) (eOp Vb (Qi 2) (eC (.int 1))))) Qr)))))))))
 Q2))
def Y1:List L→FRes:=Ze 3 Gz
def U7:SM:=(Qo (J9 (eF (fMk "Numbers" 6 Qk (zp 0 5 [] [.k 0,.k 1,.k 2,.k 3,.k 4] Qr (Qd (eOp Kz (Yt ["Numbers"] "divisor" (Qi 1)) (Qi 0)) (Qd (qeF (Qd (Yt ["Numbers"] "modulus" (Qi 1)) (Qd (eOp Kz (Yt ["Numbers"] "divisor" (Qi 1)) (Qi 0)) Qr))) (Qd (eOp Sz (eOp Gi (eOp Vb (Yt ["Numbers"] "spread" (Qi 1)) (eOp Kz (eC (.int 2)) (Qi 0))) (eC (.int 2))) (Qi 0)) (Qd (eOp Kz (Yt ["Numbers"] "stride" (Qi 1)) (Qi 0)) (Qd (eOp Vb (Yt ["Numbers"] "reach" (Qi 1)) (eOp Kz (eOp Kz (eC (.int 2)) (Yt ["Numbers"] "stride" (Qi 1))) (eOp Gi (Qi 0) (eC (.int 1))))) Qr)))))))))
 Q2)
def Vm:List L→FRes:=Ze 2 U7
def Ue:SM:=(Qo (Jm (Qg 2) (eOp Vb (Yt ["Numbers"] "spread" (Qi 1)) (eC (.int 1))))
 (Qo (J9 (eF (fMk "Numbers" 6 Qk (zp 0 5 [] [.k 0,.k 1,.k 2,.k 3,.k 4] Qr (Qd (eOp Kz (Yt ["Numbers"] "divisor" (Qi 1)) (Qi 0)) (Qd (qeF (Qd (Yt ["Numbers"] "modulus" (Qi 1)) (Qd (eOp Kz (Yt ["Numbers"] "divisor" (Qi 1)) (Qi 0)) Qr))) (Qd (Qi 2) (Qd (Yt ["Numbers"] "stride" (Qi 1)) (Qd (eOp Vb (Yt ["Numbers"] "reach" (Qi 1)) (eOp Kz (eOp Kz (eC (.int 2)) (Yt ["Numbers"] "stride" (Qi 1))) (eOp Vb (Qi 2) (eC (.int 1))))) Qr)))))))))
 Q2))
def Yi:List L→FRes:=Ze 3 Ue
def Wi:SM:=(sFg [7]
 (Qo (sIf (tBl (eOp gtD (eCB F8 (Qd (Qi 6) Qr)) (eC (.int 0))))
 (Qo (K3 (Q6 2 Jv (Qd (Qi 5) (Qd (Qi 6) Qr))))
 Q2)
 Q2)
 Q2))
def Xk:SM:=(sFg [7,8]
 (Qo (Jm (Qg 8) (Q6 2 Qm (Qd (Qi 0) (Qd (eC (.int 5)) Qr))))
 (Qo (sIf (qgw (tBl (eOp eqD (Qi 8) (eC (.int 4)))) (tBl (eOp gtD (Qi 2) (eC (.int 0)))))
 (Qo (K3 (Fg 5 (Uz (Qd (eC (.str "open")) Qr))))
 (Qo (K3 (Fg 6 (eC (.int 0))))
 (Qo (Jm (Qg 2) (eOp Gi (Qi 2) (eC (.int 1))))
 Q2)))
 (Qo (sIf (qgw (tBl (eOp eqD (Qi 8) (eC (.int 3)))) (tBl (eOp gtD (eCB F8 (Qd (Qi 6) Qr)) (eC (.int 0)))))
 (Qo (K3 (Q6 2 Jv (Qd (Qi 5) (Qd (Qi 6) Qr))))
 Q2)
 (Qo (K3 (Fg 5 (Q6 3 Vo (Qd (Qi 0) (Qd (Qi 3) (Qd (Qi 4) Qr))))))
 Q2))
 Q2))
 Q2)))
def Mw:SM:=(Qo (Pp 5 (Dz Qr))
 (Qo (Pp 6 (Dz Qr))
 (Qo (Dy (Sw (Qd (Qi 1) Qr)) (Qg 7)
 Xk)
 (Qo (Dy (Sw (Qd (eOp Kz (eC (.int 2)) (eCB F8 (Qd (Qi 6) Qr))) Qr)) (Qg 7)
 Wi)
 (Qo (J9 (Qi 5))
 Q2)))))
def W8:List L→FRes:=Ze 9 Mw
def Zs:SM:=(sFg [2]
 (Qo (sIf (tBl (eOp eqD (eOp ixD (Qi 2) (eC (.int 0))) (eC (.str "open"))))
 (Qo (K3 (Fg 1 (eOp ixD (Qi 1) (eUn Sv (eC (.int 1))))))
 Q2)
 (Qo (sIf (tBl (eOp eqD (eOp ixD (Qi 2) (eC (.int 0))) (eC (.str "next"))))
 (Qo (K3 (Fg 1 (eOp ixD (Qi 1) (eUn Sv (eC (.int 2))))))
 Q2)
 (Qo (sFg [3,4] (sIf (tBl (eOp eqD (eOp ixD (Qi 2) (eC (.int 0))) (eC (.str "shut"))))
 (Qo (Jm (Qg 3) (qdh 1))
 (Qo (Jm (Qg 4) (qdh 1))
 (Qo (Ep 1 (eUn Sv (eC (.int 1))) (Uz (Qd (Q6 2 Qt (Qd (eOp ixD (Qi 3) (eC (.int 0))) (Qd (eOp ixD (Qi 4) (eC (.int 0))) Qr))) (Qd (Q6 2 Qt (Qd (eOp ixD (Qi 3) (eC (.int 1))) (Qd (eOp ixD (Qi 4) (eC (.int 1))) Qr))) (Qd (eOp Vb (eOp ixD (Qi 3) (eC (.int 2))) (eOp ixD (Qi 4) (eC (.int 2)))) (Qd (Q6 2 Qt (Qd (eOp ixD (Qi 3) (eC (.int 3))) (Qd (eOp ixD (Qi 4) (eC (.int 3))) Qr))) (Qd (eOp Vb (eOp ixD (Qi 3) (eC (.int 4))) (eOp ixD (Qi 4) (eC (.int 4)))) Qr)))))))
 Q2)))
 (Qo (Ep 1 (eUn Sv (eC (.int 1))) (Q6 2 Vp (Qd (Qi 2) (Qd (eOp ixD (Qi 1) (eUn Sv (eC (.int 1)))) Qr))))
 Q2)))
 Q2))
 Q2))
 Q2))
def Ug:SM:=(Qo (Pp 1 (Dz (Qd (Uz (Qd (eC (.int 1)) (Qd (eC (.int 1)) (Qd (eC (.int 0)) (Qd (eC (.int 1)) (Qd (eC (.int 1)) Qr)))))) Qr)))
 (Qo (Dy (C4 (Qi 0)) (Qg 2)
 Zs)
 (Qo (J9 (eOp ixD (Qi 1) (eC (.int 0))))
 Q2)))
def Yj:List L→FRes:=Ze 5 Ug
def Jr:SM:=(sFg [3]
 (Qo (sIf (tBl (eOp eqD (eOp ixD (Qi 3) (eC (.int 0))) (eC (.str "open"))))
 (Qo (K3 (Fg 2 (eOp ixD (Qi 2) (eUn Sv (eC (.int 1))))))
 Q2)
 (Qo (sIf (tBl (eOp eqD (eOp ixD (Qi 3) (eC (.int 0))) (eC (.str "next"))))
 (Qo (K3 (Fg 2 (eOp ixD (Qi 2) (eUn Sv (eC (.int 2))))))
 Q2)
 (Qo (sFg [4,5] (sIf (tBl (eOp eqD (eOp ixD (Qi 3) (eC (.int 0))) (eC (.str "shut"))))
 (Qo (Jm (Qg 4) (qdh 2))
 (Qo (Jm (Qg 5) (qdh 2))
 (Qo (Ep 2 (eUn Sv (eC (.int 1))) (eOp Vb (Qi 5) (Qi 4)))
 Q2)))
 (Qo (Ep 2 (eUn Sv (eC (.int 1))) (Q6 2 Xt (Qd (Qi 3) (Qd (eOp ixD (Qi 2) (eUn Sv (eC (.int 1)))) Qr))))
 Q2)))
 Q2))
 Q2))
 Q2))
def Tj:SM:=(Qo (Pp 2 (Dz (Qd (Uz Qr) Qr)))
 (Qo (sIf (tBl (eOp gtD (Qi 1) (eC (.int 0))))
 (Qo (Pp 2 (Dz (Qd (Uz (Qd (Uz (Qd (eC (.int 0)) (Qd (eC (.int 1)) (Qd (Qi 1) Qr)))) Qr)) Qr)))
 Q2)
 Q2)
 (Qo (Dy (C4 (Qi 0)) (Qg 3)
 Jr)
 (Qo (J9 (eOp ixD (Qi 2) (eC (.int 0))))
 Q2))))
def Xs:List L→FRes:=Ze 6 Tj
def Nw:MTb:=[("Numbers",Uv)]
def Yb:MTb:=[("Numbers",Xu)]
def Hb:SM:=(Qo (Jm (Qg 2) (Aq Nw "fields" 1 (Qi 0) Qr))
 (Qo (sIf (mOr (Ah (Ag (qeG "tuple" (Qi 2)))) (Ah (Ag (Q6 2 Qw (Qd (Qi 2) (Qd (Qi 1) Qr))))))
 (Qo (J9 (eC (.bl false)))
 Q2)
 Q2)
 (Qo (Jm (Qg 3) (eF (Dz (Qd (Yt ["Numbers"] "divisor" (Qi 0)) (Qd (Yt ["Numbers"] "modulus" (Qi 0)) (Qd (Yt ["Numbers"] "spread" (Qi 0)) (Qd (Yt ["Numbers"] "stride" (Qi 0)) (Qd (Yt ["Numbers"] "reach" (Qi 0)) Qr))))))))
 (Qo (J9 (qeI (Q6 2 Qw (Qd (Qi 3) (Qd (Qi 1) Qr))) (Q6 2 Zd (Qd (qha Yb (Qi 0)) (Qd (eOp Vb (eOp Kz (eOp ixD (Qi 1) (eC (.int 0))) (eOp ixD (Qi 1) (eC (.int 2)))) (eC (.int 1))) Qr)))))
 Q2))))
def Zf:List L→FRes:=Ze 4 Hb
def Uh:SM:=(Qo (Jm (Qg 5) (eF (Dz (Qd (Yt ["StrandLine"] "begin" (Qi 0)) (Qd (Yt ["StrandLine"] "step" (Qi 0)) (Qd (Yt ["StrandLine"] "count" (Qi 0)) (Qd (Yt ["StrandLine"] "place" (Qi 0)) (Qd (Yt ["StrandLine"] "begin_move" (Qi 0)) (Qd (Yt ["StrandLine"] "count_move" (Qi 0)) (Qd (Yt ["StrandLine"] "place_move" (Qi 0)) Qr))))))))))
 (Qo (J9 (Q6 2 Qw (Qd (Qi 5) (Qd (eF (Dz (Qd (eOp ixD (Qi 1) (eC (.int 0))) (Qd (eOp ixD (Qi 1) (eC (.int 1))) (Qd (eOp ixD (Qi 1) (eC (.int 2))) (Qd (Qi 3) (Qd (eOp Gi (eOp ixD (Qi 2) (eC (.int 0))) (eOp ixD (Qi 1) (eC (.int 0)))) (Qd (eOp Gi (eOp ixD (Qi 2) (eC (.int 2))) (eOp ixD (Qi 1) (eC (.int 2)))) (Qd (Qi 4) Qr))))))))) Qr))))
 Q2))
def Yk:List L→FRes:=Ze 6 Uh
def K0:MTb:=[("Numbers",V7)]
def Mq:SM:=(Qo (Jm (Qg 1) (Q6 1 Y6 (Qd (Qi 0) Qr)))
 (Qo (Jm (Qg 2) (Q6 1 Y6 (Qd (Qi 0) Qr)))
 (Qo (Jm (Qg 3) (eF (fMk "Numbers" 6 Qk (zp 0 5 [] [.k 0,.k 1,.k 2,.k 3,.k 4] Qr (Qd (eOp ixD (Qi 1) (eC (.int 0))) (Qd (eOp ixD (Qi 1) (eC (.int 1))) (Qd (eOp ixD (Qi 1) (eC (.int 2))) (Qd (eOp ixD (Qi 1) (eC (.int 3))) (Qd (eOp ixD (Qi 1) (eC (.int 4))) Qr)))))))))
 (Qo (Jm (Qg 4) (eF (fMk "Numbers" 6 Qk (zp 0 5 [] [.k 4,.k 3,.k 2,.k 1,.k 0] Qr (Qd (eOp ixD (Qi 2) (eC (.int 4))) (Qd (eOp ixD (Qi 2) (eC (.int 3))) (Qd (eOp ixD (Qi 2) (eC (.int 2))) (Qd (eOp ixD (Qi 2) (eC (.int 1))) (Qd (eOp ixD (Qi 2) (eC (.int 0))) Qr)))))))))
 (Qo (Jm (Qg 5) (Uz (Qd (Q6 2 Qt (Qd (eOp ixD (Qi 1) (eC (.int 0))) (Qd (eOp ixD (Qi 2) (eC (.int 0))) Qr))) (Qd (Q6 2 Qt (Qd (eOp ixD (Qi 1) (eC (.int 1))) (Qd (eOp ixD (Qi 2) (eC (.int 1))) Qr))) (Qd (eOp Vb (eOp ixD (Qi 1) (eC (.int 2))) (eOp ixD (Qi 2) (eC (.int 2)))) (Qd (Q6 2 Qt (Qd (eOp ixD (Qi 1) (eC (.int 3))) (Qd (eOp ixD (Qi 2) (eC (.int 3))) Qr))) (Qd (eOp Vb (eOp ixD (Qi 1) (eC (.int 4))) (eOp ixD (Qi 2) (eC (.int 4)))) Qr)))))))
 (Qo (sIf (mOr (Ah (Ag (Q6 2 Zf (Qd (qhK K0 (Qi 3) (Qi 4)) (Qd (Qi 5) Qr))))) (mOr (Ah (Ag (Q6 2 Zf (Qd (Qi 3) (Qd (Qi 1) Qr))))) (Ah (Ag (Q6 2 Zf (Qd (Qi 4) (Qd (Qi 2) Qr)))))))
 (Qo (J9 (eC (.bl false)))
 Q2)
 Q2)
 (Qo (J9 (qeI (Q6 2 Zf (Qd (eF (fMk "Numbers" 6 Qk (zp 0 0 [(.int 1),(.int 1),(.int 0),(.int 1),(.int 1)] [.m 0,.m 1,.m 2,.m 3,.m 4] Qr Qr))) (Qd (Uz (Qd (eC (.int 1)) (Qd (eC (.int 1)) (Qd (eC (.int 0)) (Qd (eC (.int 1)) (Qd (eC (.int 1)) Qr)))))) Qr))) (Q6 2 Zf (Qd (eF (fMk "Numbers" 6 Qk (zp 0 1 [(.int 1),(.int 1),(.int 1),(.int 1)] [.m 0,.m 1,.k 0,.m 2,.m 3] Qr (Qd (eOp ixD (Qi 1) (eC (.int 2))) Qr)))) (Qd (Uz (Qd (eC (.int 1)) (Qd (eC (.int 1)) (Qd (eOp ixD (Qi 1) (eC (.int 2))) (Qd (eC (.int 1)) (Qd (eC (.int 1)) Qr)))))) Qr)))))
 Q2)))))))
def W6:List L→FRes:=Ze 6 Mq
def Uk:MTb:=[("StrandLine",J6)]
def Ht:MTb:=[("StrandLine",Xe)]
def Mx:SM:=(sFg [6,7]
 (Qo (Jm (Qg 7) (Aq Uk "strand_at" 2 (eOp ixD (Qi 0) (Qi 6)) (Qd (Qi 3) Qr)))
 (Qo (sIf (mOr (Ah (Ag (qeG "tuple" (Qi 7)))) (Ah (Ag (Q6 2 Qw (Qd (Qi 7) (Qd (eOp ixD (Qi 4) (Qi 6)) Qr))))))
 (Qo (J9 (eC (.bl false)))
 Q2)
 Q2)
 (Qo (sIf (Ah (Ag (Q6 2 Zd (Qd (Aq Ht "place_at" 2 (eOp ixD (Qi 0) (Qi 6)) (Qd (Qi 3) Qr)) (Qd (eOp ixD (Qi 5) (Qi 6)) Qr)))))
 (Qo (J9 (eC (.bl false)))
 Q2)
 Q2)
 Q2))))
def Mn:SM:=(Qo (Jm (Qg 4) (Q6 2 Xs (Qd (Qi 1) (Qd (Qi 2) Qr))))
 (Qo (sIf (tBl (eOp neD (eCB F8 (Qd (Qi 4) Qr)) (eCB F8 (Qd (Qi 0) Qr))))
 (Qo (J9 (eC (.bl false)))
 Q2)
 Q2)
 (Qo (Jm (Qg 5) (Q6 1 Je (Qd (Qi 4) Qr)))
 (Qo (Dy (Sw (Qd (eCB F8 (Qd (Qi 4) Qr)) Qr)) (Qg 6)
 Mx)
 (Qo (J9 (eC (.bl true)))
 Q2)))))
def Y3:List L→FRes:=Ze 8 Mn
def J5 (Jo:List L→FRes):SM:=(sFg [2]
 (Qo (qdN 1 qeP (eC (.int 1)))
 (Qo (sIf (tBl (eOp eqD (eOp ixD (Qi 2) (eC (.int 0))) (eC (.str "both"))))
 (Qo (qdN 1 qeP (eOp Vb (Q6 1 Jo (Qd (eOp ixD (Qi 2) (eC (.int 1))) Qr)) (Q6 1 Jo (Qd (eOp ixD (Qi 2) (eC (.int 2))) Qr))))
 Q2)
 Q2)
 Q2)))
def Vt (Jo:List L→FRes):SM:=(Qo (Jm (Qg 1) (eC (.int 0)))
 (Qo (Dy (C4 (Qi 0)) (Qg 2)
 (J5 Jo))
 (Qo (J9 (Qi 1))
 Q2)))
def Jn:Nat→(List L→FRes)
 | 0=>Ze 3 (fun _=>.bad)
 | n+1=>Ze 3 (Vt ((Jn n)))
def K5:List L→FRes:=(Jn 40)
def Y9 (Ym:List L→FRes):SM:=(sFg [2]
 (Qo (sIf (tBl (eOp eqD (eOp ixD (Qi 2) (eC (.int 0))) (eC (.str "both"))))
 (Qo (Jm (Qg 1) (eCB qi (Qd (Qi 1) (Qd (eOp Vb (eC (.int 1)) (eCB qi (Qd (Q6 1 Ym (Qd (eOp ixD (Qi 2) (eC (.int 1))) Qr)) (Qd (Q6 1 Ym (Qd (eOp ixD (Qi 2) (eC (.int 2))) Qr)) Qr)))) Qr))))
 Q2)
 Q2)
 Q2))
def Ho (Ym:List L→FRes):SM:=(Qo (Jm (Qg 1) (eC (.int 0)))
 (Qo (Dy (C4 (Qi 0)) (Qg 2)
 (Y9 Ym))
 (Qo (J9 (Qi 1))
 Q2)))
def X7:Nat→(List L→FRes)
 | 0=>Ze 3 (fun _=>.bad)
 | n+1=>Ze 3 (Ho ((X7 n)))
def Pr:List L→FRes:=(X7 40)
def Jl (Z0:List L→FRes):SM:=(sFg [2]
 (Qo (sIf (tBl (eOp eqD (eOp ixD (Qi 2) (eC (.int 0))) (eC (.str "both"))))
 (Qo (Jm (Qg 1) (eOp Vb (Q6 2 Z0 (Qd (eOp ixD (Qi 2) (eC (.int 1))) (Qd (Qi 1) Qr))) (Q6 2 Z0 (Qd (eOp ixD (Qi 2) (eC (.int 2))) (Qd (Qi 1) Qr)))))
 Q2)
 Q2)
 Q2))
def Xv (Z0:List L→FRes):SM:=(Qo (Dy (C4 (Qi 0)) (Qg 2)
 (Jl Z0))
 (Qo (J9 (Qi 1))
 Q2))
def Z4:Nat→(List L→FRes)
 | 0=>Ze 3 (fun _=>.bad)
 | n+1=>Ze 3 (Xv ((Z4 n)))
def Y0:List L→FRes:=(Z4 40)
def Wf:SM:=(Qo (sIf (tBl (eOp gtD (Q6 1 Pr (Qd (Qi 1) Qr)) (eC (.int 6))))
 (Qo (Gp "TooLarge" "what" (Qd (eC (.str "depth")) Qr))
 Q2)
 Q2)
 (Qo (sIf (tBl (eOp gtD (Q6 1 K5 (Qd (Qi 1) Qr)) (eC (.int 24))))
 (Qo (Gp "TooLarge" "what" (Qd (eC (.str "parts")) Qr))
 Q2)
 Q2)
 (Qo (Jm (Qg 2) (Q6 2 Y0 (Qd (Qi 1) (Qd (eC (.int 1)) Qr))))
 (Qo (sIf (tBl (eOp gtD (Qi 2) (eC (.int 16))))
 (Qo (Gp "TooLarge" "what" (Qd (eC (.str "leaves")) Qr))
 Q2)
 Q2)
 (Qo (Sr ["Feed"] "_parts" 0 (Qi 1))
 (Qo (Sr ["Feed"] "_leaves" 0 (Qi 2))
 Q2))))))
def J4:List L→FRes:=Ze 3 Wf
def Kt (Xc Zy:List L→FRes):SM:=(Qo (Lr (eOp ixD (Qi 0) (eC (.int 0)))
 (Np "same" (Qo (J9 (Qi 1))
 Q2)
 (Np "turn" (Qo (J9 (Q6 1 Km (Qd (Qi 1) Qr)))
 Q2)
 (Np "each" (Qo (J9 (Q6 3 Hm (Qd (Qi 1) (Qd (eOp ixD (Qi 0) (eC (.int 1))) (Qd (eOp ixD (Qi 0) (eC (.int 2))) Qr)))))
 Q2)
 (Np "both" (Qo (J9 (eOp Vb (Q6 2 Zy (Qd (eOp ixD (Qi 0) (eC (.int 1))) (Qd (Qi 1) Qr))) (Q6 2 Zy (Qd (eOp ixD (Qi 0) (eC (.int 2))) (Qd (Qi 1) Qr)))))
 Q2)
 (qbc (Qo (Jm (K7 2 (Q3 (Qg 2) (Q3 (Qg 3) Wl))) (Q6 2 Kk (Qd (Qi 0) (Qd (Q6 1 Vl (Qd (Qi 1) Qr)) Qr))))
 (Qo (J9 (Q6 3 Hw (zp 1 2 [] [.p 0,.k 0,.k 1] (Qd (Qi 1) Qr) (Qd (Qi 2) (Qd (Qi 3) Qr)))))
 Q2))))))))
 Q2)
def Xo (Xc Zy:List L→FRes):SM:=(sFg [2]
 (Qo (Jm (Qg 1) (Q6 2 Xc (Qd (Qi 2) (Qd (Qi 1) Qr))))
 Q2))
def Ks (Xc Zy:List L→FRes):SM:=(Qo (Dy (C4 (Qi 0)) (Qg 2)
 (Xo Xc Zy))
 (Qo (J9 (Qi 1))
 Q2))
def Zb:Nat→(List L→FRes)×(List L→FRes)
 | 0=>(Ze 4 (fun _=>.bad),Ze 3 (fun _=>.bad))
 | n+1=>(Ze 4 (Kt ((Zb n).1) ((Zb n).2)),Ze 3 (Ks ((Zb n).1) ((Zb n).2)))
def qa1:List L→FRes:=(Zb 40).1
def Um:List L→FRes:=(Zb 40).2
def Xg (Z5 Zm:List L→FRes):SM:=(Qo (Lr (eOp ixD (Qi 0) (eC (.int 0)))
 (Np "same" (Qo (J9 (Qi 1))
 Q2) (Np "turn" (Qo (J9 (Qi 1))
 Q2)
 (Np "each" (Qo (J9 (Q6 2 Vm (Qd (eOp ixD (Qi 0) (eC (.int 1))) (Qd (Qi 1) Qr))))
 Q2)
 (Np "block" (Qo (J9 (Q6 2 Yi (Qd (eOp ixD (Qi 0) (eC (.int 1))) (Qd (Qi 1) Qr))))
 Q2)
 (Np "both" (Qo (J9 (qhK K0 (Q6 2 Zm (Qd (eOp ixD (Qi 0) (eC (.int 1))) (Qd (Qi 1) Qr))) (Q6 2 Zm (Qd (eOp ixD (Qi 0) (eC (.int 2))) (Qd (Qi 1) Qr)))))
 Q2)
 (qbc (Qo (J9 (Q6 2 Y1 (Qd (eOp ixD (Qi 0) (eC (.int 1))) (Qd (Qi 1) Qr))))
 Q2))))))))
 Q2)
def Jt (Z5 Zm:List L→FRes):SM:=(sFg [2]
 (Qo (Jm (Qg 1) (Q6 2 Z5 (Qd (Qi 2) (Qd (Qi 1) Qr))))
 Q2))
def Yn (Z5 Zm:List L→FRes):SM:=(Qo (Dy (C4 (Qi 0)) (Qg 2)
 (Jt Z5 Zm))
 (Qo (J9 (Qi 1))
 Q2))
def Qs:Nat→(List L→FRes)×(List L→FRes)
 | 0=>(Ze 2 (fun _=>.bad),Ze 3 (fun _=>.bad))
 | n+1=>(Ze 2 (Xg ((Qs n).1) ((Qs n).2)),Ze 3 (Yn ((Qs n).1) ((Qs n).2)))
def Et:List L→FRes:=(Qs 40).1
def V0:List L→FRes:=(Qs 40).2
def Vu:SM:=(Qo (J9 (Q6 2 Um (Qd (Yt ["Feed"] "_parts" (Qi 0)) (Qd (Q6 1 W5 (Qd (Qi 1) Qr)) Qr))))
 Q2)
def Vq:List L→FRes:=Ze 2 Vu
def Ce:MTb:=[("Feed",N9)]
def Gy:SM:=(Qo (J9 (Q6 2 V0 (Qd (qha Ce (Qi 0)) (Qd (eF (fMk "Numbers" 6 Qk (zp 0 0 [(.int 1),(.int 1),(.int 0),(.int 1),(.int 1)] [.m 0,.m 1,.m 2,.m 3,.m 4] Qr Qr))) Qr))))
 Q2)
def Xd:List L→FRes:=Ze 1 Gy
def X0:MTb:=[("Feed",Vq)]
def Kc:SM:=(sFg [6,7]
 (Qo (K3 (Fg 3 (eF (fMk "StrandLine" 5 Zw (qhu (Qd (Qi 6) (Qd (Qi 7) (Qd (Qi 4) (Qd (eOp Gi (Qi 5) (Qi 4)) Qr)))) [])))))
 (Qo (qdN 4 qeP (eOp ixD (Qi 6) (eC (.int 2))))
 (Qo (qdN 5 qeP (eOp ixD (Qi 7) (eC (.int 2))))
 Q2))))
def V2:SM:=(Qo (Jm (Qg 2) (Q6 1 Xd (Qd (Qi 0) Qr)))
 (Qo (sIf (tBl (eOp ltD (Qi 1) (qha Yb (Qi 2))))
 (Qo (Gp "BadLength" "length" (Qd (Qi 1) Qr))
 Q2)
 Q2)
 (Qo (Pp 3 (Dz Qr))
 (Qo (Jm (Qg 4) (eC (.int 0)))
 (Qo (Jm (Qg 5) (eC (.int 0)))
 (Qo (Dy (qi1 (Qd (Aq X0 "strands_at" 2 (Qi 0) (Qd (Qi 1) Qr)) (Qd (Aq X0 "strands_at" 2 (Qi 0) (Qd (eOp Vb (Qi 1) (Yt ["Numbers"] "modulus" (Qi 2))) Qr)) Qr))) (K7 2 (Q3 (Qg 6) (Q3 (Qg 7) Wl)))
 Kc)
 (Qo (J9 (Qi 3))
 Q2)))))))
def Jd:List L→FRes:=Ze 8 V2
def H6:SM:=(Qo (Jm (Qg 3) (eC .non))
 (Qo (Jm (Qg 4) (eC .non))
 (Qo (qhD (qc7 "BadLength") 2
 (Qo (Jm (Qg 4) (Q6 2 Jd (Qd (Qi 0) (Qd (Qi 1) Qr))))
 Q2)
 fun ex=>(Qo (Jm (Qg 3) (eF (Dz (Qd (eXf ex "BadLength" "length" 2) (Qd (qdP ex "BadLength" true 2) (Qd (qdP ex "BadLength" true 2) (Qd (qdP ex "BadLength" false 2) Qr)))))))
 Q2))
 (Qo (qaY (Dz (Qd (Qi 3) (Qd (Qi 4) Qr))))
 Q2))))
def Xm:List L→FRes:=Ze 5 H6
def v5:SM:=(sFg [18]
 (Qo (sIf (Ah (Ag (Q6 4 Y3 (Qd (Qi 11) (Qd (Qi 3) (Qd (eOp Vb (Qi 7) (eOp Kz (eOp ixD (Qi 5) (eC (.int 1))) (Qi 18))) (Qd (Qi 18) Qr)))))))
 (Qo (J9 (eC (.bl false)))
 Q2)
 Q2)
 Q2))
def vz:SM:=(sFg [16,17]
 (Qo (Jm (Qg 17) (eOp Gi (eOp ixD (Qi 15) (Qi 16)) (eOp ixD (Qi 14) (Qi 16))))
 (Qo (sIf (Ah (Ag (Q6 5 Yk (Qd (eOp ixD (Qi 11) (Qi 16)) (Qd (eOp ixD (Qi 12) (Qi 16)) (Qd (eOp ixD (Qi 13) (Qi 16)) (Qd (eOp ixD (Qi 14) (Qi 16)) (Qd (Qi 17) Qr))))))))
 (Qo (J9 (eC (.bl false)))
 Q2)
 Q2)
 Q2)))
def qeM:SM:=(Qo (Pp 1 (vi 1 Vn (Qd (Qi 0) Qr)))
 (Qo (Jm (Qg 2) (eOp ixD (eF (Dz (Qd (eC (.int 9)) (Qd (eC (.int 99)) Qr)))) (Q6 2 Qm (Qd (Qi 1) (Qd (eC (.int 2)) Qr)))))
 (Qo (Jm (Qg 3) (Q6 5 W8 (Qd (Qi 1) (Qd (eOp Vb (eC (.int 1)) (Q6 2 Qm (Qd (Qi 1) (Qd (eC (.int 10)) Qr)))) (Qd (Q6 2 Qm (Qd (Qi 1) (Qd (eC (.int 5)) Qr))) (Qd (Qi 2) (Qd (eC (.int 9)) Qr)))))))
 (Qo (Jm (Qg 4) (eF (fMk "Feed" 2 J4 (qhu (Qd (Q6 1 Kn (Qd (Qi 3) Qr)) Qr) []))))
 (Qo (Jm (Qg 5) (Q6 1 Yj (Qd (Qi 3) Qr)))
 (Qo (Jm (Qg 6) (eOp Vb (eOp Kz (eOp ixD (Qi 5) (eC (.int 0))) (eOp ixD (Qi 5) (eC (.int 2)))) (eC (.int 1))))
 (Qo (Jm (Qg 7) (eOp Vb (Qi 6) (Q6 2 Qm (Qd (Qi 1) (Qd (eC (.int 100)) Qr)))))
 (Qo (sIf (tBl (eOp eqD (Q6 2 Qm (Qd (Qi 1) (Qd (eC (.int 4)) Qr))) (eC (.int 3))))
 (Qo (Jm (Qg 7) (eOp Vb (Qi 7) (Q6 2 Y5 (Qd (Qi 1) (Qd (eC (.int 12)) Qr)))))
 Q2)
 Q2)
 (Qo (Jm (Qg 8) (eF (Dz (Qd (eC (.int 0)) (Qd (eC (.int 1)) (Qd (Q6 2 Qm (Qd (Qi 1) (Qd (eC (.int 1000)) Qr))) (Qd (Q6 2 Y5 (Qd (Qi 1) (Qd (eC (.int 10)) Qr))) Qr)))))))
 (Qo (Jm (Qg 9) (eOp Gi (eOp Gi (Qi 6) (eC (.int 1))) (Q6 2 Qm (Qd (Qi 1) (Qd (eC (.int 1000)) Qr)))))
 (Qo (sIf (mOr (Ah (Ag (Q6 2 Zf (Qd (Q6 1 Xd (Qd (Qi 4) Qr)) (Qd (Qi 5) Qr))))) (Ah (Ag (Q6 1 W6 (Qd (Qi 1) Qr)))))
 (Qo (J9 (eC (.bl false)))
 Q2)
 Q2)
 (Qo (sIf (tBl (eOp neD (eOp ixD (Q6 2 Xm (Qd (Qi 4) (Qd (Qi 9) Qr))) (eC (.int 0))) (eF (Dz (Qd (Qi 9) (Qd (eC (.bl true)) (Qd (eC (.bl true)) (Qd (eC (.bl false)) Qr))))))))
 (Qo (J9 (eC (.bl false)))
 Q2)
 Q2)
 (Qo (Jm (qcU 2 (Q3 (Qg 10) (Q3 (Qg 11) Wl))) (Q6 2 Xm (Qd (Qi 4) (Qd (Qi 7) Qr))))
 (Qo (Jm (Qg 12) (Q6 2 Xs (Qd (Qi 3) (Qd (Qi 7) Qr))))
 (Qo (Jm (Qg 13) (Q6 2 Xs (Qd (Qi 3) (Qd (eOp Vb (Qi 7) (eOp ixD (Qi 5) (eC (.int 1)))) Qr))))
 (Qo (sIf (mOr (tBl (eOp qjJ (Qi 10) (eC .non))) (mOr (Ah (Ag (qeG "list" (Qi 11)))) (mOr (tBl (eOp neD (eCB F8 (Qd (Qi 11) Qr)) (eCB F8 (Qd (Qi 12) Qr)))) (tBl (eOp neD (eCB F8 (Qd (Qi 13) Qr)) (eCB F8 (Qd (Qi 12) Qr)))))))
 (Qo (J9 (eC (.bl false)))
 Q2)
 Q2)
 (Qo (Jm (Qg 14) (Q6 1 Je (Qd (Qi 12) Qr)))
 (Qo (Jm (Qg 15) (Q6 1 Je (Qd (Qi 13) Qr)))
 (Qo (Dy (Sw (Qd (eCB F8 (Qd (Qi 12) Qr)) Qr)) (Qg 16)
 vz)
 (Qo (Dy (C4 (Qi 8)) (Qg 18)
 v5)
 (Qo (J9 (Q6 5 Yl (Qd (Qi 11) (Qd (Qi 7) (Qd (Qi 5) (Qd (eOp ixD (Qi 14) (eUn Sv (eC (.int 1)))) (Qd (eOp Gi (eOp ixD (Qi 15) (eUn Sv (eC (.int 1)))) (eOp ixD (Qi 14) (eUn Sv (eC (.int 1))))) Qr)))))))
 Q2)))))))))))))))))))))
def qd4:List L→FRes:=Ze 19 qeM
structure Txt (P:Program) (K:PySem.W.Frag) (mg:Str→Option Value):Prop where
 xx:mg "ValueError"=none
 qo8:mg "abs"=none
 qkH:mg "bool"=none
 O8:mg "int"=none
 Xj:mg "isinstance"=none
 Ro:mg "len"=none
 qkG:mg "list"=none
 vy:mg "max"=none
 vx:mg "min"=none
 Ph:mg "range"=none
 qkF:mg "sum"=none
 H7:mg "tuple"=none
 qo7:mg "zip"=none
 qcQ:mg "lcm"=some (.builtin "math.lcm")
 Ua:ErrF P K mg "BadLength" "length"
 Tf:ErrF P K mg "BadPlace" "place"
 Bm:ErrF P K mg "TooLarge" "what"
 Oh:mg "strand_turned"=some (.ref (cA K "strand_turned"))
 qt:mg "strand_each"=some (.ref (cA K "strand_each"))
 j5:mg "strand_cut"=some (.ref (cA K "strand_cut"))
 qbf:mg "row_size"=some (.ref (cA K "row_size"))
 j4:mg "stretch_of"=some (.ref (cA K "stretch_of"))
 y6:mg "whole_row"=some (.ref (cA K "whole_row"))
 qy:mg "_law_stream"=some (.ref (cA K "_law_stream"))
 vg:mg "_law_draw"=some (.ref (cA K "_law_draw"))
 zd:mg "_law_onward"=some (.ref (cA K "_law_onward"))
 j9:mg "_law_parts"=some (.ref (cA K "_law_parts"))
 Oj:mg "_law_multiple"=some (.ref (cA K "_law_multiple"))
 vf:mg "_law_each"=some (.ref (cA K "_law_each"))
 qbi:mg "_law_cut"=some (.ref (cA K "_law_cut"))
 F0:mg "_law_is_number"=some (.ref (cA K "_law_is_number"))
 qz:mg "_law_starts"=some (.ref (cA K "_law_starts"))
 y9:mg "_law_near"=some (.ref (cA K "_law_near"))
 j6:mg "row_turned"=some (.ref (cA K "row_turned"))
 qbg:mg "row_each"=some (.ref (cA K "row_each"))
 qcY:mg "row_cut"=some (.ref (cA K "row_cut"))
 vd:mg "_law_long"=some (.ref (cA K "_law_long"))
 za:mg "_law_simple"=some (.ref (cA K "_law_simple"))
 zf:mg "_law_behind"=some (.ref (cA K "_law_behind"))
 Oi:mg "_law_part_row"=some (.ref (cA K "_law_part_row"))
 Bj:mg "_law_is_numbers"=some (.ref (cA K "_law_is_numbers"))
 ve:mg "_law_five"=some (.ref (cA K "_law_five"))
 Ap:mg "_law_bounded"=some (.ref (cA K "_law_bounded"))
 j8:mg "behind_cut"=some (.ref (cA K "behind_cut"))
 qx:mg "behind_each"=some (.ref (cA K "behind_each"))
 Am:mg "behind_block"=some (.ref (cA K "behind_block"))
 vh:mg "_law_code"=some (.ref (cA K "_law_code"))
 An:mg "_law_numbers"=some (.ref (cA K "_law_numbers"))
 qbh:mg "_law_row"=some (.ref (cA K "_law_row"))
 ze:mg "_law_fields"=some (.ref (cA K "_law_fields"))
 Ao:mg "_law_is_line"=some (.ref (cA K "_law_is_line"))
 vc:mg "_law_made"=some (.ref (cA K "_law_made"))
 y7:mg "_law_turn"=some (.ref (cA K "_law_turn"))
 C7:mg "count_parts"=some (.ref (cA K "count_parts"))
 Eb:mg "depth_of"=some (.ref (cA K "depth_of"))
 Rh:mg "leaves_behind"=some (.ref (cA K "leaves_behind"))
 Ea:mg "part_row"=some (.ref (cA K "part_row"))
 Ff:mg "row_behind"=some (.ref (cA K "row_behind"))
 C9:mg "behind_part"=some (.ref (cA K "behind_part"))
 Sd:mg "behind_parts"=some (.ref (cA K "behind_parts"))
 j7:mg "numbers_of"=some (.ref (cA K "numbers_of"))
 Ak:mg "strand_lines"=some (.ref (cA K "strand_lines"))
 y8:mg "_law_told"=some (.ref (cA K "_law_told"))
 qom:mg "law"=some (.ref (cA K "law"))
 qi8:Cls K (cA K "Feed")
 qcB:Cls K (cA K "Numbers")
 Fc:Cls K (cA K "StrandLine")
 Be:Meth K (cA K "Feed") "strands_at" (maA K "Feed" "strands_at")
 Fz:Meth K (cA K "Numbers") "fields" (maA K "Numbers" "fields")
 Rc:Meth K (cA K "StrandLine") "place_at" (maA K "StrandLine" "place_at")
 Nq:Meth K (cA K "StrandLine") "strand_at" (maA K "StrandLine" "strand_at")
 D4:CvC K "Feed" "MOST_DEPTH" (.int 6)
 Cc:CvC K "Feed" "MOST_LEAVES" (.int 16)
 D3:CvC K "Feed" "MOST_PARTS" (.int 24)
 qbe:qme K "Numbers" Mj
 qc6:Au K "_leaves" ["Feed"]
 zi:Au K "_parts" ["Feed"]
 Ot:Au K "begin" ["StrandLine"]
 Kr:Au K "begin_move" ["StrandLine"]
 zh:Au K "count" ["StrandLine"]
 Gu:Au K "count_move" ["StrandLine"]
 Y7:Au K "divisor" ["Numbers"]
 Wa:Au K "modulus" ["Numbers"]
 zg:Au K "place" ["StrandLine"]
 Gr:Au K "place_move" ["StrandLine"]
 Rj:Au K "reach" ["Numbers"]
 U5:Au K "spread" ["Numbers"]
 xj:Au K "step" ["StrandLine"]
 K9:Au K "stride" ["Numbers"]
 qgs:Mk K (cA K "Feed") (maA K "Feed" "__init__")
 Td:Mk K (cA K "Numbers") (maA K "Numbers" "__init__")
 qd:Mk K (cA K "StrandLine") (maA K "StrandLine" "__init__")
 je:Cls K (cA K "Feed")∧PropOf K (cA K "Feed") "parts" (maA K "Feed" "parts") (pgA K "Feed" "parts")
 D5:Cls K (cA K "Numbers")∧PropOf K (cA K "Numbers") "settled" (maA K "Numbers" "settled") (pgA K "Numbers" "settled")
 D6:OpOk K "Numbers" "__or__" (maA K "Numbers" "__or__")
 qbu:mg "BadIndex"=some (.ref (cA K "BadIndex"))
 qbt:mg "BadPlace"=some (.ref (cA K "BadPlace"))
 qaN:mg "Feed"=some (.ref (cA K "Feed"))
 vr:mg "FoldError"=some (.ref (cA K "FoldError"))
 Rm:mg "Numbers"=some (.ref (cA K "Numbers"))
 xr:mg "StrandLine"=some (.ref (cA K "StrandLine"))
 Sn:L2.ExcC K (cA K "BadLength")
 qtl:PySem.W.kitAny K (.ref (cA K "BadLength")) (([(.own "BadIndex"),(.own "BadPlace")]:List CN).map (CN.u K))=some false
 qtk:PySem.W.kitOne K (.ref (cA K "BadLength")) (CN.u K (.ty "ValueError"))=some true
 qtj:PySem.W.kitOne K (.ref (cA K "BadLength")) (CN.u K (.own "FoldError"))=some true
theorem qs4 {K:PySem.W.Frag} (fd:FuncData) (F:FunD K "strand_cut" "strand_cut" (defArgs Jg) (defBody Jg) (defScope Jg) [] ([("begin",(.int 0)),("end",.non)]:List (Str×V)) (cA K "strand_cut") fd):∃g,KBn K fd (["strand","begin","end"]:List Str) 1 (["begin","end"]:List Str) g (fun vs zs=>gS [.p 0,.k 0,.k 1] vs (([]:List D).map cV) zs):=
 kb0 F 1 ["begin","end"] ([]:List (Str×V)) [.p 0,.k 0,.k 1] (by simp) (by simp) (fun D doc pm an cdv ct us mv ws l1 l2 l3=>match us,mv,ws,l1,l2,l3 with | [_],[],[_,_],_,_,_=>rfl)
theorem qs3 {K:PySem.W.Frag} (fd:FuncData) (F:FunD K "row_cut" "row_cut" (defArgs X9) (defBody X9) (defScope X9) [] ([("begin",(.int 0)),("end",.non)]:List (Str×V)) (cA K "row_cut") fd):∃g,KBn K fd (["row","begin","end"]:List Str) 1 (["begin","end"]:List Str) g (fun vs zs=>gS [.p 0,.k 0,.k 1] vs (([]:List D).map cV) zs):=
 kb0 F 1 ["begin","end"] ([]:List (Str×V)) [.p 0,.k 0,.k 1] (by simp) (by simp) (fun D doc pm an cdv ct us mv ws l1 l2 l3=>match us,mv,ws,l1,l2,l3 with | [_],[],[_,_],_,_,_=>rfl)
theorem Hv:FnScope ["self","divisor","modulus","spread","stride","reach"] ["self","divisor","modulus","spread","stride","reach"] (defScope Zu):=⟨rfl,rfl,rfl,by decide +kernel,rfl,by decide +kernel,by decide +kernel⟩
theorem Su {P:Program} {w:World} {K:PySem.W.Frag} {mg:Str→Option Value} {base:Heap} (F:∃fd,FunD K "__init__" "Numbers.__init__" (defArgs Zu) (defBody Zu) (defScope Zu) [] ([("divisor",(.int 1)),("modulus",(.int 1)),("spread",(.int 0)),("stride",(.int 1)),("reach",(.int 1))]:List (Str×V)) (maA K "Numbers" "__init__") fd) (T:Txt P K mg):FnMW P w K mg base 1 "Numbers" "__init__" "Numbers.__init__" Zu ([("divisor",(.int 1)),("modulus",(.int 1)),("spread",(.int 0)),("stride",(.int 1)),("reach",(.int 1))]:List (Str×V)) ["self","divisor","modulus","spread","stride","reach"] Qk:=by
 have nd:=Hv.nd;refine qg2 (P:=P) (w:=w) (K:=K) (mg:=mg) (base:=base) (C:="Numbers") (m:="__init__") (qual:="Numbers.__init__") (st:=Zu) (kws:=([("divisor",(.int 1)),("modulus",(.int 1)),("spread",(.int 0)),("stride",(.int 1)),("reach",(.int 1))]:List (Str×V))) (N:=["self","divisor","modulus","spread","stride","reach"]) (ps:=["self","divisor","modulus","spread","stride","reach"]) (k:=0) (body:=Yu) F Hv (fun cdv A outer s H E hr=>?_);unfold Yu;refine Qc ?_ ?_;refine H5 (i:=0) T.Y7 ?_;refine Qa (i:=1);refine Qc ?_ ?_;refine H5 (i:=0) T.Wa ?_;refine Qa (i:=2);refine Qc ?_ ?_;refine H5 (i:=0) T.U5 ?_;refine Qa (i:=3);refine Qc ?_ ?_;refine H5 (i:=0) T.K9 ?_;refine Qa (i:=4);refine Qc ?_ ?_;refine H5 (i:=0) T.Rj ?_;refine Qa (i:=5);refine Qe
theorem Gk:FnScope ["self"] ["self"] (defScope Ja):=⟨rfl,rfl,rfl,by decide +kernel,rfl,by decide +kernel,by decide +kernel⟩
theorem Cy {P:Program} {w:World} {K:PySem.W.Frag} {mg:Str→Option Value} {base:Heap} (F:∃fd,FunD K "settled" "Numbers.settled" (defArgs Ja) (defBody Ja) (defScope Ja) [] [] (pgA K "Numbers" "settled") fd) (T:Txt P K mg):FnP P w K mg base 1 "Numbers" "settled" 1 Xu:=by
 have nd:=Gk.nd;refine qfm (P:=P) (w:=w) (K:=K) (mg:=mg) (base:=base) (C:="Numbers") (m:="settled") (x:="settled") (qual:="Numbers.settled") (st:=Ja) (N:=["self"]) (ps:=["self"]) (k:=0) (body:=Jz) F Gk (fun _ _ _ _ _ _ us hl=>match us,hl with | [_],_=>rfl) (fun cdv A outer s H E hr=>?_);unfold Jz;refine Qc ?_ ?_;refine Qx ?_;refine Qn Qv ?_ ?_;refine Qn Q4 ?_ ?_;refine Za T.Y7 ?_;refine Qa (i:=0);refine Za T.U5 ?_;refine Qa (i:=0);refine Qf;refine Qe
theorem Pn:FnScope ["self"] ["self"] (defScope Jh):=⟨rfl,rfl,rfl,by decide +kernel,rfl,by decide +kernel,by decide +kernel⟩
theorem D8 {P:Program} {w:World} {K:PySem.W.Frag} {mg:Str→Option Value} {base:Heap} (F:∃fd,FunD K "fields" "Numbers.fields" (defArgs Jh) (defBody Jh) (defScope Jh) [] [] (maA K "Numbers" "fields") fd) (T:Txt P K mg):FnM P w K mg base 1 "Numbers" "fields" 1 Uv:=by
 have nd:=Pn.nd;refine Oo (P:=P) (w:=w) (K:=K) (mg:=mg) (base:=base) (C:="Numbers") (m:="fields") (x:="fields") (qual:="Numbers.fields") (st:=Jh) (N:=["self"]) (ps:=["self"]) (k:=0) (body:=Ka) F Pn (fun _ _ _ _ _ _ us hl=>match us,hl with | [_],_=>rfl) (fun cdv A outer s H E hr=>?_);unfold Ka;refine Qc ?_ ?_;refine Qx ?_;refine Zz ?_;refine Qb ?_ ?_;refine Za T.Y7 ?_;refine Qa (i:=0);refine Qb ?_ ?_;refine Za T.Wa ?_;refine Qa (i:=0);refine Qb ?_ ?_;refine Za T.U5 ?_;refine Qa (i:=0);refine Qb ?_ ?_;refine Za T.K9 ?_;refine Qa (i:=0);refine Qb ?_ ?_;refine Za T.Rj ?_;refine Qa (i:=0);refine Qh;refine Qe
theorem Wo:FnScope ["self","strand","later","place","place_move"] ["self","strand","later","place","place_move"] (defScope Zo):=⟨rfl,rfl,rfl,by decide +kernel,rfl,by decide +kernel,by decide +kernel⟩
theorem Nn {P:Program} {w:World} {K:PySem.W.Frag} {mg:Str→Option Value} {base:Heap} (F:∃fd,FunD K "__init__" "StrandLine.__init__" (defArgs Zo) (defBody Zo) (defScope Zo) [] [] (maA K "StrandLine" "__init__") fd) (T:Txt P K mg):FnM P w K mg base 1 "StrandLine" "__init__" 5 Zw:=by
 have nd:=Wo.nd;refine Oo (P:=P) (w:=w) (K:=K) (mg:=mg) (base:=base) (C:="StrandLine") (m:="__init__") (x:="__init__") (qual:="StrandLine.__init__") (st:=Zo) (N:=["self","strand","later","place","place_move"]) (ps:=["self","strand","later","place","place_move"]) (k:=0) (body:=Xi) F Wo (fun _ _ _ _ _ _ us hl=>match us,hl with | [_,_,_,_,_],_=>rfl) (fun cdv A outer s H E hr=>?_);unfold Xi;refine Qc ?_ ?_;refine qgE ?_ (qgG rfl ?_);refine Qa (i:=1);refine Oe (y0 (i:=0) T.Ot) ?_;refine Oe (y0 (i:=0) T.xj) ?_;refine Oe (y0 (i:=0) T.zh) ?_;refine qet;refine Qc ?_ ?_;refine H5 (i:=0) T.Kr ?_;refine Qn Zq ?_ ?_;refine Qp ?_ ?_;refine Qa (i:=2);refine Qf;refine Qp ?_ ?_;refine Qa (i:=1);refine Qf;refine Qc ?_ ?_;refine H5 (i:=0) T.Gu ?_;refine Qn Zq ?_ ?_;refine Qp ?_ ?_;refine Qa (i:=2);refine Qf;refine Qp ?_ ?_;refine Qa (i:=1);refine Qf;refine Qc ?_ ?_;refine H5 (i:=0) T.zg ?_;refine Qa (i:=3);refine Qc ?_ ?_;refine H5 (i:=0) T.Gr ?_;refine Qa (i:=4);refine Qe
theorem K2:FnScope ["self","turn"] ["self","turn"] (defScope Zk):=⟨rfl,rfl,rfl,by decide +kernel,rfl,by decide +kernel,by decide +kernel⟩
theorem Mf {P:Program} {w:World} {K:PySem.W.Frag} {mg:Str→Option Value} {base:Heap} (F:∃fd,FunD K "strand_at" "StrandLine.strand_at" (defArgs Zk) (defBody Zk) (defScope Zk) [] [] (maA K "StrandLine" "strand_at") fd) (T:Txt P K mg):FnM P w K mg base 1 "StrandLine" "strand_at" 2 J6:=by
 have nd:=K2.nd;refine Oo (P:=P) (w:=w) (K:=K) (mg:=mg) (base:=base) (C:="StrandLine") (m:="strand_at") (x:="strand_at") (qual:="StrandLine.strand_at") (st:=Zk) (N:=["self","turn"]) (ps:=["self","turn"]) (k:=0) (body:=J8) F K2 (fun _ _ _ _ _ _ us hl=>match us,hl with | [_,_],_=>rfl) (fun cdv A outer s H E hr=>?_);unfold J8;refine Qc ?_ ?_;refine Qx ?_;refine Zz ?_;refine Qb ?_ ?_;refine Qn Qv ?_ ?_;refine Za T.Ot ?_;refine Qa (i:=0);refine Qn Q4 ?_ ?_;refine Za T.Kr ?_;refine Qa (i:=0);refine Qa (i:=1);refine Qb ?_ ?_;refine Za T.xj ?_;refine Qa (i:=0);refine Qb ?_ ?_;refine Qn Qv ?_ ?_;refine Za T.zh ?_;refine Qa (i:=0);refine Qn Q4 ?_ ?_;refine Za T.Gu ?_;refine Qa (i:=0);refine Qa (i:=1);refine Qh;refine Qe
theorem Wn:FnScope ["self","turn"] ["self","turn"] (defScope Zn):=⟨rfl,rfl,rfl,by decide +kernel,rfl,by decide +kernel,by decide +kernel⟩
theorem Nl {P:Program} {w:World} {K:PySem.W.Frag} {mg:Str→Option Value} {base:Heap} (F:∃fd,FunD K "place_at" "StrandLine.place_at" (defArgs Zn) (defBody Zn) (defScope Zn) [] [] (maA K "StrandLine" "place_at") fd) (T:Txt P K mg):FnM P w K mg base 1 "StrandLine" "place_at" 2 Xe:=by
 have nd:=Wn.nd;refine Oo (P:=P) (w:=w) (K:=K) (mg:=mg) (base:=base) (C:="StrandLine") (m:="place_at") (x:="place_at") (qual:="StrandLine.place_at") (st:=Zn) (N:=["self","turn"]) (ps:=["self","turn"]) (k:=0) (body:=Xh) F Wn (fun _ _ _ _ _ _ us hl=>match us,hl with | [_,_],_=>rfl) (fun cdv A outer s H E hr=>?_);unfold Xh;refine Qc ?_ ?_;refine Qx ?_;refine Qn Qv ?_ ?_;refine Za T.zg ?_;refine Qa (i:=0);refine Qn Q4 ?_ ?_;refine Za T.Gr ?_;refine Qa (i:=0);refine Qa (i:=1);refine Qe
theorem Nb:FnScope ["strand","begin","step","count"] ["strand"] (defScope Xq):=⟨rfl,rfl,rfl,by decide +kernel,rfl,by decide +kernel,by decide +kernel⟩
theorem Fu {P:Program} {w:World} {K:PySem.W.Frag} {mg:Str→Option Value} {base:Heap} (F:FnF K "strand_turned" Xq) (T:Txt P K mg):FnB P w K mg base 1 "strand_turned" ["strand"] J3:=by
 have nd:=Nb.nd;refine Zr (P:=P) (w:=w) (K:=K) (mg:=mg) (base:=base) (x:="strand_turned") (st:=Xq) (N:=["strand","begin","step","count"]) (ps:=["strand"]) (k:=0) (body:=Wb) F T.Oh Nb (fun _ _ _ _ _ _ us hl=>match us,hl with | [_],_=>rfl) (fun cdv A outer s H E hr=>?_);unfold Wb;refine Qc ?_ ?_;refine Od (js:=([1]++([2]++([3]++[])))) ?_ ?_;refine Qa (i:=0);refine C6 rfl ?_;refine Zp ?_ ?_;refine Q8 (i:=1) nd;refine Zp ?_ ?_;refine Q8 (i:=2) nd;refine Zp ?_ ?_;refine Q8 (i:=3) nd;refine Pd;refine Qc ?_ ?_;refine Qx ?_;refine Zz ?_;refine Qb ?_ ?_;refine Qn Qv ?_ ?_;refine Qa (i:=1);refine Qn Q4 ?_ ?_;refine Qa (i:=2);refine Qn Zq ?_ ?_;refine Qa (i:=3);refine Qf;refine Qb ?_ ?_;refine U3 Ju ?_;refine Qa (i:=2);refine Qb ?_ ?_;refine Qa (i:=3);refine Qh;refine Qe
theorem T3:FnScope ["strand","k","i","begin","step","count"] ["strand","k","i"] (defScope Vc):=⟨rfl,rfl,rfl,by decide +kernel,rfl,by decide +kernel,by decide +kernel⟩
theorem I0 {P:Program} {w:World} {K:PySem.W.Frag} {mg:Str→Option Value} {base:Heap} (F:FnF K "strand_each" Vc) (T:Txt P K mg):FnB P w K mg base 1 "strand_each" ["strand","k","i"] Vk:=by
 have nd:=T3.nd;refine Zr (P:=P) (w:=w) (K:=K) (mg:=mg) (base:=base) (x:="strand_each") (st:=Vc) (N:=["strand","k","i","begin","step","count"]) (ps:=["strand","k","i"]) (k:=0) (body:=U6) F T.qt T3 (fun _ _ _ _ _ _ us hl=>match us,hl with | [_,_,_],_=>rfl) (fun cdv A outer s H E hr=>?_);unfold U6;refine Qc ?_ ?_;refine Od (js:=([3]++([4]++([5]++[])))) ?_ ?_;refine Qa (i:=0);refine C6 rfl ?_;refine Zp ?_ ?_;refine Q8 (i:=3) nd;refine Zp ?_ ?_;refine Q8 (i:=4) nd;refine Zp ?_ ?_;refine Q8 (i:=5) nd;refine Pd;refine Qc ?_ ?_;refine Z1 ?_ ?_ ?_;refine Q7 qeX ?_ ?_;refine Qa (i:=2);refine Qa (i:=5);refine Qc ?_ ?_;refine Qx ?_;refine Fe;refine Qe;refine Qe;refine Qc ?_ ?_;refine Qx ?_;refine Zz ?_;refine Qb ?_ ?_;refine Qn Qv ?_ ?_;refine Qa (i:=3);refine Qn Q4 ?_ ?_;refine Qa (i:=4);refine Qa (i:=2);refine Qb ?_ ?_;refine Qn Q4 ?_ ?_;refine Qa (i:=4);refine Qa (i:=1);refine Qb ?_ ?_;refine Qn V8 ?_ ?_;refine Qn Zq ?_ ?_;refine Qn Qv ?_ ?_;refine Qn Zq ?_ ?_;refine Qa (i:=5);refine Qa (i:=2);refine Qa (i:=1);refine Qf;refine Qa (i:=1);refine Qh;refine Qe
theorem Cj:FnScope ["strand","begin","end","first","step","count"] ["strand","begin","end"] (defScope Jg):=⟨rfl,rfl,rfl,by decide +kernel,rfl,by decide +kernel,by decide +kernel⟩
theorem Ez {P:Program} {w:World} {K:PySem.W.Frag} {mg:Str→Option Value} {base:Heap} (F:qpe K "strand_cut" Jg [] [("begin",(.int 0)),("end",.non)]) (T:Txt P K mg):FnK P w K mg base 1 "strand_cut" Jg [] [("begin",(.int 0)),("end",.non)] ["strand","begin","end"] Kl:=by
 have nd:=Cj.nd;refine qfn (P:=P) (w:=w) (K:=K) (mg:=mg) (base:=base) (x:="strand_cut") (st:=Jg) (dvs:=[]) (kws:=[("begin",(.int 0)),("end",.non)]) (N:=["strand","begin","end","first","step","count"]) (ps:=["strand","begin","end"]) (k:=0) (body:=Gw) F T.j5 Cj (fun cdv A outer s H E hr=>?_);unfold Gw;refine Qc ?_ ?_;refine Od (js:=([3]++([4]++([5]++[])))) ?_ ?_;refine Qa (i:=0);refine C6 rfl ?_;refine Zp ?_ ?_;refine Q8 (i:=3) nd;refine Zp ?_ ?_;refine Q8 (i:=4) nd;refine Zp ?_ ?_;refine Q8 (i:=5) nd;refine Pd;refine Qc ?_ ?_;refine Z1 ?_ ?_ ?_;refine Q7 qeW ?_ ?_;refine Qa (i:=2);refine Fe;refine Qc ?_ ?_;refine Qu (i:=2) nd ?_;refine Qa (i:=5);refine Qe;refine Qe;refine Qc ?_ ?_;refine Z1 ?_ ?_ ?_;refine x8 ?_;refine Tt ?_ ?_;refine Q7 Rb ?_ ?_;refine Qa (i:=1);refine Qf;refine Pu (op:=?_);refine Q7 Ng ?_ ?_;refine Qa (i:=1);refine Qa (i:=5);refine Qc ?_ ?_;refine U1 T.Tf.txt rfl hr (takes_of rfl rfl rfl rfl) ?_;refine Qb ?_ ?_;refine Qa (i:=1);refine Qh;refine Qe;refine Qe;refine Qc ?_ ?_;refine Z1 ?_ ?_ ?_;refine x8 ?_;refine Tt ?_ ?_;refine Q7 Rb ?_ ?_;refine Qa (i:=2);refine Qa (i:=1);refine Pu (op:=?_);refine Q7 Ng ?_ ?_;refine Qa (i:=2);refine Qa (i:=5);refine Qc ?_ ?_;refine U1 T.Tf.txt rfl hr (takes_of rfl rfl rfl rfl) ?_;refine Qb ?_ ?_;refine Qa (i:=2);refine Qh;refine Qe;refine Qe;refine Qc ?_ ?_;refine Z1 ?_ ?_ ?_;refine Q7 (Zl hr.units) ?_ ?_;refine Qa (i:=1);refine Qa (i:=2);refine Qc ?_ ?_;refine Qx ?_;refine Fe;refine Qe;refine Qe;refine Qc ?_ ?_;refine Qx ?_;refine Zz ?_;refine Qb ?_ ?_;refine Qn Qv ?_ ?_;refine Qa (i:=3);refine Qn Q4 ?_ ?_;refine Qa (i:=4);refine Qa (i:=1);refine Qb ?_ ?_;refine Qa (i:=4);refine Qb ?_ ?_;refine Qn Zq ?_ ?_;refine Qa (i:=2);refine Qa (i:=1);refine Qh;refine Qe
theorem Lm:FnScope ["row","strand"] ["row"] (defScope Wt):=⟨rfl,rfl,rfl,by decide +kernel,rfl,by decide +kernel,by decide +kernel⟩
theorem yl {P:Program} {w:World} {K:PySem.W.Frag} {mg:Str→Option Value} {base:Heap} (F:FnF K "row_size" Wt) (T:Txt P K mg):FnB P w K mg base 1 "row_size" ["row"] Vl:=by
 have nd:=Lm.nd;refine Zr (P:=P) (w:=w) (K:=K) (mg:=mg) (base:=base) (x:="row_size") (st:=Wt) (N:=["row","strand"]) (ps:=["row"]) (k:=0) (body:=Th) F T.qbf Lm (fun _ _ _ _ _ _ us hl=>match us,hl with | [_],_=>rfl) (fun cdv A outer s H E hr=>?_);unfold Th;refine Qc ?_ ?_;refine Qx ?_;refine Vr (qdo rfl) T.qkF qfu ?_;refine Qb ?_ ?_;refine qaz ?_;refine qeu rfl nd (own:=[("strand",1)]) ?_ ?_ (fun _ _ _ _ _=>?_) (Uy 1) (by decide) (fun _ _ _ _ _=>?_);refine Kq ?_;refine Qa (i:=0);refine blkOk_by (N:=["row","strand"]) (sc:=defScope Wt) (own:=[("strand",1)]) (by decide +kernel);refine pg_name (i:=1) nd rfl (by first | exact .inl rfl | exact .inr rfl);refine Qp ?_ ?_;refine Qa (i:=1);refine Qf;refine Qh;refine Qe
theorem Ci:FnScope ["part","size","few"] ["part","size"] (defScope Kg):=⟨rfl,rfl,rfl,by decide +kernel,rfl,by decide +kernel,by decide +kernel⟩
theorem Ey {P:Program} {w:World} {K:PySem.W.Frag} {mg:Str→Option Value} {base:Heap} (F:FnF K "stretch_of" Kg) (T:Txt P K mg):FnB P w K mg base 1 "stretch_of" ["part","size"] Kk:=by
 have nd:=Ci.nd;refine Zr (P:=P) (w:=w) (K:=K) (mg:=mg) (base:=base) (x:="stretch_of") (st:=Kg) (N:=["part","size","few"]) (ps:=["part","size"]) (k:=0) (body:=Gv) F T.j4 Ci (fun _ _ _ _ _ _ us hl=>match us,hl with | [_,_],_=>rfl) (fun cdv A outer s H E hr=>?_);unfold Gv;refine Qc ?_ ?_;refine Z1 ?_ ?_ ?_;refine Q7 (Zl hr.units) ?_ ?_;refine Qp ?_ ?_;refine Qa (i:=0);refine Qf;refine Z8;refine Qc ?_ ?_;refine Qx ?_;refine Zz ?_;refine Qb ?_ ?_;refine Qn V8 ?_ ?_;refine Qn Q4 ?_ ?_;refine Qp ?_ ?_;refine Qa (i:=0);refine Qf;refine Qa (i:=1);refine Qp ?_ ?_;refine Qa (i:=0);refine Qf;refine Qb ?_ ?_;refine Qn V8 ?_ ?_;refine Qn Q4 ?_ ?_;refine Qn Qv ?_ ?_;refine Qp ?_ ?_;refine Qa (i:=0);refine Qf;refine Qf;refine Qa (i:=1);refine Qp ?_ ?_;refine Qa (i:=0);refine Qf;refine Qh;refine Qe;refine Qe;refine Qc ?_ ?_;refine Qu (i:=2) nd ?_;refine Vr (Tp rfl) T.vx O1 ?_;refine Qb ?_ ?_;refine Qp ?_ ?_;refine Qa (i:=0);refine Qf;refine Qb ?_ ?_;refine Qa (i:=1);refine Qh;refine Qc ?_ ?_;refine qo ?_ ?_;refine Qp ?_ ?_;refine Qa (i:=0);refine Qf;refine Sb hr.units ?_ ?_;refine Qc ?_ ?_;refine Qx ?_;refine Zz ?_;refine Qb ?_ ?_;refine Qf;refine Qb ?_ ?_;refine Qa (i:=2);refine Qh;refine Qe;refine Sb hr.units ?_ ?_;refine Qc ?_ ?_;refine Qx ?_;refine Zz ?_;refine Qb ?_ ?_;refine Qa (i:=2);refine Qb ?_ ?_;refine Qa (i:=1);refine Qh;refine Qe;refine Sb hr.units ?_ ?_;refine Qc ?_ ?_;refine Qx ?_;refine Zz ?_;refine Qb ?_ ?_;refine Qn Zq ?_ ?_;refine Qa (i:=1);refine Qa (i:=2);refine Qb ?_ ?_;refine Qa (i:=1);refine Qh;refine Qe;refine qcN ?_;refine Qc ?_ ?_;refine Qx ?_;refine Zz ?_;refine Qb ?_ ?_;refine Qf;refine Qb ?_ ?_;refine Qn Zq ?_ ?_;refine Qa (i:=1);refine Qa (i:=2);refine Qh;refine Qe;refine Qe
theorem B0:FnScope ["length"] ["length"] (defScope Ws):=⟨rfl,rfl,rfl,by decide +kernel,rfl,by decide +kernel,by decide +kernel⟩
theorem ji {P:Program} {w:World} {K:PySem.W.Frag} {mg:Str→Option Value} {base:Heap} (F:FnF K "whole_row" Ws) (T:Txt P K mg):FnB P w K mg base 1 "whole_row" ["length"] W5:=by
 have nd:=B0.nd;refine Zr (P:=P) (w:=w) (K:=K) (mg:=mg) (base:=base) (x:="whole_row") (st:=Ws) (N:=["length"]) (ps:=["length"]) (k:=0) (body:=Mm) F T.y6 B0 (fun _ _ _ _ _ _ us hl=>match us,hl with | [_],_=>rfl) (fun cdv A outer s H E hr=>?_);unfold Mm;refine Qc ?_ ?_;refine Z1 ?_ ?_ ?_;refine Q7 Rb ?_ ?_;refine Qa (i:=0);refine Qf;refine Qc ?_ ?_;refine U1 T.Ua.txt rfl hr (takes_of rfl rfl rfl rfl) ?_;refine Qb ?_ ?_;refine Qa (i:=0);refine Qh;refine Qe;refine Qe;refine Qc ?_ ?_;refine Z1 ?_ ?_ ?_;refine Q7 (Zl hr.units) ?_ ?_;refine Qa (i:=0);refine Qf;refine Qc ?_ ?_;refine Qx ?_;refine Zz ?_;refine Qh;refine Qe;refine Qe;refine Qc ?_ ?_;refine Qx ?_;refine Zz ?_;refine Qb ?_ ?_;refine Zz ?_;refine Qb ?_ ?_;refine Qf;refine Qb ?_ ?_;refine Qf;refine Qb ?_ ?_;refine Qa (i:=0);refine Qh;refine Qh;refine Qe
theorem Cp:FnScope ["self"] ["self"] (defScope Xy):=⟨rfl,rfl,rfl,by decide +kernel,rfl,by decide +kernel,by decide +kernel⟩
theorem E6 {P:Program} {w:World} {K:PySem.W.Frag} {mg:Str→Option Value} {base:Heap} (F:∃fd,FunD K "parts" "Feed.parts" (defArgs Xy) (defBody Xy) (defScope Xy) [] [] (pgA K "Feed" "parts") fd) (T:Txt P K mg):FnP P w K mg base 1 "Feed" "parts" 1 N9:=by
 have nd:=Cp.nd;refine qfm (P:=P) (w:=w) (K:=K) (mg:=mg) (base:=base) (C:="Feed") (m:="parts") (x:="parts") (qual:="Feed.parts") (st:=Xy) (N:=["self"]) (ps:=["self"]) (k:=0) (body:=G7) F Cp (fun _ _ _ _ _ _ us hl=>match us,hl with | [_],_=>rfl) (fun cdv A outer s H E hr=>?_);unfold G7;refine Qc ?_ ?_;refine Qx ?_;refine Za T.zi ?_;refine Qa (i:=0);refine Qe
theorem T5:FnScope ["_law_script","_law_numbers_here","_law_place","_law_cell","_law_rest","_law_turn_here","_law_mixed"] ["_law_script"] (defScope Ve):=⟨rfl,rfl,rfl,by decide +kernel,rfl,by decide +kernel,by decide +kernel⟩
theorem I9 {P:Program} {w:World} {K:PySem.W.Frag} {mg:Str→Option Value} {base:Heap} (F:FnF K "_law_stream" Ve) (T:Txt P K mg):FnB P w K mg base 1 "_law_stream" ["_law_script"] Vn:=by
 have nd:=T5.nd;refine Zr (P:=P) (w:=w) (K:=K) (mg:=mg) (base:=base) (x:="_law_stream") (st:=Ve) (N:=["_law_script","_law_numbers_here","_law_place","_law_cell","_law_rest","_law_turn_here","_law_mixed"]) (ps:=["_law_script"]) (k:=0) (body:=U8) F T.qy T5 (fun _ _ _ _ _ _ us hl=>match us,hl with | [_],_=>rfl) (fun cdv A outer s H E hr=>?_);unfold U8;refine Qc ?_ ?_;refine Kf (i:=1) nd ?_;refine Ys ?_;refine Qh;refine Qc ?_ ?_;refine Yr (js:=[2]) (passes_of rfl) rfl ?_ ?_ ?_;refine Pc T.Ph ?_;refine Qb ?_ ?_;refine Vr (Tp rfl) T.vx O1 ?_;refine Qb ?_ ?_;refine Vr Y8 T.Ro Uq ?_;refine Qb ?_ ?_;refine Qa (i:=0);refine Qh;refine Qb ?_ ?_;refine Qf;refine Qh;refine Qh;refine Q8 (i:=2) nd;refine Yq (js:=[2,3,4]) ?_;refine Qc ?_ ?_;refine Qu (i:=3) nd ?_;refine Tu Pf T.O8 Rn ?_;refine Qb ?_ ?_;refine Qp ?_ ?_;refine Qa (i:=0);refine Qa (i:=2);refine Qh;refine Qc ?_ ?_;refine Qu (i:=4) nd ?_;refine Vr qhh T.qo8 qkD ?_;refine Qb ?_ ?_;refine Qa (i:=3);refine Qh;refine Qc ?_ ?_;refine qes (js:=[4]) ?_;refine Z1 ?_ ?_ ?_;refine x8 ?_;refine qcI ?_ ?_;refine Q7 qeX ?_ ?_;refine Qa (i:=3);refine Qf;refine yy (op:=?_);refine Q7 Rb ?_ ?_;refine Qa (i:=3);refine Qn qgf ?_ ?_;refine Qf;refine Qf;refine Qc ?_ ?_;refine Yr (js:=[5]) (passes_of rfl) rfl ?_ ?_ ?_;refine Pc T.Ph ?_;refine Qb ?_ ?_;refine Qf;refine Qh;refine Q8 (i:=5) nd;refine Yq (js:=[5,6]) ?_;refine Qc ?_ ?_;refine Qu (i:=6) nd ?_;refine Qn Pb ?_ ?_;refine Tu Pf T.O8 Rn ?_;refine Qb ?_ ?_;refine Qn Q4 ?_ ?_;refine Qn Qv ?_ ?_;refine Qa (i:=3);refine Qf;refine Qn Qv ?_ ?_;refine Qn Qv ?_ ?_;refine Qf;refine Qn Q4 ?_ ?_;refine Qf;refine Qa (i:=2);refine Qn Q4 ?_ ?_;refine Qf;refine Qa (i:=5);refine Qh;refine Qf;refine Qc ?_ ?_;refine Jw ?_;refine V1 (i:=1) ?_;refine Qn Pb ?_ ?_;refine Tu Pf T.O8 Rn ?_;refine Qb ?_ ?_;refine Qn Q4 ?_ ?_;refine Qa (i:=6);refine Qa (i:=6);refine Qh;refine Qf;refine Qe;refine Qe;refine Qc ?_ ?_;refine Yr (js:=[5]) (passes_of rfl) rfl ?_ ?_ ?_;refine Pc T.Ph ?_;refine Qb ?_ ?_;refine Qf;refine Qh;refine Q8 (i:=5) nd;refine Yq (js:=[5]) ?_;refine Qc ?_ ?_;refine Z1 ?_ ?_ ?_;refine Q7 Ng ?_ ?_;refine Qa (i:=4);refine Qf;refine Qc ?_ ?_;refine Jw ?_;refine V1 (i:=1) ?_;refine Qn Pb ?_ ?_;refine Tu Pf T.O8 Rn ?_;refine Qb ?_ ?_;refine Qa (i:=4);refine Qh;refine Qf;refine Qc ?_ ?_;refine Qu (i:=4) nd ?_;refine Qn V8 ?_ ?_;refine Qa (i:=4);refine Qf;refine Qe;refine Qe;refine Qe;refine Qe;refine Qe;refine Qc ?_ ?_;refine qcK ?_;refine qjz ?_ ?_ ?_ ?_;refine Qa (i:=1);refine qcL;refine qcL;refine yz ?_;refine U3 Ju ?_;refine Qf;refine Qe
theorem B9:FnScope ["_law_stream_here","_law_many"] ["_law_stream_here","_law_many"] (defScope W3):=⟨rfl,rfl,rfl,by decide +kernel,rfl,by decide +kernel,by decide +kernel⟩
theorem jr {P:Program} {w:World} {K:PySem.W.Frag} {mg:Str→Option Value} {base:Heap} (F:FnF K "_law_draw" W3) (T:Txt P K mg):FnB P w K mg base 1 "_law_draw" ["_law_stream_here","_law_many"] Qm:=by
 have nd:=B9.nd;refine Zr (P:=P) (w:=w) (K:=K) (mg:=mg) (base:=base) (x:="_law_draw") (st:=W3) (N:=["_law_stream_here","_law_many"]) (ps:=["_law_stream_here","_law_many"]) (k:=0) (body:=Mv) F T.vg B9 (fun _ _ _ _ _ _ us hl=>match us,hl with | [_,_],_=>rfl) (fun cdv A outer s H E hr=>?_);unfold Mv;refine Qc ?_ ?_;refine Z1 ?_ ?_ ?_;refine Q7 (Zl hr.units) ?_ ?_;refine Vr Y8 T.Ro Uq ?_;refine Qb ?_ ?_;refine Qa (i:=0);refine Qh;refine Qf;refine Qc ?_ ?_;refine Qx ?_;refine Qf;refine Qe;refine Qe;refine Qc ?_ ?_;refine Qx ?_;refine Qn Pb ?_ ?_;refine Tu Pf T.O8 Rn ?_;refine Qb ?_ ?_;refine A7 (i:=0);refine Qh;refine Qa (i:=1);refine Qe
theorem T8:FnScope ["_law_code_here","_law_arms"] ["_law_code_here","_law_arms"] (defScope Vh):=⟨rfl,rfl,rfl,by decide +kernel,rfl,by decide +kernel,by decide +kernel⟩
theorem Ac {P:Program} {w:World} {K:PySem.W.Frag} {mg:Str→Option Value} {base:Heap} (F:FnF K "_law_onward" Vh) (T:Txt P K mg):FnB P w K mg base 1 "_law_onward" ["_law_code_here","_law_arms"] Jv:=by
 have nd:=T8.nd;refine Zr (P:=P) (w:=w) (K:=K) (mg:=mg) (base:=base) (x:="_law_onward") (st:=Vh) (N:=["_law_code_here","_law_arms"]) (ps:=["_law_code_here","_law_arms"]) (k:=0) (body:=Wd) F T.zd T8 (fun _ _ _ _ _ _ us hl=>match us,hl with | [_,_],_=>rfl) (fun cdv A outer s H E hr=>?_);unfold Wd;refine Qc ?_ ?_;refine Z1 ?_ ?_ ?_;refine x8 ?_;refine Tt ?_ ?_;refine Q7 (Zl hr.units) ?_ ?_;refine Qp ?_ ?_;refine Qp ?_ ?_;refine Qa (i:=0);refine U3 Ju ?_;refine Qf;refine Qf;refine Z8;refine Pu (op:=?_);refine Q7 (Zl hr.units) ?_ ?_;refine Qp ?_ ?_;refine Qp ?_ ?_;refine Qa (i:=0);refine U3 Ju ?_;refine Qf;refine Qf;refine Z8;refine Qc ?_ ?_;refine Jw ?_;refine V1 (i:=0) ?_;refine Zz ?_;refine Qb ?_ ?_;refine Z8;refine Qh;refine Qe;refine Qe;refine Qc ?_ ?_;refine Z1 ?_ ?_ ?_;refine Q7 (Zl hr.units) ?_ ?_;refine Qp ?_ ?_;refine Qa (i:=1);refine U3 Ju ?_;refine Qf;refine Qf;refine Qc ?_ ?_;refine Jw ?_;refine V1 (i:=0) ?_;refine Zz ?_;refine Qb ?_ ?_;refine Z8;refine Qh;refine Qc ?_ ?_;refine Oc (i:=1) ?_ ?_;refine Qf;refine U3 Ju ?_;refine Qf;refine Qe;refine Qc ?_ ?_;refine Jw ?_;refine V1 (i:=0) ?_;refine Zz ?_;refine Qb ?_ ?_;refine Z8;refine Qh;refine Qc ?_ ?_;refine Jw ?_;refine A7 (i:=1);refine Qe;refine Qe
theorem Co:FnScope ["_law_code_here","_law_rows","_law_token","_law_right","_law_left"] ["_law_code_here"] (defScope Kj):=⟨rfl,rfl,rfl,by decide +kernel,rfl,by decide +kernel,by decide +kernel⟩
theorem E5 {P:Program} {w:World} {K:PySem.W.Frag} {mg:Str→Option Value} {base:Heap} (F:FnF K "_law_parts" Kj) (T:Txt P K mg):FnB P w K mg base 1 "_law_parts" ["_law_code_here"] Kn:=by
 have nd:=Co.nd;refine Zr (P:=P) (w:=w) (K:=K) (mg:=mg) (base:=base) (x:="_law_parts") (st:=Kj) (N:=["_law_code_here","_law_rows","_law_token","_law_right","_law_left"]) (ps:=["_law_code_here"]) (k:=0) (body:=G6) F T.j9 Co (fun _ _ _ _ _ _ us hl=>match us,hl with | [_],_=>rfl) (fun cdv A outer s H E hr=>?_);unfold G6;refine qer (i:=1) nd ?_;refine U2 ?_ ?_;refine qjv (js:=[2]) (passes_of rfl) rfl ?_ ?_ ?_;refine Kq ?_;refine Qa (i:=0);refine Q8 (i:=2) nd;refine qjs (js:=[2]) ?_;refine U2 ?_ ?_;refine qju ?_ ?_ ?_;refine x8 ?_;refine Tt ?_ ?_;refine Q7 (Zl hr.units) ?_ ?_;refine Qp ?_ ?_;refine Qa (i:=2);refine Qf;refine Z8;refine Pu (op:=?_);refine Q7 (Zl hr.units) ?_ ?_;refine Qp ?_ ?_;refine Qa (i:=2);refine Qf;refine Z8;refine U2 ?_ ?_;refine qgF (i:=1);refine Bf;refine U2 ?_ ?_;refine qn7 (js:=[3,4]) ?_;refine qju ?_ ?_ ?_;refine Q7 (Zl hr.units) ?_ ?_;refine Qp ?_ ?_;refine Qa (i:=2);refine Qf;refine Z8;refine U2 ?_ ?_;refine qcM (i:=1) (j:=3) nd T.H7;refine U2 ?_ ?_;refine qcM (i:=1) (j:=4) nd T.H7;refine U2 ?_ ?_;refine qfa (i:=1) ?_ ?_;refine U3 Ju ?_;refine Qf;refine Zz ?_;refine Qb ?_ ?_;refine Z8;refine Qb ?_ ?_;refine Qa (i:=4);refine Qb ?_ ?_;refine Qa (i:=3);refine Qh;refine Bf;refine U2 ?_ ?_;refine qfa (i:=1) ?_ ?_;refine U3 Ju ?_;refine Qf;refine Qa (i:=2);refine Bf;refine Bf;refine Bf;refine U2 ?_ ?_;refine qjt (i:=1) T.H7 ?_;refine Qf;refine Bf
theorem Nd:FnScope ["_law_one","_law_other","_law_high","_law_low","_law_turn_here","_law_rest"] ["_law_one","_law_other"] (defScope Xr):=⟨rfl,rfl,rfl,by decide +kernel,rfl,by decide +kernel,by decide +kernel⟩
theorem Fx {P:Program} {w:World} {K:PySem.W.Frag} {mg:Str→Option Value} {base:Heap} (F:FnF K "_law_multiple" Xr) (T:Txt P K mg):FnB P w K mg base 1 "_law_multiple" ["_law_one","_law_other"] Qt:=by
 have nd:=Nd.nd;refine Zr (P:=P) (w:=w) (K:=K) (mg:=mg) (base:=base) (x:="_law_multiple") (st:=Xr) (N:=["_law_one","_law_other","_law_high","_law_low","_law_turn_here","_law_rest"]) (ps:=["_law_one","_law_other"]) (k:=0) (body:=We) F T.Oj Nd (fun _ _ _ _ _ _ us hl=>match us,hl with | [_,_],_=>rfl) (fun cdv A outer s H E hr=>?_);unfold We;refine Qc ?_ ?_;refine Qu (i:=2) nd ?_;refine Qa (i:=0);refine Qc ?_ ?_;refine Qu (i:=3) nd ?_;refine Qa (i:=1);refine Qc ?_ ?_;refine Yr (js:=[4]) (passes_of rfl) rfl ?_ ?_ ?_;refine Pc T.Ph ?_;refine Qb ?_ ?_;refine Qf;refine Qh;refine Q8 (i:=4) nd;refine Yq (js:=[4,5]) ?_;refine Qc ?_ ?_;refine Z1 ?_ ?_ ?_;refine Q7 (Zl hr.units) ?_ ?_;refine Qa (i:=3);refine Qf;refine Qc ?_ ?_;refine qjq;refine Qe;refine Qe;refine Qc ?_ ?_;refine Qu (i:=5) nd ?_;refine Qn Pb ?_ ?_;refine Tu Pf T.O8 Rn ?_;refine Qb ?_ ?_;refine Qa (i:=2);refine Qh;refine Qa (i:=3);refine Qc ?_ ?_;refine Qu (i:=2) nd ?_;refine Qa (i:=3);refine Qc ?_ ?_;refine Qu (i:=3) nd ?_;refine Qa (i:=5);refine Qe;refine Qc ?_ ?_;refine Qx ?_;refine Qn Q4 ?_ ?_;refine Qn V8 ?_ ?_;refine Qa (i:=0);refine Qa (i:=2);refine Qa (i:=1);refine Qe
theorem B7:FnScope ["_law_row_here","_law_k","_law_i","_law_made_here","_law_ahead","_law_b","_law_s","_law_c","_law_first"] ["_law_row_here","_law_k","_law_i"] (defScope W2):=⟨rfl,rfl,rfl,by decide +kernel,rfl,by decide +kernel,by decide +kernel⟩
theorem jq {P:Program} {w:World} {K:PySem.W.Frag} {mg:Str→Option Value} {base:Heap} (F:FnF K "_law_each" W2) (T:Txt P K mg):FnB P w K mg base 1 "_law_each" ["_law_row_here","_law_k","_law_i"] W7:=by
 have nd:=B7.nd;refine Zr (P:=P) (w:=w) (K:=K) (mg:=mg) (base:=base) (x:="_law_each") (st:=W2) (N:=["_law_row_here","_law_k","_law_i","_law_made_here","_law_ahead","_law_b","_law_s","_law_c","_law_first"]) (ps:=["_law_row_here","_law_k","_law_i"]) (k:=0) (body:=Mu) F T.vf B7 (fun _ _ _ _ _ _ us hl=>match us,hl with | [_,_,_],_=>rfl) (fun cdv A outer s H E hr=>?_);unfold Mu;refine Qc ?_ ?_;refine Kf (i:=3) nd ?_;refine Ys ?_;refine Qh;refine Qc ?_ ?_;refine Qu (i:=4) nd ?_;refine Qf;refine Qc ?_ ?_;refine Yr (js:=([5]++([6]++([7]++[])))) (passes_of rfl) rfl ?_ ?_ ?_;refine Kq ?_;refine Qa (i:=0);refine C6 rfl ?_;refine Zp ?_ ?_;refine Q8 (i:=5) nd;refine Zp ?_ ?_;refine Q8 (i:=6) nd;refine Zp ?_ ?_;refine Q8 (i:=7) nd;refine Pd;refine Yq (js:=[5,6,7,8]) ?_;refine Qc ?_ ?_;refine Qu (i:=8) nd ?_;refine Qn Pb ?_ ?_;refine Tu Pf T.O8 Rn ?_;refine Qb ?_ ?_;refine Qn Zq ?_ ?_;refine Qa (i:=2);refine Qa (i:=4);refine Qh;refine Qa (i:=1);refine Qc ?_ ?_;refine Z1 ?_ ?_ ?_;refine Q7 Rb ?_ ?_;refine Qa (i:=8);refine Qa (i:=7);refine Qc ?_ ?_;refine Jw ?_;refine V1 (i:=3) ?_;refine Zz ?_;refine Qb ?_ ?_;refine Qn Qv ?_ ?_;refine Qa (i:=5);refine Qn Q4 ?_ ?_;refine Qa (i:=6);refine Qa (i:=8);refine Qb ?_ ?_;refine Qn Q4 ?_ ?_;refine Qa (i:=6);refine Qa (i:=1);refine Qb ?_ ?_;refine Qn Qv ?_ ?_;refine Qf;refine Qn V8 ?_ ?_;refine Qn Zq ?_ ?_;refine Qn Zq ?_ ?_;refine Qa (i:=7);refine Qf;refine Qa (i:=8);refine Qa (i:=1);refine Qh;refine Qe;refine Qe;refine Qc ?_ ?_;refine Qu (i:=4) nd ?_;refine Qn Qv ?_ ?_;refine Qa (i:=4);refine Qa (i:=7);refine Qe;refine Qc ?_ ?_;refine Qx ?_;refine Tu Py T.H7 Uj ?_;refine Qb ?_ ?_;refine Qa (i:=3);refine Qh;refine Qe
theorem Lq:FnScope ["_law_row_here","_law_low","_law_high","_law_made_here","_law_ahead","_law_b","_law_s","_law_c","_law_first","_law_last"] ["_law_row_here","_law_low","_law_high"] (defScope Hl):=⟨rfl,rfl,rfl,by decide +kernel,rfl,by decide +kernel,by decide +kernel⟩
theorem yq {P:Program} {w:World} {K:PySem.W.Frag} {mg:Str→Option Value} {base:Heap} (F:FnF K "_law_cut" Hl) (T:Txt P K mg):FnB P w K mg base 1 "_law_cut" ["_law_row_here","_law_low","_law_high"] Hn:=by
 have nd:=Lq.nd;refine Zr (P:=P) (w:=w) (K:=K) (mg:=mg) (base:=base) (x:="_law_cut") (st:=Hl) (N:=["_law_row_here","_law_low","_law_high","_law_made_here","_law_ahead","_law_b","_law_s","_law_c","_law_first","_law_last"]) (ps:=["_law_row_here","_law_low","_law_high"]) (k:=0) (body:=Tn) F T.qbi Lq (fun _ _ _ _ _ _ us hl=>match us,hl with | [_,_,_],_=>rfl) (fun cdv A outer s H E hr=>?_);unfold Tn;refine Qc ?_ ?_;refine Kf (i:=3) nd ?_;refine Ys ?_;refine Qh;refine Qc ?_ ?_;refine Qu (i:=4) nd ?_;refine Qf;refine Qc ?_ ?_;refine Yr (js:=([5]++([6]++([7]++[])))) (passes_of rfl) rfl ?_ ?_ ?_;refine Kq ?_;refine Qa (i:=0);refine C6 rfl ?_;refine Zp ?_ ?_;refine Q8 (i:=5) nd;refine Zp ?_ ?_;refine Q8 (i:=6) nd;refine Zp ?_ ?_;refine Q8 (i:=7) nd;refine Pd;refine Yq (js:=[5,6,7,8,9]) ?_;refine Qc ?_ ?_;refine Qu (i:=8) nd ?_;refine Vr (Tq rfl) T.vy O3 ?_;refine Qb ?_ ?_;refine Qn Zq ?_ ?_;refine Qa (i:=1);refine Qa (i:=4);refine Qb ?_ ?_;refine Qf;refine Qh;refine Qc ?_ ?_;refine Qu (i:=9) nd ?_;refine Vr (Tp rfl) T.vx O1 ?_;refine Qb ?_ ?_;refine Qn Zq ?_ ?_;refine Qa (i:=2);refine Qa (i:=4);refine Qb ?_ ?_;refine Qa (i:=7);refine Qh;refine Qc ?_ ?_;refine Z1 ?_ ?_ ?_;refine Q7 Rb ?_ ?_;refine Qa (i:=8);refine Qa (i:=9);refine Qc ?_ ?_;refine Jw ?_;refine V1 (i:=3) ?_;refine Zz ?_;refine Qb ?_ ?_;refine Qn Qv ?_ ?_;refine Qa (i:=5);refine Qn Q4 ?_ ?_;refine Qa (i:=6);refine Qa (i:=8);refine Qb ?_ ?_;refine Qa (i:=6);refine Qb ?_ ?_;refine Qn Zq ?_ ?_;refine Qa (i:=9);refine Qa (i:=8);refine Qh;refine Qe;refine Qe;refine Qc ?_ ?_;refine Qu (i:=4) nd ?_;refine Qn Qv ?_ ?_;refine Qa (i:=4);refine Qa (i:=7);refine Qe;refine Qc ?_ ?_;refine Qx ?_;refine Tu Py T.H7 Uj ?_;refine Qb ?_ ?_;refine Qa (i:=3);refine Qh;refine Qe
theorem Pm:FnScope ["_law_told_here","_law_due"] ["_law_told_here","_law_due"] (defScope Xb):=⟨rfl,rfl,rfl,by decide +kernel,rfl,by decide +kernel,by decide +kernel⟩
theorem D7 {P:Program} {w:World} {K:PySem.W.Frag} {mg:Str→Option Value} {base:Heap} (F:FnF K "_law_is_number" Xb) (T:Txt P K mg):FnB P w K mg base 1 "_law_is_number" ["_law_told_here","_law_due"] Zd:=by
 have nd:=Pm.nd;refine Zr (P:=P) (w:=w) (K:=K) (mg:=mg) (base:=base) (x:="_law_is_number") (st:=Xb) (N:=["_law_told_here","_law_due"]) (ps:=["_law_told_here","_law_due"]) (k:=0) (body:=V9) F T.F0 Pm (fun _ _ _ _ _ _ us hl=>match us,hl with | [_,_],_=>rfl) (fun cdv A outer s H E hr=>?_);unfold V9;refine Qc ?_ ?_;refine Qx ?_;refine jz ?_ ?_;refine jy "int" T.Xj T.O8 Rn qgD ?_;refine Qa (i:=0);refine jz ?_ ?_;refine qjA ?_;refine jy "bool" T.Xj T.qkH qho qen ?_;refine Qa (i:=0);refine qay ?_;refine qcP (Zl hr.units) ?_ ?_;refine Qa (i:=0);refine Qa (i:=1);refine Qe
theorem T6:FnScope ["_law_row_here","_law_starts_here","_law_strand"] ["_law_row_here"] (defScope Vf):=⟨rfl,rfl,rfl,by decide +kernel,rfl,by decide +kernel,by decide +kernel⟩
theorem Aa {P:Program} {w:World} {K:PySem.W.Frag} {mg:Str→Option Value} {base:Heap} (F:FnF K "_law_starts" Vf) (T:Txt P K mg):FnB P w K mg base 1 "_law_starts" ["_law_row_here"] Je:=by
 have nd:=T6.nd;refine Zr (P:=P) (w:=w) (K:=K) (mg:=mg) (base:=base) (x:="_law_starts") (st:=Vf) (N:=["_law_row_here","_law_starts_here","_law_strand"]) (ps:=["_law_row_here"]) (k:=0) (body:=U9) F T.qz T6 (fun _ _ _ _ _ _ us hl=>match us,hl with | [_],_=>rfl) (fun cdv A outer s H E hr=>?_);unfold U9;refine Qc ?_ ?_;refine Kf (i:=1) nd ?_;refine Ys ?_;refine Qb ?_ ?_;refine Qf;refine Qh;refine Qc ?_ ?_;refine Yr (js:=[2]) (passes_of rfl) rfl ?_ ?_ ?_;refine Kq ?_;refine Qa (i:=0);refine Q8 (i:=2) nd;refine Yq (js:=[2]) ?_;refine Qc ?_ ?_;refine Jw ?_;refine V1 (i:=1) ?_;refine Qn Qv ?_ ?_;refine Qp ?_ ?_;refine Qa (i:=1);refine U3 Ju ?_;refine Qf;refine Qp ?_ ?_;refine Qa (i:=2);refine Qf;refine Qe;refine Qc ?_ ?_;refine Qx ?_;refine Qa (i:=1);refine Qe
theorem B3:FnScope ["_law_pairs","_law_length","_law_cycle","_law_most","_law_constants","_law_value","_law_move"] ["_law_pairs","_law_length","_law_cycle","_law_most"] (defScope Ke):=⟨rfl,rfl,rfl,by decide +kernel,rfl,by decide +kernel,by decide +kernel⟩
theorem jl {P:Program} {w:World} {K:PySem.W.Frag} {mg:Str→Option Value} {base:Heap} (F:FnF K "_law_near" Ke) (T:Txt P K mg):FnB P w K mg base 1 "_law_near" ["_law_pairs","_law_length","_law_cycle","_law_most"] Y4:=by
 have nd:=B3.nd;refine Zr (P:=P) (w:=w) (K:=K) (mg:=mg) (base:=base) (x:="_law_near") (st:=Ke) (N:=["_law_pairs","_law_length","_law_cycle","_law_most","_law_constants","_law_value","_law_move"]) (ps:=["_law_pairs","_law_length","_law_cycle","_law_most"]) (k:=0) (body:=Mp) F T.y9 B3 (fun _ _ _ _ _ _ us hl=>match us,hl with | [_,_,_,_],_=>rfl) (fun cdv A outer s H E hr=>?_);unfold Mp;refine Qc ?_ ?_;refine qcJ (i:=4) rfl nd (sw_true rfl rfl rfl (by decide +kernel)) (own:=[("_law_value",5),("_law_move",6)]) ?_ ?_ (fun _ _ _ _ _=>?_) (qcT (Bh (Uy 5) (Bh (Uy 6) qcS))) (by decide) (fun _ _ _ _ _=>?_);refine Kq ?_;refine Qa (i:=0);refine blkOk_by (N:=["_law_pairs","_law_length","_law_cycle","_law_most","_law_constants","_law_value","_law_move"]) (sc:=defScope Ke) (own:=[("_law_value",5),("_law_move",6)]) (by decide +kernel);refine pg_tup rfl (pgs_cons (pg_name (i:=5) nd rfl (by first | exact .inl rfl | exact .inr rfl)) (pgs_cons (pg_name (i:=6) nd rfl (by first | exact .inl rfl | exact .inr rfl)) pgs_nil));refine Qn Zq ?_ ?_;refine Qn Q4 ?_ ?_;refine Qa (i:=5);refine Qa (i:=2);refine Qn Q4 ?_ ?_;refine Qa (i:=6);refine Qa (i:=1);refine Qc ?_ ?_;refine Qx ?_;refine qcP qiG ?_ ?_;refine Qn Zq ?_ ?_;refine Vr (qhg rfl) T.vy O3 ?_;refine Qb ?_ ?_;refine Qa (i:=4);refine Qh;refine Vr (qhf rfl) T.vx O1 ?_;refine Qb ?_ ?_;refine Qa (i:=4);refine Qh;refine Qn Q4 ?_ ?_;refine Qa (i:=3);refine Qa (i:=2);refine Qe
theorem Ck:FnScope ["row","strand"] ["row"] (defScope Yy):=⟨rfl,rfl,rfl,by decide +kernel,rfl,by decide +kernel,by decide +kernel⟩
theorem E1 {P:Program} {w:World} {K:PySem.W.Frag} {mg:Str→Option Value} {base:Heap} (F:FnF K "row_turned" Yy) (T:Txt P K mg) (H9:FnB P w K mg base 1 "strand_turned" ["strand"] J3):FnB P w K mg base 2 "row_turned" ["row"] Km:=by
 have nd:=Ck.nd;refine Zr (P:=P) (w:=w) (K:=K) (mg:=mg) (base:=base) (x:="row_turned") (st:=Yy) (N:=["row","strand"]) (ps:=["row"]) (k:=1) (body:=Gx) F T.j6 Ck (fun _ _ _ _ _ _ us hl=>match us,hl with | [_],_=>rfl) (fun cdv A outer s H E hr=>?_);unfold Gx;refine Qc ?_ ?_;refine Qx ?_;refine Tu Py T.H7 Uj ?_;refine Qb ?_ ?_;refine qaz ?_;refine qeu rfl nd (own:=[("strand",1)]) ?_ ?_ (fun _ _ _ _ _=>?_) (Uy 1) (by decide) (fun _ _ _ _ _=>?_);refine Kq ?_;refine qfb ?_ ?_;refine Qa (i:=0);refine yz ?_;refine U3 Ju ?_;refine Qf;refine blkOk_by (N:=["row","strand"]) (sc:=defScope Yy) (own:=[("strand",1)]) (by decide +kernel);refine pg_name (i:=1) nd rfl (by first | exact .inl rfl | exact .inr rfl);refine Ql (ps:=["strand"]) (R:=J3) H9 (hr.mono (by decide)) takes0 ?_;refine Qb ?_ ?_;refine Qa (i:=1);refine Qh;refine Qh;refine Qe
theorem Lo:FnScope ["row","k","i","found","ahead","strand","some"] ["row","k","i"] (defScope Hi):=⟨rfl,rfl,rfl,by decide +kernel,rfl,by decide +kernel,by decide +kernel⟩
theorem ym {P:Program} {w:World} {K:PySem.W.Frag} {mg:Str→Option Value} {base:Heap} (F:FnF K "row_each" Hi) (T:Txt P K mg) (M5:FnB P w K mg base 1 "strand_each" ["strand","k","i"] Vk):FnB P w K mg base 2 "row_each" ["row","k","i"] Hm:=by
 have nd:=Lo.nd;refine Zr (P:=P) (w:=w) (K:=K) (mg:=mg) (base:=base) (x:="row_each") (st:=Hi) (N:=["row","k","i","found","ahead","strand","some"]) (ps:=["row","k","i"]) (k:=1) (body:=Ti) F T.qbg Lo (fun _ _ _ _ _ _ us hl=>match us,hl with | [_,_,_],_=>rfl) (fun cdv A outer s H E hr=>?_);unfold Ti;refine Qc ?_ ?_;refine Kf (i:=3) nd ?_;refine Ys ?_;refine Qh;refine Qc ?_ ?_;refine Qu (i:=4) nd ?_;refine Qf;refine Qc ?_ ?_;refine Yr (js:=[5]) (passes_of rfl) rfl ?_ ?_ ?_;refine Kq ?_;refine Qa (i:=0);refine Q8 (i:=5) nd;refine Yq (js:=[5,6]) ?_;refine Qc ?_ ?_;refine Qu (i:=6) nd ?_;refine Ql (ps:=["strand","k","i"]) (R:=Vk) M5 (hr.mono (by decide)) (takes_of rfl rfl rfl rfl) ?_;refine Qb ?_ ?_;refine Qa (i:=5);refine Qb ?_ ?_;refine Qa (i:=1);refine Qb ?_ ?_;refine Qn Pb ?_ ?_;refine Qn Zq ?_ ?_;refine Qa (i:=2);refine Qa (i:=4);refine Qa (i:=1);refine Qh;refine Qc ?_ ?_;refine Z1 ?_ ?_ ?_;refine Q7 qcd ?_ ?_;refine Qa (i:=6);refine Fe;refine Qc ?_ ?_;refine Jw ?_;refine V1 (i:=3) ?_;refine Qa (i:=6);refine Qe;refine Qe;refine Qc ?_ ?_;refine A6 (i:=4) nd Bg ?_;refine Qp ?_ ?_;refine Qa (i:=5);refine Qf;refine Qe;refine Qc ?_ ?_;refine Qx ?_;refine Tu Py T.H7 Uj ?_;refine Qb ?_ ?_;refine Qa (i:=3);refine Qh;refine Qe
theorem Ay:FnScope ["row","begin","end","size","found","ahead","strand","low","high"] ["row","begin","end"] (defScope X9):=⟨rfl,rfl,rfl,by decide +kernel,rfl,by decide +kernel,by decide +kernel⟩
theorem qa8 {P:Program} {w:World} {K:PySem.W.Frag} {mg:Str→Option Value} {base:Heap} (F:qpe K "row_cut" X9 [] [("begin",(.int 0)),("end",.non)]) (T:Txt P K mg) (Hr:FnB P w K mg base 1 "row_size" ["row"] Vl) (R7:FnK P w K mg base 1 "strand_cut" Jg [] [("begin",(.int 0)),("end",.non)] ["strand","begin","end"] Kl):FnK P w K mg base 2 "row_cut" X9 [] [("begin",(.int 0)),("end",.non)] ["row","begin","end"] Hw:=by
 have nd:=Ay.nd;refine qfn (P:=P) (w:=w) (K:=K) (mg:=mg) (base:=base) (x:="row_cut") (st:=X9) (dvs:=[]) (kws:=[("begin",(.int 0)),("end",.non)]) (N:=["row","begin","end","size","found","ahead","strand","low","high"]) (ps:=["row","begin","end"]) (k:=1) (body:=Df) F T.qcY Ay (fun cdv A outer s H E hr=>?_);unfold Df;refine Qc ?_ ?_;refine Qu (i:=3) nd ?_;refine Ql (ps:=["row"]) (R:=Vl) Hr (hr.mono (by decide)) (takes_of rfl rfl rfl rfl) ?_;refine Qb ?_ ?_;refine Qa (i:=0);refine Qh;refine Qc ?_ ?_;refine Z1 ?_ ?_ ?_;refine Q7 qeW ?_ ?_;refine Qa (i:=2);refine Fe;refine Qc ?_ ?_;refine Qu (i:=2) nd ?_;refine Qa (i:=3);refine Qe;refine Qe;refine Qc ?_ ?_;refine Z1 ?_ ?_ ?_;refine x8 ?_;refine Tt ?_ ?_;refine Q7 Rb ?_ ?_;refine Qa (i:=1);refine Qf;refine Pu (op:=?_);refine Q7 Ng ?_ ?_;refine Qa (i:=1);refine Qa (i:=3);refine Qc ?_ ?_;refine U1 T.Tf.txt rfl hr (takes_of rfl rfl rfl rfl) ?_;refine Qb ?_ ?_;refine Qa (i:=1);refine Qh;refine Qe;refine Qe;refine Qc ?_ ?_;refine Z1 ?_ ?_ ?_;refine x8 ?_;refine Tt ?_ ?_;refine Q7 Rb ?_ ?_;refine Qa (i:=2);refine Qa (i:=1);refine Pu (op:=?_);refine Q7 Ng ?_ ?_;refine Qa (i:=2);refine Qa (i:=3);refine Qc ?_ ?_;refine U1 T.Tf.txt rfl hr (takes_of rfl rfl rfl rfl) ?_;refine Qb ?_ ?_;refine Qa (i:=2);refine Qh;refine Qe;refine Qe;refine Qc ?_ ?_;refine Kf (i:=4) nd ?_;refine Ys ?_;refine Qh;refine Qc ?_ ?_;refine Qu (i:=5) nd ?_;refine Qf;refine Qc ?_ ?_;refine Yr (js:=[6]) (passes_of rfl) rfl ?_ ?_ ?_;refine Kq ?_;refine Qa (i:=0);refine Q8 (i:=6) nd;refine Yq (js:=[6,7,8]) ?_;refine Qc ?_ ?_;refine Qu (i:=7) nd ?_;refine Vr (Tq rfl) T.vy O3 ?_;refine Qb ?_ ?_;refine Qn Zq ?_ ?_;refine Qa (i:=1);refine Qa (i:=5);refine Qb ?_ ?_;refine Qf;refine Qh;refine Qc ?_ ?_;refine Qu (i:=8) nd ?_;refine Vr (Tp rfl) T.vx O1 ?_;refine Qb ?_ ?_;refine Qn Zq ?_ ?_;refine Qa (i:=2);refine Qa (i:=5);refine Qb ?_ ?_;refine Qp ?_ ?_;refine Qa (i:=6);refine Qf;refine Qh;refine Qc ?_ ?_;refine Z1 ?_ ?_ ?_;refine Q7 Rb ?_ ?_;refine Qa (i:=7);refine Qa (i:=8);refine Qc ?_ ?_;refine Jw ?_;refine V1 (i:=4) ?_;refine qaA (x:="strand_cut") (st:=Jg) (dvs:=[]) (kwv:=[("begin",(.int 0)),("end",.non)]) (ps:=["strand","begin","end"]) (k:=1) (ds:=[]) (sl:=[.p 0,.k 0,.k 1]) (n:=1) (R:=Kl) ["begin","end"] R7 qs4 rfl (hr.mono (by decide)) (takes_of rfl rfl rfl rfl) ?_ ?_;refine Qb ?_ ?_;refine Qa (i:=6);refine Qh;refine Zx ?_ ?_;refine Qa (i:=7);refine Zx ?_ ?_;refine Qa (i:=8);refine Rg;refine Qe;refine Qe;refine Qc ?_ ?_;refine A6 (i:=5) nd Bg ?_;refine Qp ?_ ?_;refine Qa (i:=6);refine Qf;refine Qe;refine Qc ?_ ?_;refine Qx ?_;refine Tu Py T.H7 Uj ?_;refine Qb ?_ ?_;refine Qa (i:=4);refine Qh;refine Qe
theorem B5:FnScope ["_law_stream_here","_law_groups","_law_number","_law_turn_here"] ["_law_stream_here","_law_groups"] (defScope Wz):=⟨rfl,rfl,rfl,by decide +kernel,rfl,by decide +kernel,by decide +kernel⟩
theorem jn {P:Program} {w:World} {K:PySem.W.Frag} {mg:Str→Option Value} {base:Heap} (F:FnF K "_law_long" Wz) (T:Txt P K mg) (Qz:FnB P w K mg base 1 "_law_draw" ["_law_stream_here","_law_many"] Qm):FnB P w K mg base 2 "_law_long" ["_law_stream_here","_law_groups"] Y5:=by
 have nd:=B5.nd;refine Zr (P:=P) (w:=w) (K:=K) (mg:=mg) (base:=base) (x:="_law_long") (st:=Wz) (N:=["_law_stream_here","_law_groups","_law_number","_law_turn_here"]) (ps:=["_law_stream_here","_law_groups"]) (k:=1) (body:=Mr) F T.vd B5 (fun _ _ _ _ _ _ us hl=>match us,hl with | [_,_],_=>rfl) (fun cdv A outer s H E hr=>?_);unfold Mr;refine Qc ?_ ?_;refine Qu (i:=2) nd ?_;refine Qf;refine Qc ?_ ?_;refine Yr (js:=[3]) (passes_of rfl) rfl ?_ ?_ ?_;refine Pc T.Ph ?_;refine Qb ?_ ?_;refine Ql (ps:=["_law_stream_here","_law_many"]) (R:=Qm) Qz (hr.mono (by decide)) (takes_of rfl rfl rfl rfl) ?_;refine Qb ?_ ?_;refine Qa (i:=0);refine Qb ?_ ?_;refine Qn Qv ?_ ?_;refine Qa (i:=1);refine Qf;refine Qh;refine Qh;refine Q8 (i:=3) nd;refine Yq (js:=[3]) ?_;refine Qc ?_ ?_;refine Qu (i:=2) nd ?_;refine Qn Qv ?_ ?_;refine Qn Q4 ?_ ?_;refine Qa (i:=2);refine Qf;refine Ql (ps:=["_law_stream_here","_law_many"]) (R:=Qm) Qz (hr.mono (by decide)) (takes_of rfl rfl rfl rfl) ?_;refine Qb ?_ ?_;refine Qa (i:=0);refine Qb ?_ ?_;refine Qf;refine Qh;refine Qe;refine Qc ?_ ?_;refine Qx ?_;refine Qa (i:=2);refine Qe
theorem T7:FnScope ["_law_stream_here","_law_most","_law_ways","_law_shape","_law_many"] ["_law_stream_here","_law_most","_law_ways"] (defScope Vg):=⟨rfl,rfl,rfl,by decide +kernel,rfl,by decide +kernel,by decide +kernel⟩
theorem Ab {P:Program} {w:World} {K:PySem.W.Frag} {mg:Str→Option Value} {base:Heap} (F:FnF K "_law_simple" Vg) (T:Txt P K mg) (Qz:FnB P w K mg base 1 "_law_draw" ["_law_stream_here","_law_many"] Qm):FnB P w K mg base 2 "_law_simple" ["_law_stream_here","_law_most","_law_ways"] Vo:=by
 have nd:=T7.nd;refine Zr (P:=P) (w:=w) (K:=K) (mg:=mg) (base:=base) (x:="_law_simple") (st:=Vg) (N:=["_law_stream_here","_law_most","_law_ways","_law_shape","_law_many"]) (ps:=["_law_stream_here","_law_most","_law_ways"]) (k:=1) (body:=Ha) F T.za T7 (fun _ _ _ _ _ _ us hl=>match us,hl with | [_,_,_],_=>rfl) (fun cdv A outer s H E hr=>?_);unfold Ha;refine Qc ?_ ?_;refine Qu (i:=3) nd ?_;refine Ql (ps:=["_law_stream_here","_law_many"]) (R:=Qm) Qz (hr.mono (by decide)) (takes_of rfl rfl rfl rfl) ?_;refine Qb ?_ ?_;refine Qa (i:=0);refine Qb ?_ ?_;refine Qf;refine Qh;refine Qc ?_ ?_;refine Z1 ?_ ?_ ?_;refine Q7 (Zl hr.units) ?_ ?_;refine Qa (i:=3);refine Qf;refine Qc ?_ ?_;refine Qx ?_;refine Zz ?_;refine Qb ?_ ?_;refine Z8;refine Qh;refine Qe;refine Qe;refine Qc ?_ ?_;refine Z1 ?_ ?_ ?_;refine Q7 (Zl hr.units) ?_ ?_;refine Qa (i:=3);refine Qf;refine Qc ?_ ?_;refine Qx ?_;refine Zz ?_;refine Qb ?_ ?_;refine Z8;refine Qh;refine Qe;refine Qe;refine Qc ?_ ?_;refine Z1 ?_ ?_ ?_;refine Q7 Rb ?_ ?_;refine Qa (i:=3);refine Qf;refine Qc ?_ ?_;refine Qx ?_;refine Zz ?_;refine Qb ?_ ?_;refine Qp ?_ ?_;refine qaz ?_;refine Ys ?_;refine Qb ?_ ?_;refine Z8;refine Qb ?_ ?_;refine Z8;refine Qb ?_ ?_;refine Z8;refine Qb ?_ ?_;refine Z8;refine Qh;refine Qn Zq ?_ ?_;refine Qa (i:=3);refine Qf;refine Qb ?_ ?_;refine Ql (ps:=["_law_stream_here","_law_many"]) (R:=Qm) Qz (hr.mono (by decide)) (takes_of rfl rfl rfl rfl) ?_;refine Qb ?_ ?_;refine Qa (i:=0);refine Qb ?_ ?_;refine Qn Qv ?_ ?_;refine Qa (i:=1);refine Qf;refine Qh;refine Qh;refine Qe;refine Qe;refine Qc ?_ ?_;refine Qu (i:=4) nd ?_;refine Qn Qv ?_ ?_;refine Qf;refine Ql (ps:=["_law_stream_here","_law_many"]) (R:=Qm) Qz (hr.mono (by decide)) (takes_of rfl rfl rfl rfl) ?_;refine Qb ?_ ?_;refine Qa (i:=0);refine Qb ?_ ?_;refine Qa (i:=2);refine Qh;refine Qc ?_ ?_;refine Qx ?_;refine Zz ?_;refine Qb ?_ ?_;refine Qp ?_ ?_;refine qaz ?_;refine Ys ?_;refine Qb ?_ ?_;refine Z8;refine Qb ?_ ?_;refine Z8;refine Qh;refine Qn Pb ?_ ?_;refine Tu Pf T.O8 Rn ?_;refine Qb ?_ ?_;refine Qa (i:=3);refine Qh;refine Qf;refine Qb ?_ ?_;refine Qa (i:=4);refine Qb ?_ ?_;refine Ql (ps:=["_law_stream_here","_law_many"]) (R:=Qm) Qz (hr.mono (by decide)) (takes_of rfl rfl rfl rfl) ?_;refine Qb ?_ ?_;refine Qa (i:=0);refine Qb ?_ ?_;refine Qa (i:=4);refine Qh;refine Qh;refine Qe
theorem Sa:FnScope ["_law_part","_law_told_here","_law_d","_law_m","_law_w","_law_h","_law_u","_law_wide"] ["_law_part","_law_told_here"] (defScope Vj):=⟨rfl,rfl,rfl,by decide +kernel,rfl,by decide +kernel,by decide +kernel⟩
theorem Ae {P:Program} {w:World} {K:PySem.W.Frag} {mg:Str→Option Value} {base:Heap} (F:FnF K "_law_behind" Vj) (T:Txt P K mg) (Zg:FnB P w K mg base 1 "_law_multiple" ["_law_one","_law_other"] Qt):FnB P w K mg base 2 "_law_behind" ["_law_part","_law_told_here"] Vp:=by
 have nd:=Sa.nd;refine Zr (P:=P) (w:=w) (K:=K) (mg:=mg) (base:=base) (x:="_law_behind") (st:=Vj) (N:=["_law_part","_law_told_here","_law_d","_law_m","_law_w","_law_h","_law_u","_law_wide"]) (ps:=["_law_part","_law_told_here"]) (k:=1) (body:=Hc) F T.zf Sa (fun _ _ _ _ _ _ us hl=>match us,hl with | [_,_],_=>rfl) (fun cdv A outer s H E hr=>?_);unfold Hc;refine Qc ?_ ?_;refine Od (js:=([2]++([3]++([4]++([5]++([6]++[])))))) ?_ ?_;refine Qa (i:=1);refine C6 rfl ?_;refine Zp ?_ ?_;refine Q8 (i:=2) nd;refine Zp ?_ ?_;refine Q8 (i:=3) nd;refine Zp ?_ ?_;refine Q8 (i:=4) nd;refine Zp ?_ ?_;refine Q8 (i:=5) nd;refine Zp ?_ ?_;refine Q8 (i:=6) nd;refine Pd;refine Qc ?_ ?_;refine qes (js:=[7]) ?_;refine Z1 ?_ ?_ ?_;refine Q7 (Zl hr.units) ?_ ?_;refine Qp ?_ ?_;refine Qa (i:=0);refine Qf;refine Z8;refine Qc ?_ ?_;refine Qu (i:=7) nd ?_;refine Qn V8 ?_ ?_;refine Qn Zq ?_ ?_;refine Qn Qv ?_ ?_;refine Qa (i:=4);refine Qn Q4 ?_ ?_;refine Qf;refine Qp ?_ ?_;refine Qa (i:=0);refine Qf;refine Qf;refine Qp ?_ ?_;refine Qa (i:=0);refine Qf;refine Qc ?_ ?_;refine Qx ?_;refine Zz ?_;refine Qb ?_ ?_;refine Qn Q4 ?_ ?_;refine Qa (i:=2);refine Qp ?_ ?_;refine Qa (i:=0);refine Qf;refine Qb ?_ ?_;refine Ql (ps:=["_law_one","_law_other"]) (R:=Qt) Zg (hr.mono (by decide)) (takes_of rfl rfl rfl rfl) ?_;refine Qb ?_ ?_;refine Qa (i:=3);refine Qb ?_ ?_;refine Qn Q4 ?_ ?_;refine Qa (i:=2);refine Qp ?_ ?_;refine Qa (i:=0);refine Qf;refine Qh;refine Qb ?_ ?_;refine Qa (i:=7);refine Qb ?_ ?_;refine Qn Q4 ?_ ?_;refine Qa (i:=5);refine Qp ?_ ?_;refine Qa (i:=0);refine Qf;refine Qb ?_ ?_;refine Qn Qv ?_ ?_;refine Qa (i:=6);refine Qn Q4 ?_ ?_;refine Qn Q4 ?_ ?_;refine Qf;refine Qa (i:=5);refine Qn Zq ?_ ?_;refine Qp ?_ ?_;refine Qa (i:=0);refine Qf;refine Qf;refine Qh;refine Qe;refine Qe;refine Qc ?_ ?_;refine Z1 ?_ ?_ ?_;refine Q7 (Zl hr.units) ?_ ?_;refine Qp ?_ ?_;refine Qa (i:=0);refine Qf;refine Z8;refine Qc ?_ ?_;refine Qx ?_;refine Zz ?_;refine Qb ?_ ?_;refine Qn Q4 ?_ ?_;refine Qa (i:=2);refine Qp ?_ ?_;refine Qa (i:=0);refine Qf;refine Qb ?_ ?_;refine Ql (ps:=["_law_one","_law_other"]) (R:=Qt) Zg (hr.mono (by decide)) (takes_of rfl rfl rfl rfl) ?_;refine Qb ?_ ?_;refine Qa (i:=3);refine Qb ?_ ?_;refine Qn Q4 ?_ ?_;refine Qa (i:=2);refine Qp ?_ ?_;refine Qa (i:=0);refine Qf;refine Qh;refine Qb ?_ ?_;refine Qn Qv ?_ ?_;refine Qa (i:=4);refine Qf;refine Qb ?_ ?_;refine Qa (i:=5);refine Qb ?_ ?_;refine Qn Qv ?_ ?_;refine Qa (i:=6);refine Qn Q4 ?_ ?_;refine Qn Q4 ?_ ?_;refine Qf;refine Qa (i:=5);refine Qn Qv ?_ ?_;refine Qa (i:=4);refine Qf;refine Qh;refine Qe;refine Qe;refine Qc ?_ ?_;refine Z1 ?_ ?_ ?_;refine x8 ?_;refine Tt ?_ ?_;refine Q7 (Zl hr.units) ?_ ?_;refine Qp ?_ ?_;refine Qa (i:=0);refine Qf;refine Z8;refine Pu (op:=?_);refine Q7 (Zl hr.units) ?_ ?_;refine Qp ?_ ?_;refine Qa (i:=0);refine Qf;refine Z8;refine Qc ?_ ?_;refine Qx ?_;refine Qa (i:=1);refine Qe;refine Qe;refine Qc ?_ ?_;refine Qx ?_;refine Zz ?_;refine Qb ?_ ?_;refine Qa (i:=2);refine Qb ?_ ?_;refine Qa (i:=3);refine Qb ?_ ?_;refine Qn Qv ?_ ?_;refine Qa (i:=4);refine Qp ?_ ?_;refine Qa (i:=0);refine Qf;refine Qb ?_ ?_;refine Qa (i:=5);refine Qb ?_ ?_;refine Qn Qv ?_ ?_;refine Qa (i:=6);refine Qn Q4 ?_ ?_;refine Qn Q4 ?_ ?_;refine Qf;refine Qa (i:=5);refine Qn Qv ?_ ?_;refine Qn Qv ?_ ?_;refine Qa (i:=4);refine Qp ?_ ?_;refine Qa (i:=0);refine Qf;refine Qf;refine Qh;refine Qe
theorem Nc:FnScope ["_law_part","_law_row_here","_law_size","_law_strand","_law_low","_law_high","_law_b","_law_s","_law_c"] ["_law_part","_law_row_here"] (defScope Jp):=⟨rfl,rfl,rfl,by decide +kernel,rfl,by decide +kernel,by decide +kernel⟩
theorem Fw {P:Program} {w:World} {K:PySem.W.Frag} {mg:Str→Option Value} {base:Heap} (F:FnF K "_law_part_row" Jp) (T:Txt P K mg) (Bu:FnB P w K mg base 1 "_law_cut" ["_law_row_here","_law_low","_law_high"] Hn) (S9:FnB P w K mg base 1 "_law_each" ["_law_row_here","_law_k","_law_i"] W7):FnB P w K mg base 2 "_law_part_row" ["_law_part","_law_row_here"] Xt:=by
 have nd:=Nc.nd;refine Zr (P:=P) (w:=w) (K:=K) (mg:=mg) (base:=base) (x:="_law_part_row") (st:=Jp) (N:=["_law_part","_law_row_here","_law_size","_law_strand","_law_low","_law_high","_law_b","_law_s","_law_c"]) (ps:=["_law_part","_law_row_here"]) (k:=1) (body:=Wc) F T.Oi Nc (fun _ _ _ _ _ _ us hl=>match us,hl with | [_,_],_=>rfl) (fun cdv A outer s H E hr=>?_);unfold Wc;refine Qc ?_ ?_;refine Qu (i:=2) nd ?_;refine Vr (qdo rfl) T.qkF qfu ?_;refine Qb ?_ ?_;refine qaz ?_;refine qeu rfl nd (own:=[("_law_strand",3)]) ?_ ?_ (fun _ _ _ _ _=>?_) (Uy 3) (by decide) (fun _ _ _ _ _=>?_);refine Kq ?_;refine Qa (i:=1);refine blkOk_by (N:=["_law_part","_law_row_here","_law_size","_law_strand","_law_low","_law_high","_law_b","_law_s","_law_c"]) (sc:=defScope Jp) (own:=[("_law_strand",3)]) (by decide +kernel);refine pg_name (i:=3) nd rfl (by first | exact .inl rfl | exact .inr rfl);refine Qp ?_ ?_;refine Qa (i:=3);refine Qf;refine Qh;refine Qc ?_ ?_;refine Qu (i:=4) nd ?_;refine Qf;refine Qc ?_ ?_;refine Qu (i:=5) nd ?_;refine Qa (i:=2);refine Qc ?_ ?_;refine Z1 ?_ ?_ ?_;refine Q7 (Zl hr.units) ?_ ?_;refine Qp ?_ ?_;refine Qa (i:=0);refine Qf;refine Z8;refine Qc ?_ ?_;refine Qx ?_;refine Tu Py T.H7 Uj ?_;refine Qb ?_ ?_;refine qaz ?_;refine qeu rfl nd (own:=[("_law_b",6),("_law_s",7),("_law_c",8)]) ?_ ?_ (fun _ _ _ _ _=>?_) (qcT (Bh (Uy 6) (Bh (Uy 7) (Bh (Uy 8) qcS)))) (by decide) (fun _ _ _ _ _=>?_);refine Kq ?_;refine qfb ?_ ?_;refine Qa (i:=1);refine yz ?_;refine U3 Ju ?_;refine Qf;refine blkOk_by (N:=["_law_part","_law_row_here","_law_size","_law_strand","_law_low","_law_high","_law_b","_law_s","_law_c"]) (sc:=defScope Jp) (own:=[("_law_b",6),("_law_s",7),("_law_c",8)]) (by decide +kernel);refine pg_tup rfl (pgs_cons (pg_name (i:=6) nd rfl (by first | exact .inl rfl | exact .inr rfl)) (pgs_cons (pg_name (i:=7) nd rfl (by first | exact .inl rfl | exact .inr rfl)) (pgs_cons (pg_name (i:=8) nd rfl (by first | exact .inl rfl | exact .inr rfl)) pgs_nil)));refine Zz ?_;refine Qb ?_ ?_;refine Qn Qv ?_ ?_;refine Qa (i:=6);refine Qn Q4 ?_ ?_;refine Qa (i:=7);refine Qn Zq ?_ ?_;refine Qa (i:=8);refine Qf;refine Qb ?_ ?_;refine Qn Zq ?_ ?_;refine Qf;refine Qa (i:=7);refine Qb ?_ ?_;refine Qa (i:=8);refine Qh;refine Qh;refine Qe;refine Qe;refine Qc ?_ ?_;refine Z1 ?_ ?_ ?_;refine Q7 (Zl hr.units) ?_ ?_;refine Qp ?_ ?_;refine Qa (i:=0);refine Qf;refine Z8;refine Qc ?_ ?_;refine Qx ?_;refine Ql (ps:=["_law_row_here","_law_k","_law_i"]) (R:=W7) S9 (hr.mono (by decide)) (takes_of rfl rfl rfl rfl) ?_;refine Qb ?_ ?_;refine Qa (i:=1);refine Qb ?_ ?_;refine Qp ?_ ?_;refine Qa (i:=0);refine Qf;refine Qb ?_ ?_;refine Qp ?_ ?_;refine Qa (i:=0);refine Qf;refine Qh;refine Qe;refine Qe;refine Qc ?_ ?_;refine Z1 ?_ ?_ ?_;refine Q7 (Zl hr.units) ?_ ?_;refine Qp ?_ ?_;refine Qa (i:=0);refine Qf;refine Z8;refine Qc ?_ ?_;refine Qu (i:=5) nd ?_;refine Vr (Tp rfl) T.vx O1 ?_;refine Qb ?_ ?_;refine Qp ?_ ?_;refine Qa (i:=0);refine Qf;refine Qb ?_ ?_;refine Qa (i:=2);refine Qh;refine Qe;refine Qe;refine Qc ?_ ?_;refine Z1 ?_ ?_ ?_;refine Q7 (Zl hr.units) ?_ ?_;refine Qp ?_ ?_;refine Qa (i:=0);refine Qf;refine Z8;refine Qc ?_ ?_;refine Qu (i:=4) nd ?_;refine Vr (Tp rfl) T.vx O1 ?_;refine Qb ?_ ?_;refine Qp ?_ ?_;refine Qa (i:=0);refine Qf;refine Qb ?_ ?_;refine Qa (i:=2);refine Qh;refine Qe;refine Qe;refine Qc ?_ ?_;refine Z1 ?_ ?_ ?_;refine Q7 (Zl hr.units) ?_ ?_;refine Qp ?_ ?_;refine Qa (i:=0);refine Qf;refine Z8;refine Qc ?_ ?_;refine Qu (i:=4) nd ?_;refine Vr (Tq rfl) T.vy O3 ?_;refine Qb ?_ ?_;refine Qf;refine Qb ?_ ?_;refine Qn Zq ?_ ?_;refine Qa (i:=2);refine Qp ?_ ?_;refine Qa (i:=0);refine Qf;refine Qh;refine Qe;refine Qe;refine Qc ?_ ?_;refine Z1 ?_ ?_ ?_;refine Q7 (Zl hr.units) ?_ ?_;refine Qp ?_ ?_;refine Qa (i:=0);refine Qf;refine Z8;refine Qc ?_ ?_;refine Qu (i:=5) nd ?_;refine Vr (Tq rfl) T.vy O3 ?_;refine Qb ?_ ?_;refine Qf;refine Qb ?_ ?_;refine Qn Zq ?_ ?_;refine Qa (i:=2);refine Qp ?_ ?_;refine Qa (i:=0);refine Qf;refine Qh;refine Qe;refine Qe;refine Qc ?_ ?_;refine Z1 ?_ ?_ ?_;refine Q7 (Zl hr.units) ?_ ?_;refine Qp ?_ ?_;refine Qa (i:=0);refine Qf;refine Z8;refine Qc ?_ ?_;refine Qu (i:=4) nd ?_;refine Qn V8 ?_ ?_;refine Qn Q4 ?_ ?_;refine Qp ?_ ?_;refine Qa (i:=0);refine Qf;refine Qa (i:=2);refine Qp ?_ ?_;refine Qa (i:=0);refine Qf;refine Qc ?_ ?_;refine Qu (i:=5) nd ?_;refine Qn V8 ?_ ?_;refine Qn Q4 ?_ ?_;refine Qn Qv ?_ ?_;refine Qp ?_ ?_;refine Qa (i:=0);refine Qf;refine Qf;refine Qa (i:=2);refine Qp ?_ ?_;refine Qa (i:=0);refine Qf;refine Qe;refine Qe;refine Qc ?_ ?_;refine Qx ?_;refine Ql (ps:=["_law_row_here","_law_low","_law_high"]) (R:=Hn) Bu (hr.mono (by decide)) (takes_of rfl rfl rfl rfl) ?_;refine Qb ?_ ?_;refine Qa (i:=1);refine Qb ?_ ?_;refine Qa (i:=4);refine Qb ?_ ?_;refine Qa (i:=5);refine Qh;refine Qe
theorem Gj:FnScope ["_law_told_here","_law_due","_law_place"] ["_law_told_here","_law_due"] (defScope Jk):=⟨rfl,rfl,rfl,by decide +kernel,rfl,by decide +kernel,by decide +kernel⟩
theorem Cw {P:Program} {w:World} {K:PySem.W.Frag} {mg:Str→Option Value} {base:Heap} (F:FnF K "_law_is_numbers" Jk) (T:Txt P K mg) (Z6:FnB P w K mg base 1 "_law_is_number" ["_law_told_here","_law_due"] Zd):FnB P w K mg base 2 "_law_is_numbers" ["_law_told_here","_law_due"] Qw:=by
 have nd:=Gj.nd;refine Zr (P:=P) (w:=w) (K:=K) (mg:=mg) (base:=base) (x:="_law_is_numbers") (st:=Jk) (N:=["_law_told_here","_law_due","_law_place"]) (ps:=["_law_told_here","_law_due"]) (k:=1) (body:=Jy) F T.Bj Gj (fun _ _ _ _ _ _ us hl=>match us,hl with | [_,_],_=>rfl) (fun cdv A outer s H E hr=>?_);unfold Jy;refine Qc ?_ ?_;refine Z1 ?_ ?_ ?_;refine Q7 (Ss hr.units) ?_ ?_;refine Vr Y8 T.Ro Uq ?_;refine Qb ?_ ?_;refine Qa (i:=0);refine Qh;refine Vr Y8 T.Ro Uq ?_;refine Qb ?_ ?_;refine Qa (i:=1);refine Qh;refine Qc ?_ ?_;refine Qx ?_;refine Tv;refine Qe;refine Qe;refine Qc ?_ ?_;refine Qx ?_;refine qcP (Zl hr.units) ?_ ?_;refine Vr Y8 T.Ro Uq ?_;refine Qb ?_ ?_;refine qaz ?_;refine qgI rfl nd (own:=[("_law_place",2)]) ?_ ?_ (fun _ _ _ _ _=>?_) (Uy 2) (by decide) (fun _ _ _ _ _=>?_) (fun _ _ _ _ _=>?_);refine Pc T.Ph ?_;refine Qb ?_ ?_;refine Vr Y8 T.Ro Uq ?_;refine Qb ?_ ?_;refine Qa (i:=1);refine Qh;refine Qh;refine blkOk_by (N:=["_law_told_here","_law_due","_law_place"]) (sc:=defScope Jk) (own:=[("_law_place",2)]) (by decide +kernel);refine pg_name (i:=2) nd rfl (by first | exact .inl rfl | exact .inr rfl);refine Hz ?_;refine Hy ?_;refine Ql (ps:=["_law_told_here","_law_due"]) (R:=Zd) Z6 (hr.mono (by decide)) takes0 ?_;refine Qb ?_ ?_;refine Qp ?_ ?_;refine Qa (i:=0);refine Qa (i:=2);refine Qb ?_ ?_;refine Qp ?_ ?_;refine Qa (i:=1);refine Qa (i:=2);refine Qh;refine Qa (i:=2);refine Qh;refine Qf;refine Qe
theorem B6:FnScope ["_law_stream_here","_law_one","_law_two","_law_three"] ["_law_stream_here"] (defScope W0):=⟨rfl,rfl,rfl,by decide +kernel,rfl,by decide +kernel,by decide +kernel⟩
theorem jo {P:Program} {w:World} {K:PySem.W.Frag} {mg:Str→Option Value} {base:Heap} (F:FnF K "_law_five" W0) (T:Txt P K mg) (Qz:FnB P w K mg base 1 "_law_draw" ["_law_stream_here","_law_many"] Qm):FnB P w K mg base 2 "_law_five" ["_law_stream_here"] Y6:=by
 have nd:=B6.nd;refine Zr (P:=P) (w:=w) (K:=K) (mg:=mg) (base:=base) (x:="_law_five") (st:=W0) (N:=["_law_stream_here","_law_one","_law_two","_law_three"]) (ps:=["_law_stream_here"]) (k:=1) (body:=Ms) F T.ve B6 (fun _ _ _ _ _ _ us hl=>match us,hl with | [_],_=>rfl) (fun cdv A outer s H E hr=>?_);unfold Ms;refine Qc ?_ ?_;refine Qu (i:=1) nd ?_;refine Qn Qv ?_ ?_;refine Qf;refine Ql (ps:=["_law_stream_here","_law_many"]) (R:=Qm) Qz (hr.mono (by decide)) (takes_of rfl rfl rfl rfl) ?_;refine Qb ?_ ?_;refine Qa (i:=0);refine Qb ?_ ?_;refine Qf;refine Qh;refine Qc ?_ ?_;refine Qu (i:=2) nd ?_;refine Qn Qv ?_ ?_;refine Qf;refine Ql (ps:=["_law_stream_here","_law_many"]) (R:=Qm) Qz (hr.mono (by decide)) (takes_of rfl rfl rfl rfl) ?_;refine Qb ?_ ?_;refine Qa (i:=0);refine Qb ?_ ?_;refine Qf;refine Qh;refine Qc ?_ ?_;refine Qu (i:=3) nd ?_;refine Ql (ps:=["_law_stream_here","_law_many"]) (R:=Qm) Qz (hr.mono (by decide)) (takes_of rfl rfl rfl rfl) ?_;refine Qb ?_ ?_;refine Qa (i:=0);refine Qb ?_ ?_;refine Qf;refine Qh;refine Qc ?_ ?_;refine Qx ?_;refine Zz ?_;refine Qb ?_ ?_;refine Qa (i:=1);refine Qb ?_ ?_;refine Qa (i:=2);refine Qb ?_ ?_;refine Qa (i:=3);refine Qb ?_ ?_;refine Qn Qv ?_ ?_;refine Qf;refine Ql (ps:=["_law_stream_here","_law_many"]) (R:=Qm) Qz (hr.mono (by decide)) (takes_of rfl rfl rfl rfl) ?_;refine Qb ?_ ?_;refine Qa (i:=0);refine Qb ?_ ?_;refine Qf;refine Qh;refine Qb ?_ ?_;refine Qn Qv ?_ ?_;refine Qf;refine Ql (ps:=["_law_stream_here","_law_many"]) (R:=Qm) Qz (hr.mono (by decide)) (takes_of rfl rfl rfl rfl) ?_;refine Qb ?_ ?_;refine Qa (i:=0);refine Qb ?_ ?_;refine Qf;refine Qh;refine Qh;refine Qe
theorem N7:FnScope ["_law_lines","_law_length","_law_due","_law_size","_law_moved","_law_d","_law_m","_law_w","_law_h","_law_u","_law_ends","_law_places","_law_line","_law_last","_law_move"] ["_law_lines","_law_length","_law_due","_law_size","_law_moved"] (defScope Yh):=⟨rfl,rfl,rfl,by decide +kernel,rfl,by decide +kernel,by decide +kernel⟩
theorem L3 {P:Program} {w:World} {K:PySem.W.Frag} {mg:Str→Option Value} {base:Heap} (F:FnF K "_law_bounded" Yh) (T:Txt P K mg) (M8:FnB P w K mg base 1 "_law_near" ["_law_pairs","_law_length","_law_cycle","_law_most"] Y4):FnB P w K mg base 2 "_law_bounded" ["_law_lines","_law_length","_law_due","_law_size","_law_moved"] Yl:=by
 have nd:=N7.nd;refine Zr (P:=P) (w:=w) (K:=K) (mg:=mg) (base:=base) (x:="_law_bounded") (st:=Yh) (N:=["_law_lines","_law_length","_law_due","_law_size","_law_moved","_law_d","_law_m","_law_w","_law_h","_law_u","_law_ends","_law_places","_law_line","_law_last","_law_move"]) (ps:=["_law_lines","_law_length","_law_due","_law_size","_law_moved"]) (k:=1) (body:=Ui) F T.Ap N7 (fun _ _ _ _ _ _ us hl=>match us,hl with | [_,_,_,_,_],_=>rfl) (fun cdv A outer s H E hr=>?_);unfold Ui;refine Qc ?_ ?_;refine Od (js:=([5]++([6]++([7]++([8]++([9]++[])))))) ?_ ?_;refine Qa (i:=2);refine C6 rfl ?_;refine Zp ?_ ?_;refine Q8 (i:=5) nd;refine Zp ?_ ?_;refine Q8 (i:=6) nd;refine Zp ?_ ?_;refine Q8 (i:=7) nd;refine Zp ?_ ?_;refine Q8 (i:=8) nd;refine Zp ?_ ?_;refine Q8 (i:=9) nd;refine Pd;refine Qc ?_ ?_;refine Kf (i:=10) nd ?_;refine Ys ?_;refine Qb ?_ ?_;refine Zz ?_;refine Qb ?_ ?_;refine Qf;refine Qb ?_ ?_;refine Qf;refine Qh;refine Qb ?_ ?_;refine Zz ?_;refine Qb ?_ ?_;refine Qn Zq ?_ ?_;refine Qa (i:=1);refine Qf;refine Qb ?_ ?_;refine Qa (i:=6);refine Qh;refine Qh;refine Qc ?_ ?_;refine Kf (i:=11) nd ?_;refine Ys ?_;refine Qb ?_ ?_;refine Zz ?_;refine Qb ?_ ?_;refine Qf;refine Qb ?_ ?_;refine Qf;refine Qh;refine Qb ?_ ?_;refine Zz ?_;refine Qb ?_ ?_;refine Qa (i:=3);refine Qb ?_ ?_;refine Qa (i:=4);refine Qh;refine Qh;refine Qc ?_ ?_;refine Yr (js:=[12]) (passes_of rfl) rfl ?_ ?_ ?_;refine Kq ?_;refine Qa (i:=0);refine Q8 (i:=12) nd;refine Yq (js:=[12,13,14]) ?_;refine Qc ?_ ?_;refine Qu (i:=13) nd ?_;refine Qn Qv ?_ ?_;refine Za T.Ot ?_;refine Qa (i:=12);refine Qn Q4 ?_ ?_;refine Za T.xj ?_;refine Qa (i:=12);refine Qn Zq ?_ ?_;refine Za T.zh ?_;refine Qa (i:=12);refine Qf;refine Qc ?_ ?_;refine Qu (i:=14) nd ?_;refine Qn Qv ?_ ?_;refine Za T.Kr ?_;refine Qa (i:=12);refine Qn Q4 ?_ ?_;refine Za T.xj ?_;refine Qa (i:=12);refine Za T.Gu ?_;refine Qa (i:=12);refine Qc ?_ ?_;refine Z1 ?_ ?_ ?_;refine x8 ?_;refine Tt ?_ ?_;refine Q7 (Ss hr.units) ?_ ?_;refine Qn Pb ?_ ?_;refine Tu Pf T.O8 Rn ?_;refine Qb ?_ ?_;refine Za T.Kr ?_;refine Qa (i:=12);refine Qh;refine Qn V8 ?_ ?_;refine Qa (i:=6);refine Qa (i:=5);refine Qf;refine Pu (op:=?_);refine Q7 (Ss hr.units) ?_ ?_;refine Qn Pb ?_ ?_;refine Tu Pf T.O8 Rn ?_;refine Qb ?_ ?_;refine Qa (i:=14);refine Qh;refine Qn V8 ?_ ?_;refine Qa (i:=6);refine Qa (i:=5);refine Qf;refine Qc ?_ ?_;refine Qx ?_;refine Tv;refine Qe;refine Qe;refine Qc ?_ ?_;refine Jw ?_;refine V1 (i:=10) ?_;refine Zz ?_;refine Qb ?_ ?_;refine Za T.Ot ?_;refine Qa (i:=12);refine Qb ?_ ?_;refine Za T.Kr ?_;refine Qa (i:=12);refine Qh;refine Qc ?_ ?_;refine Jw ?_;refine V1 (i:=10) ?_;refine Zz ?_;refine Qb ?_ ?_;refine Qa (i:=13);refine Qb ?_ ?_;refine Qa (i:=14);refine Qh;refine Qc ?_ ?_;refine Jw ?_;refine V1 (i:=11) ?_;refine Zz ?_;refine Qb ?_ ?_;refine Za T.zg ?_;refine Qa (i:=12);refine Qb ?_ ?_;refine Za T.Gr ?_;refine Qa (i:=12);refine Qh;refine Qe;refine Qc ?_ ?_;refine Qx ?_;refine jz ?_ ?_;refine Ql (ps:=["_law_pairs","_law_length","_law_cycle","_law_most"]) (R:=Y4) M8 (hr.mono (by decide)) (takes_of rfl rfl rfl rfl) ?_;refine Qb ?_ ?_;refine qjD ?_;refine Qa (i:=10);refine Qb ?_ ?_;refine Qa (i:=1);refine Qb ?_ ?_;refine Qa (i:=6);refine Qb ?_ ?_;refine Qa (i:=9);refine Qh;refine qay ?_;refine Ql (ps:=["_law_pairs","_law_length","_law_cycle","_law_most"]) (R:=Y4) M8 (hr.mono (by decide)) (takes_of rfl rfl rfl rfl) ?_;refine Qb ?_ ?_;refine qjD ?_;refine Qa (i:=11);refine Qb ?_ ?_;refine Qa (i:=1);refine Qb ?_ ?_;refine Qa (i:=6);refine Qb ?_ ?_;refine Qa (i:=7);refine Qh;refine Qe
theorem Po:FnScope ["self","other"] ["self","other"] (defScope Ji):=⟨rfl,rfl,rfl,by decide +kernel,rfl,by decide +kernel,by decide +kernel⟩
theorem D9 {P:Program} {w:World} {K:PySem.W.Frag} {mg:Str→Option Value} {base:Heap} (F:∃fd,FunD K "__or__" "Numbers.__or__" (defArgs Ji) (defBody Ji) (defScope Ji) [] [] (maA K "Numbers" "__or__") fd) (T:Txt P K mg) (Qj:MkKB P w K mg base 1 "Numbers" 6 0 ["divisor","modulus","spread","stride","reach"] [] [.k 0,.k 1,.k 2,.k 3,.k 4] Qk):FnM P w K mg base 3 "Numbers" "__or__" 2 V7:=by
 have nd:=Po.nd;refine Oo (P:=P) (w:=w) (K:=K) (mg:=mg) (base:=base) (C:="Numbers") (m:="__or__") (x:="__or__") (qual:="Numbers.__or__") (st:=Ji) (N:=["self","other"]) (ps:=["self","other"]) (k:=2) (body:=Kb) F Po (fun _ _ _ _ _ _ us hl=>match us,hl with | [_,_],_=>rfl) (fun cdv A outer s H E hr=>?_);unfold Kb;refine Qc ?_ ?_;refine Z1 ?_ ?_ ?_;refine Hz ?_;refine Hy ?_;refine qjC T.qbe T.Xj T.Rm ?_;refine Qa (i:=1);refine Qc ?_ ?_;refine qjr;refine Qe;refine Qe;refine Qc ?_ ?_;refine Qx ?_;refine Mi (n:=6) (ks:=["divisor","modulus","spread","stride","reach"]) (ms:=[]) (sl:=[.k 0,.k 1,.k 2,.k 3,.k 4]) (k:=1) (R:=Qk) Qj (hr.mono (by decide)) (takes_of rfl rfl rfl rfl) ?_;refine Zx ?_ ?_;refine jx T.qcQ ?_;refine Qb ?_ ?_;refine Za T.Y7 ?_;refine Qa (i:=0);refine Qb ?_ ?_;refine Za T.Y7 ?_;refine Qa (i:=1);refine Qh;refine Zx ?_ ?_;refine jx T.qcQ ?_;refine Qb ?_ ?_;refine Za T.Wa ?_;refine Qa (i:=0);refine Qb ?_ ?_;refine Za T.Wa ?_;refine Qa (i:=1);refine Qh;refine Zx ?_ ?_;refine Qn Qv ?_ ?_;refine Za T.U5 ?_;refine Qa (i:=0);refine Za T.U5 ?_;refine Qa (i:=1);refine Zx ?_ ?_;refine jx T.qcQ ?_;refine Qb ?_ ?_;refine Za T.K9 ?_;refine Qa (i:=0);refine Qb ?_ ?_;refine Za T.K9 ?_;refine Qa (i:=1);refine Qh;refine Zx ?_ ?_;refine Qn Qv ?_ ?_;refine Za T.Rj ?_;refine Qa (i:=0);refine Za T.Rj ?_;refine Qa (i:=1);refine Rg;refine Qe
theorem Cn:FnScope ["count","old","spread"] ["count","old"] (defScope Ki):=⟨rfl,rfl,rfl,by decide +kernel,rfl,by decide +kernel,by decide +kernel⟩
theorem E4 {P:Program} {w:World} {K:PySem.W.Frag} {mg:Str→Option Value} {base:Heap} (F:FnF K "behind_cut" Ki) (T:Txt P K mg) (Qj:MkKB P w K mg base 1 "Numbers" 6 0 ["divisor","modulus","spread","stride","reach"] [] [.k 0,.k 1,.k 2,.k 3,.k 4] Qk):FnB P w K mg base 3 "behind_cut" ["count","old"] Y1:=by
 have nd:=Cn.nd;refine Zr (P:=P) (w:=w) (K:=K) (mg:=mg) (base:=base) (x:="behind_cut") (st:=Ki) (N:=["count","old","spread"]) (ps:=["count","old"]) (k:=2) (body:=Gz) F T.j8 Cn (fun _ _ _ _ _ _ us hl=>match us,hl with | [_,_],_=>rfl) (fun cdv A outer s H E hr=>?_);unfold Gz;refine Qc ?_ ?_;refine Qu (i:=2) nd ?_;refine Qn Qv ?_ ?_;refine Za T.U5 ?_;refine Qa (i:=1);refine Qa (i:=0);refine Qc ?_ ?_;refine Qx ?_;refine Mi (n:=6) (ks:=["divisor","modulus","spread","stride","reach"]) (ms:=[]) (sl:=[.k 0,.k 1,.k 2,.k 3,.k 4]) (k:=1) (R:=Qk) Qj (hr.mono (by decide)) (takes_of rfl rfl rfl rfl) ?_;refine Zx ?_ ?_;refine Za T.Y7 ?_;refine Qa (i:=1);refine Zx ?_ ?_;refine Za T.Wa ?_;refine Qa (i:=1);refine Zx ?_ ?_;refine Qa (i:=2);refine Zx ?_ ?_;refine Za T.K9 ?_;refine Qa (i:=1);refine Zx ?_ ?_;refine Qn Qv ?_ ?_;refine Za T.Rj ?_;refine Qa (i:=1);refine Qn Q4 ?_ ?_;refine Qn Q4 ?_ ?_;refine Qf;refine Za T.K9 ?_;refine Qa (i:=1);refine Qn Qv ?_ ?_;refine Qa (i:=2);refine Qf;refine Rg;refine Qe
theorem T4:FnScope ["k","old"] ["k","old"] (defScope Vd):=⟨rfl,rfl,rfl,by decide +kernel,rfl,by decide +kernel,by decide +kernel⟩
theorem I8 {P:Program} {w:World} {K:PySem.W.Frag} {mg:Str→Option Value} {base:Heap} (F:FnF K "behind_each" Vd) (T:Txt P K mg) (Qj:MkKB P w K mg base 1 "Numbers" 6 0 ["divisor","modulus","spread","stride","reach"] [] [.k 0,.k 1,.k 2,.k 3,.k 4] Qk):FnB P w K mg base 3 "behind_each" ["k","old"] Vm:=by
 have nd:=T4.nd;refine Zr (P:=P) (w:=w) (K:=K) (mg:=mg) (base:=base) (x:="behind_each") (st:=Vd) (N:=["k","old"]) (ps:=["k","old"]) (k:=2) (body:=U7) F T.qx T4 (fun _ _ _ _ _ _ us hl=>match us,hl with | [_,_],_=>rfl) (fun cdv A outer s H E hr=>?_);unfold U7;refine Qc ?_ ?_;refine Qx ?_;refine Mi (n:=6) (ks:=["divisor","modulus","spread","stride","reach"]) (ms:=[]) (sl:=[.k 0,.k 1,.k 2,.k 3,.k 4]) (k:=1) (R:=Qk) Qj (hr.mono (by decide)) (takes_of rfl rfl rfl rfl) ?_;refine Zx ?_ ?_;refine Qn Q4 ?_ ?_;refine Za T.Y7 ?_;refine Qa (i:=1);refine Qa (i:=0);refine Zx ?_ ?_;refine jx T.qcQ ?_;refine Qb ?_ ?_;refine Za T.Wa ?_;refine Qa (i:=1);refine Qb ?_ ?_;refine Qn Q4 ?_ ?_;refine Za T.Y7 ?_;refine Qa (i:=1);refine Qa (i:=0);refine Qh;refine Zx ?_ ?_;refine Qn V8 ?_ ?_;refine Qn Zq ?_ ?_;refine Qn Qv ?_ ?_;refine Za T.U5 ?_;refine Qa (i:=1);refine Qn Q4 ?_ ?_;refine Qf;refine Qa (i:=0);refine Qf;refine Qa (i:=0);refine Zx ?_ ?_;refine Qn Q4 ?_ ?_;refine Za T.K9 ?_;refine Qa (i:=1);refine Qa (i:=0);refine Zx ?_ ?_;refine Qn Qv ?_ ?_;refine Za T.Rj ?_;refine Qa (i:=1);refine Qn Q4 ?_ ?_;refine Qn Q4 ?_ ?_;refine Qf;refine Za T.K9 ?_;refine Qa (i:=1);refine Qn Zq ?_ ?_;refine Qa (i:=0);refine Qf;refine Rg;refine Qe
theorem N0:FnScope ["k","old","spread"] ["k","old"] (defScope Ye):=⟨rfl,rfl,rfl,by decide +kernel,rfl,by decide +kernel,by decide +kernel⟩
theorem Lz {P:Program} {w:World} {K:PySem.W.Frag} {mg:Str→Option Value} {base:Heap} (F:FnF K "behind_block" Ye) (T:Txt P K mg) (Qj:MkKB P w K mg base 1 "Numbers" 6 0 ["divisor","modulus","spread","stride","reach"] [] [.k 0,.k 1,.k 2,.k 3,.k 4] Qk):FnB P w K mg base 3 "behind_block" ["k","old"] Yi:=by
 have nd:=N0.nd;refine Zr (P:=P) (w:=w) (K:=K) (mg:=mg) (base:=base) (x:="behind_block") (st:=Ye) (N:=["k","old","spread"]) (ps:=["k","old"]) (k:=2) (body:=Ue) F T.Am N0 (fun _ _ _ _ _ _ us hl=>match us,hl with | [_,_],_=>rfl) (fun cdv A outer s H E hr=>?_);unfold Ue;refine Qc ?_ ?_;refine Qu (i:=2) nd ?_;refine Qn Qv ?_ ?_;refine Za T.U5 ?_;refine Qa (i:=1);refine Qf;refine Qc ?_ ?_;refine Qx ?_;refine Mi (n:=6) (ks:=["divisor","modulus","spread","stride","reach"]) (ms:=[]) (sl:=[.k 0,.k 1,.k 2,.k 3,.k 4]) (k:=1) (R:=Qk) Qj (hr.mono (by decide)) (takes_of rfl rfl rfl rfl) ?_;refine Zx ?_ ?_;refine Qn Q4 ?_ ?_;refine Za T.Y7 ?_;refine Qa (i:=1);refine Qa (i:=0);refine Zx ?_ ?_;refine jx T.qcQ ?_;refine Qb ?_ ?_;refine Za T.Wa ?_;refine Qa (i:=1);refine Qb ?_ ?_;refine Qn Q4 ?_ ?_;refine Za T.Y7 ?_;refine Qa (i:=1);refine Qa (i:=0);refine Qh;refine Zx ?_ ?_;refine Qa (i:=2);refine Zx ?_ ?_;refine Za T.K9 ?_;refine Qa (i:=1);refine Zx ?_ ?_;refine Qn Qv ?_ ?_;refine Za T.Rj ?_;refine Qa (i:=1);refine Qn Q4 ?_ ?_;refine Qn Q4 ?_ ?_;refine Qf;refine Za T.K9 ?_;refine Qa (i:=1);refine Qn Qv ?_ ?_;refine Qa (i:=2);refine Qf;refine Rg;refine Qe
theorem Fb:FnScope ["_law_stream_here","_law_tokens","_law_boths","_law_most","_law_ways","_law_code_here","_law_arms","_law_turn_here","_law_pick"] ["_law_stream_here","_law_tokens","_law_boths","_law_most","_law_ways"] (defScope W4):=⟨rfl,rfl,rfl,by decide +kernel,rfl,by decide +kernel,by decide +kernel⟩
theorem jt {P:Program} {w:World} {K:PySem.W.Frag} {mg:Str→Option Value} {base:Heap} (F:FnF K "_law_code" W4) (T:Txt P K mg) (Qz:FnB P w K mg base 1 "_law_draw" ["_law_stream_here","_law_many"] Qm) (Hg:FnB P w K mg base 1 "_law_onward" ["_law_code_here","_law_arms"] Jv) (M7:FnB P w K mg base 2 "_law_simple" ["_law_stream_here","_law_most","_law_ways"] Vo):FnB P w K mg base 3 "_law_code" ["_law_stream_here","_law_tokens","_law_boths","_law_most","_law_ways"] W8:=by
 have nd:=Fb.nd;refine Zr (P:=P) (w:=w) (K:=K) (mg:=mg) (base:=base) (x:="_law_code") (st:=W4) (N:=["_law_stream_here","_law_tokens","_law_boths","_law_most","_law_ways","_law_code_here","_law_arms","_law_turn_here","_law_pick"]) (ps:=["_law_stream_here","_law_tokens","_law_boths","_law_most","_law_ways"]) (k:=2) (body:=Mw) F T.vh Fb (fun _ _ _ _ _ _ us hl=>match us,hl with | [_,_,_,_,_],_=>rfl) (fun cdv A outer s H E hr=>?_);unfold Mw;refine Qc ?_ ?_;refine Kf (i:=5) nd ?_;refine Ys ?_;refine Qh;refine Qc ?_ ?_;refine Kf (i:=6) nd ?_;refine Ys ?_;refine Qh;refine Qc ?_ ?_;refine Yr (js:=[7]) (passes_of rfl) rfl ?_ ?_ ?_;refine Pc T.Ph ?_;refine Qb ?_ ?_;refine Qa (i:=1);refine Qh;refine Q8 (i:=7) nd;refine Yq (js:=[7,8]) ?_;refine Qc ?_ ?_;refine Qu (i:=8) nd ?_;refine Ql (ps:=["_law_stream_here","_law_many"]) (R:=Qm) Qz (hr.mono (by decide)) (takes_of rfl rfl rfl rfl) ?_;refine Qb ?_ ?_;refine Qa (i:=0);refine Qb ?_ ?_;refine Qf;refine Qh;refine Qc ?_ ?_;refine Z1 ?_ ?_ ?_;refine x8 ?_;refine qcI ?_ ?_;refine Q7 (Zl hr.units) ?_ ?_;refine Qa (i:=8);refine Qf;refine yy (op:=?_);refine Q7 Ng ?_ ?_;refine Qa (i:=2);refine Qf;refine Qc ?_ ?_;refine Jw ?_;refine V1 (i:=5) ?_;refine Zz ?_;refine Qb ?_ ?_;refine Z8;refine Qh;refine Qc ?_ ?_;refine Jw ?_;refine V1 (i:=6) ?_;refine Qf;refine Qc ?_ ?_;refine Qu (i:=2) nd ?_;refine Qn Zq ?_ ?_;refine Qa (i:=2);refine Qf;refine Qe;refine Qc ?_ ?_;refine Z1 ?_ ?_ ?_;refine x8 ?_;refine qcI ?_ ?_;refine Q7 (Zl hr.units) ?_ ?_;refine Qa (i:=8);refine Qf;refine yy (op:=?_);refine Q7 Ng ?_ ?_;refine Vr Y8 T.Ro Uq ?_;refine Qb ?_ ?_;refine Qa (i:=6);refine Qh;refine Qf;refine Qc ?_ ?_;refine Jw ?_;refine Ql (ps:=["_law_code_here","_law_arms"]) (R:=Jv) Hg (hr.mono (by decide)) (takes_of rfl rfl rfl rfl) ?_;refine Qb ?_ ?_;refine Qa (i:=5);refine Qb ?_ ?_;refine Qa (i:=6);refine Qh;refine Qe;refine Qc ?_ ?_;refine Jw ?_;refine V1 (i:=5) ?_;refine Ql (ps:=["_law_stream_here","_law_most","_law_ways"]) (R:=Vo) M7 (hr.mono (by decide)) (takes_of rfl rfl rfl rfl) ?_;refine Qb ?_ ?_;refine Qa (i:=0);refine Qb ?_ ?_;refine Qa (i:=3);refine Qb ?_ ?_;refine Qa (i:=4);refine Qh;refine Qe;refine Qe;refine Qe;refine Qc ?_ ?_;refine Yr (js:=[7]) (passes_of rfl) rfl ?_ ?_ ?_;refine Pc T.Ph ?_;refine Qb ?_ ?_;refine Qn Q4 ?_ ?_;refine Qf;refine Vr Y8 T.Ro Uq ?_;refine Qb ?_ ?_;refine Qa (i:=6);refine Qh;refine Qh;refine Q8 (i:=7) nd;refine Yq (js:=[7]) ?_;refine Qc ?_ ?_;refine Z1 ?_ ?_ ?_;refine Q7 Ng ?_ ?_;refine Vr Y8 T.Ro Uq ?_;refine Qb ?_ ?_;refine Qa (i:=6);refine Qh;refine Qf;refine Qc ?_ ?_;refine Jw ?_;refine Ql (ps:=["_law_code_here","_law_arms"]) (R:=Jv) Hg (hr.mono (by decide)) (takes_of rfl rfl rfl rfl) ?_;refine Qb ?_ ?_;refine Qa (i:=5);refine Qb ?_ ?_;refine Qa (i:=6);refine Qh;refine Qe;refine Qe;refine Qe;refine Qc ?_ ?_;refine Qx ?_;refine Qa (i:=5);refine Qe
theorem N5:FnScope ["_law_code_here","_law_told_here","_law_token","_law_one","_law_two"] ["_law_code_here"] (defScope Yf):=⟨rfl,rfl,rfl,by decide +kernel,rfl,by decide +kernel,by decide +kernel⟩
theorem L0 {P:Program} {w:World} {K:PySem.W.Frag} {mg:Str→Option Value} {base:Heap} (F:FnF K "_law_numbers" Yf) (T:Txt P K mg) (Na:FnB P w K mg base 2 "_law_behind" ["_law_part","_law_told_here"] Vp) (Zg:FnB P w K mg base 1 "_law_multiple" ["_law_one","_law_other"] Qt):FnB P w K mg base 3 "_law_numbers" ["_law_code_here"] Yj:=by
 have nd:=N5.nd;refine Zr (P:=P) (w:=w) (K:=K) (mg:=mg) (base:=base) (x:="_law_numbers") (st:=Yf) (N:=["_law_code_here","_law_told_here","_law_token","_law_one","_law_two"]) (ps:=["_law_code_here"]) (k:=2) (body:=Ug) F T.An N5 (fun _ _ _ _ _ _ us hl=>match us,hl with | [_],_=>rfl) (fun cdv A outer s H E hr=>?_);unfold Ug;refine Qc ?_ ?_;refine Kf (i:=1) nd ?_;refine Ys ?_;refine Qb ?_ ?_;refine Zz ?_;refine Qb ?_ ?_;refine Qf;refine Qb ?_ ?_;refine Qf;refine Qb ?_ ?_;refine Qf;refine Qb ?_ ?_;refine Qf;refine Qb ?_ ?_;refine Qf;refine Qh;refine Qh;refine Qc ?_ ?_;refine Yr (js:=[2]) (passes_of rfl) rfl ?_ ?_ ?_;refine Kq ?_;refine Qa (i:=0);refine Q8 (i:=2) nd;refine Yq (js:=[2]) ?_;refine Qc ?_ ?_;refine Z1 ?_ ?_ ?_;refine Q7 (Zl hr.units) ?_ ?_;refine Qp ?_ ?_;refine Qa (i:=2);refine Qf;refine Z8;refine Qc ?_ ?_;refine Jw ?_;refine V1 (i:=1) ?_;refine Qp ?_ ?_;refine Qa (i:=1);refine U3 Ju ?_;refine Qf;refine Qe;refine Qc ?_ ?_;refine Z1 ?_ ?_ ?_;refine Q7 (Zl hr.units) ?_ ?_;refine Qp ?_ ?_;refine Qa (i:=2);refine Qf;refine Z8;refine Qc ?_ ?_;refine Jw ?_;refine V1 (i:=1) ?_;refine Qp ?_ ?_;refine Qa (i:=1);refine U3 Ju ?_;refine Qf;refine Qe;refine Qc ?_ ?_;refine qes (js:=[3,4]) ?_;refine Z1 ?_ ?_ ?_;refine Q7 (Zl hr.units) ?_ ?_;refine Qp ?_ ?_;refine Qa (i:=2);refine Qf;refine Z8;refine Qc ?_ ?_;refine Qu (i:=3) nd ?_;refine A7 (i:=1);refine Qc ?_ ?_;refine Qu (i:=4) nd ?_;refine A7 (i:=1);refine Qc ?_ ?_;refine Oc (i:=1) ?_ ?_;refine Zz ?_;refine Qb ?_ ?_;refine Ql (ps:=["_law_one","_law_other"]) (R:=Qt) Zg (hr.mono (by decide)) (takes_of rfl rfl rfl rfl) ?_;refine Qb ?_ ?_;refine Qp ?_ ?_;refine Qa (i:=3);refine Qf;refine Qb ?_ ?_;refine Qp ?_ ?_;refine Qa (i:=4);refine Qf;refine Qh;refine Qb ?_ ?_;refine Ql (ps:=["_law_one","_law_other"]) (R:=Qt) Zg (hr.mono (by decide)) (takes_of rfl rfl rfl rfl) ?_;refine Qb ?_ ?_;refine Qp ?_ ?_;refine Qa (i:=3);refine Qf;refine Qb ?_ ?_;refine Qp ?_ ?_;refine Qa (i:=4);refine Qf;refine Qh;refine Qb ?_ ?_;refine Qn Qv ?_ ?_;refine Qp ?_ ?_;refine Qa (i:=3);refine Qf;refine Qp ?_ ?_;refine Qa (i:=4);refine Qf;refine Qb ?_ ?_;refine Ql (ps:=["_law_one","_law_other"]) (R:=Qt) Zg (hr.mono (by decide)) (takes_of rfl rfl rfl rfl) ?_;refine Qb ?_ ?_;refine Qp ?_ ?_;refine Qa (i:=3);refine Qf;refine Qb ?_ ?_;refine Qp ?_ ?_;refine Qa (i:=4);refine Qf;refine Qh;refine Qb ?_ ?_;refine Qn Qv ?_ ?_;refine Qp ?_ ?_;refine Qa (i:=3);refine Qf;refine Qp ?_ ?_;refine Qa (i:=4);refine Qf;refine Qh;refine U3 Ju ?_;refine Qf;refine Qe;refine Qc ?_ ?_;refine Oc (i:=1) ?_ ?_;refine Ql (ps:=["_law_part","_law_told_here"]) (R:=Vp) Na (hr.mono (by decide)) (takes_of rfl rfl rfl rfl) ?_;refine Qb ?_ ?_;refine Qa (i:=2);refine Qb ?_ ?_;refine Qp ?_ ?_;refine Qa (i:=1);refine U3 Ju ?_;refine Qf;refine Qh;refine U3 Ju ?_;refine Qf;refine Qe;refine Qe;refine Qe;refine Qe;refine Qc ?_ ?_;refine Qx ?_;refine Qp ?_ ?_;refine Qa (i:=1);refine Qf;refine Qe
theorem Lp:FnScope ["_law_code_here","_law_length","_law_rows","_law_token","_law_right","_law_left"] ["_law_code_here","_law_length"] (defScope Hj):=⟨rfl,rfl,rfl,by decide +kernel,rfl,by decide +kernel,by decide +kernel⟩
theorem yp {P:Program} {w:World} {K:PySem.W.Frag} {mg:Str→Option Value} {base:Heap} (F:FnF K "_law_row" Hj) (T:Txt P K mg) (Gb:FnB P w K mg base 2 "_law_part_row" ["_law_part","_law_row_here"] Xt):FnB P w K mg base 3 "_law_row" ["_law_code_here","_law_length"] Xs:=by
 have nd:=Lp.nd;refine Zr (P:=P) (w:=w) (K:=K) (mg:=mg) (base:=base) (x:="_law_row") (st:=Hj) (N:=["_law_code_here","_law_length","_law_rows","_law_token","_law_right","_law_left"]) (ps:=["_law_code_here","_law_length"]) (k:=2) (body:=Tj) F T.qbh Lp (fun _ _ _ _ _ _ us hl=>match us,hl with | [_,_],_=>rfl) (fun cdv A outer s H E hr=>?_);unfold Tj;refine Qc ?_ ?_;refine Kf (i:=2) nd ?_;refine Ys ?_;refine Qb ?_ ?_;refine Zz ?_;refine Qh;refine Qh;refine Qc ?_ ?_;refine Z1 ?_ ?_ ?_;refine Q7 Ng ?_ ?_;refine Qa (i:=1);refine Qf;refine Qc ?_ ?_;refine Kf (i:=2) nd ?_;refine Ys ?_;refine Qb ?_ ?_;refine Zz ?_;refine Qb ?_ ?_;refine Zz ?_;refine Qb ?_ ?_;refine Qf;refine Qb ?_ ?_;refine Qf;refine Qb ?_ ?_;refine Qa (i:=1);refine Qh;refine Qh;refine Qh;refine Qe;refine Qe;refine Qc ?_ ?_;refine Yr (js:=[3]) (passes_of rfl) rfl ?_ ?_ ?_;refine Kq ?_;refine Qa (i:=0);refine Q8 (i:=3) nd;refine Yq (js:=[3]) ?_;refine Qc ?_ ?_;refine Z1 ?_ ?_ ?_;refine Q7 (Zl hr.units) ?_ ?_;refine Qp ?_ ?_;refine Qa (i:=3);refine Qf;refine Z8;refine Qc ?_ ?_;refine Jw ?_;refine V1 (i:=2) ?_;refine Qp ?_ ?_;refine Qa (i:=2);refine U3 Ju ?_;refine Qf;refine Qe;refine Qc ?_ ?_;refine Z1 ?_ ?_ ?_;refine Q7 (Zl hr.units) ?_ ?_;refine Qp ?_ ?_;refine Qa (i:=3);refine Qf;refine Z8;refine Qc ?_ ?_;refine Jw ?_;refine V1 (i:=2) ?_;refine Qp ?_ ?_;refine Qa (i:=2);refine U3 Ju ?_;refine Qf;refine Qe;refine Qc ?_ ?_;refine qes (js:=[4,5]) ?_;refine Z1 ?_ ?_ ?_;refine Q7 (Zl hr.units) ?_ ?_;refine Qp ?_ ?_;refine Qa (i:=3);refine Qf;refine Z8;refine Qc ?_ ?_;refine Qu (i:=4) nd ?_;refine A7 (i:=2);refine Qc ?_ ?_;refine Qu (i:=5) nd ?_;refine A7 (i:=2);refine Qc ?_ ?_;refine Oc (i:=2) ?_ ?_;refine Qn Qv ?_ ?_;refine Qa (i:=5);refine Qa (i:=4);refine U3 Ju ?_;refine Qf;refine Qe;refine Qc ?_ ?_;refine Oc (i:=2) ?_ ?_;refine Ql (ps:=["_law_part","_law_row_here"]) (R:=Xt) Gb (hr.mono (by decide)) (takes_of rfl rfl rfl rfl) ?_;refine Qb ?_ ?_;refine Qa (i:=3);refine Qb ?_ ?_;refine Qp ?_ ?_;refine Qa (i:=2);refine U3 Ju ?_;refine Qf;refine Qh;refine U3 Ju ?_;refine Qf;refine Qe;refine Qe;refine Qe;refine Qe;refine Qc ?_ ?_;refine Qx ?_;refine Qp ?_ ?_;refine Qa (i:=2);refine Qf;refine Qe
theorem T9:FnScope ["_law_numbers_here","_law_due","_law_told_here","_law_five_here"] ["_law_numbers_here","_law_due"] (defScope Vi):=⟨rfl,rfl,rfl,by decide +kernel,rfl,by decide +kernel,by decide +kernel⟩
theorem Ad {P:Program} {w:World} {K:PySem.W.Frag} {mg:Str→Option Value} {base:Heap} (F:FnF K "_law_fields" Vi) (T:Txt P K mg) (Ib:v8 P w K mg base 1 "fields" 1 Nw) (Zt:FnB P w K mg base 2 "_law_is_numbers" ["_law_told_here","_law_due"] Qw) (Z6:FnB P w K mg base 1 "_law_is_number" ["_law_told_here","_law_due"] Zd) (Hq:qdR P w K mg base 1 "settled" Yb):FnB P w K mg base 3 "_law_fields" ["_law_numbers_here","_law_due"] Zf:=by
 have nd:=T9.nd;refine Zr (P:=P) (w:=w) (K:=K) (mg:=mg) (base:=base) (x:="_law_fields") (st:=Vi) (N:=["_law_numbers_here","_law_due","_law_told_here","_law_five_here"]) (ps:=["_law_numbers_here","_law_due"]) (k:=2) (body:=Hb) F T.ze T9 (fun _ _ _ _ _ _ us hl=>match us,hl with | [_,_],_=>rfl) (fun cdv A outer s H E hr=>?_);unfold Hb;refine Qc ?_ ?_;refine Qu (i:=2) nd ?_;refine qcO _ (k:=1) (tb:=Nw) (n:=1) Ib (hr.mono (by decide)) (takes_of rfl rfl rfl rfl) ?_;refine Qa (i:=0);refine Qc ?_ ?_;refine Z1 ?_ ?_ ?_;refine x8 ?_;refine Tt ?_ ?_;refine Hz ?_;refine Hy ?_;refine jy "tuple" T.Xj T.H7 Uj kit_tuple ?_;refine Qa (i:=2);refine Pu (op:=?_);refine Hz ?_;refine Hy ?_;refine Ql (ps:=["_law_told_here","_law_due"]) (R:=Qw) Zt (hr.mono (by decide)) (takes_of rfl rfl rfl rfl) ?_;refine Qb ?_ ?_;refine Qa (i:=2);refine Qb ?_ ?_;refine Qa (i:=1);refine Qh;refine Qc ?_ ?_;refine Qx ?_;refine Tv;refine Qe;refine Qe;refine Qc ?_ ?_;refine Qu (i:=3) nd ?_;refine qaz ?_;refine Ys ?_;refine Qb ?_ ?_;refine Za T.Y7 ?_;refine Qa (i:=0);refine Qb ?_ ?_;refine Za T.Wa ?_;refine Qa (i:=0);refine Qb ?_ ?_;refine Za T.U5 ?_;refine Qa (i:=0);refine Qb ?_ ?_;refine Za T.K9 ?_;refine Qa (i:=0);refine Qb ?_ ?_;refine Za T.Rj ?_;refine Qa (i:=0);refine Qh;refine Qc ?_ ?_;refine Qx ?_;refine jz ?_ ?_;refine Ql (ps:=["_law_told_here","_law_due"]) (R:=Qw) Zt (hr.mono (by decide)) (takes_of rfl rfl rfl rfl) ?_;refine Qb ?_ ?_;refine Qa (i:=3);refine Qb ?_ ?_;refine Qa (i:=1);refine Qh;refine qay ?_;refine Ql (ps:=["_law_told_here","_law_due"]) (R:=Zd) Z6 (hr.mono (by decide)) (takes_of rfl rfl rfl rfl) ?_;refine Qb ?_ ?_;refine y5 (k:=1) (tb:=Yb) Hq (hr.mono (by decide)) ?_;refine Qa (i:=0);refine Qb ?_ ?_;refine Qn Qv ?_ ?_;refine Qn Q4 ?_ ?_;refine Qp ?_ ?_;refine Qa (i:=1);refine Qf;refine Qp ?_ ?_;refine Qa (i:=1);refine Qf;refine Qf;refine Qh;refine Qe
theorem N6:FnScope ["_law_line","_law_now","_law_later","_law_place","_law_moved","_law_told_here"] ["_law_line","_law_now","_law_later","_law_place","_law_moved"] (defScope Yg):=⟨rfl,rfl,rfl,by decide +kernel,rfl,by decide +kernel,by decide +kernel⟩
theorem L1 {P:Program} {w:World} {K:PySem.W.Frag} {mg:Str→Option Value} {base:Heap} (F:FnF K "_law_is_line" Yg) (T:Txt P K mg) (Zt:FnB P w K mg base 2 "_law_is_numbers" ["_law_told_here","_law_due"] Qw):FnB P w K mg base 3 "_law_is_line" ["_law_line","_law_now","_law_later","_law_place","_law_moved"] Yk:=by
 have nd:=N6.nd;refine Zr (P:=P) (w:=w) (K:=K) (mg:=mg) (base:=base) (x:="_law_is_line") (st:=Yg) (N:=["_law_line","_law_now","_law_later","_law_place","_law_moved","_law_told_here"]) (ps:=["_law_line","_law_now","_law_later","_law_place","_law_moved"]) (k:=2) (body:=Uh) F T.Ao N6 (fun _ _ _ _ _ _ us hl=>match us,hl with | [_,_,_,_,_],_=>rfl) (fun cdv A outer s H E hr=>?_);unfold Uh;refine Qc ?_ ?_;refine Qu (i:=5) nd ?_;refine qaz ?_;refine Ys ?_;refine Qb ?_ ?_;refine Za T.Ot ?_;refine Qa (i:=0);refine Qb ?_ ?_;refine Za T.xj ?_;refine Qa (i:=0);refine Qb ?_ ?_;refine Za T.zh ?_;refine Qa (i:=0);refine Qb ?_ ?_;refine Za T.zg ?_;refine Qa (i:=0);refine Qb ?_ ?_;refine Za T.Kr ?_;refine Qa (i:=0);refine Qb ?_ ?_;refine Za T.Gu ?_;refine Qa (i:=0);refine Qb ?_ ?_;refine Za T.Gr ?_;refine Qa (i:=0);refine Qh;refine Qc ?_ ?_;refine Qx ?_;refine Ql (ps:=["_law_told_here","_law_due"]) (R:=Qw) Zt (hr.mono (by decide)) (takes_of rfl rfl rfl rfl) ?_;refine Qb ?_ ?_;refine Qa (i:=5);refine Qb ?_ ?_;refine qaz ?_;refine Ys ?_;refine Qb ?_ ?_;refine Qp ?_ ?_;refine Qa (i:=1);refine Qf;refine Qb ?_ ?_;refine Qp ?_ ?_;refine Qa (i:=1);refine Qf;refine Qb ?_ ?_;refine Qp ?_ ?_;refine Qa (i:=1);refine Qf;refine Qb ?_ ?_;refine Qa (i:=3);refine Qb ?_ ?_;refine Qn Zq ?_ ?_;refine Qp ?_ ?_;refine Qa (i:=2);refine Qf;refine Qp ?_ ?_;refine Qa (i:=1);refine Qf;refine Qb ?_ ?_;refine Qn Zq ?_ ?_;refine Qp ?_ ?_;refine Qa (i:=2);refine Qf;refine Qp ?_ ?_;refine Qa (i:=1);refine Qf;refine Qb ?_ ?_;refine Qa (i:=4);refine Qh;refine Qh;refine Qe
theorem B4:FnScope ["_law_stream_here","_law_a","_law_b","_law_left","_law_right","_law_due"] ["_law_stream_here"] (defScope Wy):=⟨rfl,rfl,rfl,by decide +kernel,rfl,by decide +kernel,by decide +kernel⟩
theorem jm {P:Program} {w:World} {K:PySem.W.Frag} {mg:Str→Option Value} {base:Heap} (F:FnF K "_law_made" Wy) (T:Txt P K mg) (M9:FnB P w K mg base 2 "_law_five" ["_law_stream_here"] Y6) (Qj:MkKB P w K mg base 1 "Numbers" 6 0 ["divisor","modulus","spread","stride","reach"] [] [.k 0,.k 1,.k 2,.k 3,.k 4] Qk) (Zh:MkKB P w K mg base 1 "Numbers" 6 0 ["reach","stride","spread","modulus","divisor"] [] [.k 4,.k 3,.k 2,.k 1,.k 0] Qk) (Zg:FnB P w K mg base 1 "_law_multiple" ["_law_one","_law_other"] Qt) (Z7:FnB P w K mg base 3 "_law_fields" ["_law_numbers_here","_law_due"] Zf) (Kw:MkKB P w K mg base 1 "Numbers" 6 0 [] [(.int 1),(.int 1),(.int 0),(.int 1),(.int 1)] [.m 0,.m 1,.m 2,.m 3,.m 4] Qk) (Wj:MkKB P w K mg base 1 "Numbers" 6 0 ["spread"] [(.int 1),(.int 1),(.int 1),(.int 1)] [.m 0,.m 1,.k 0,.m 2,.m 3] Qk) (Pz:qfy P w K mg base 3 "__or__" 2 K0):FnB P w K mg base 4 "_law_made" ["_law_stream_here"] W6:=by
 have nd:=B4.nd;refine Zr (P:=P) (w:=w) (K:=K) (mg:=mg) (base:=base) (x:="_law_made") (st:=Wy) (N:=["_law_stream_here","_law_a","_law_b","_law_left","_law_right","_law_due"]) (ps:=["_law_stream_here"]) (k:=3) (body:=Mq) F T.vc B4 (fun _ _ _ _ _ _ us hl=>match us,hl with | [_],_=>rfl) (fun cdv A outer s H E hr=>?_);unfold Mq;refine Qc ?_ ?_;refine Qu (i:=1) nd ?_;refine Ql (ps:=["_law_stream_here"]) (R:=Y6) M9 (hr.mono (by decide)) (takes_of rfl rfl rfl rfl) ?_;refine Qb ?_ ?_;refine Qa (i:=0);refine Qh;refine Qc ?_ ?_;refine Qu (i:=2) nd ?_;refine Ql (ps:=["_law_stream_here"]) (R:=Y6) M9 (hr.mono (by decide)) (takes_of rfl rfl rfl rfl) ?_;refine Qb ?_ ?_;refine Qa (i:=0);refine Qh;refine Qc ?_ ?_;refine Qu (i:=3) nd ?_;refine Mi (n:=6) (ks:=["divisor","modulus","spread","stride","reach"]) (ms:=[]) (sl:=[.k 0,.k 1,.k 2,.k 3,.k 4]) (k:=1) (R:=Qk) Qj (hr.mono (by decide)) (takes_of rfl rfl rfl rfl) ?_;refine Zx ?_ ?_;refine Qp ?_ ?_;refine Qa (i:=1);refine Qf;refine Zx ?_ ?_;refine Qp ?_ ?_;refine Qa (i:=1);refine Qf;refine Zx ?_ ?_;refine Qp ?_ ?_;refine Qa (i:=1);refine Qf;refine Zx ?_ ?_;refine Qp ?_ ?_;refine Qa (i:=1);refine Qf;refine Zx ?_ ?_;refine Qp ?_ ?_;refine Qa (i:=1);refine Qf;refine Rg;refine Qc ?_ ?_;refine Qu (i:=4) nd ?_;refine Mi (n:=6) (ks:=["reach","stride","spread","modulus","divisor"]) (ms:=[]) (sl:=[.k 4,.k 3,.k 2,.k 1,.k 0]) (k:=1) (R:=Qk) Zh (hr.mono (by decide)) (takes_of rfl rfl rfl rfl) ?_;refine Zx ?_ ?_;refine Qp ?_ ?_;refine Qa (i:=2);refine Qf;refine Zx ?_ ?_;refine Qp ?_ ?_;refine Qa (i:=2);refine Qf;refine Zx ?_ ?_;refine Qp ?_ ?_;refine Qa (i:=2);refine Qf;refine Zx ?_ ?_;refine Qp ?_ ?_;refine Qa (i:=2);refine Qf;refine Zx ?_ ?_;refine Qp ?_ ?_;refine Qa (i:=2);refine Qf;refine Rg;refine Qc ?_ ?_;refine Qu (i:=5) nd ?_;refine Zz ?_;refine Qb ?_ ?_;refine Ql (ps:=["_law_one","_law_other"]) (R:=Qt) Zg (hr.mono (by decide)) (takes_of rfl rfl rfl rfl) ?_;refine Qb ?_ ?_;refine Qp ?_ ?_;refine Qa (i:=1);refine Qf;refine Qb ?_ ?_;refine Qp ?_ ?_;refine Qa (i:=2);refine Qf;refine Qh;refine Qb ?_ ?_;refine Ql (ps:=["_law_one","_law_other"]) (R:=Qt) Zg (hr.mono (by decide)) (takes_of rfl rfl rfl rfl) ?_;refine Qb ?_ ?_;refine Qp ?_ ?_;refine Qa (i:=1);refine Qf;refine Qb ?_ ?_;refine Qp ?_ ?_;refine Qa (i:=2);refine Qf;refine Qh;refine Qb ?_ ?_;refine Qn Qv ?_ ?_;refine Qp ?_ ?_;refine Qa (i:=1);refine Qf;refine Qp ?_ ?_;refine Qa (i:=2);refine Qf;refine Qb ?_ ?_;refine Ql (ps:=["_law_one","_law_other"]) (R:=Qt) Zg (hr.mono (by decide)) (takes_of rfl rfl rfl rfl) ?_;refine Qb ?_ ?_;refine Qp ?_ ?_;refine Qa (i:=1);refine Qf;refine Qb ?_ ?_;refine Qp ?_ ?_;refine Qa (i:=2);refine Qf;refine Qh;refine Qb ?_ ?_;refine Qn Qv ?_ ?_;refine Qp ?_ ?_;refine Qa (i:=1);refine Qf;refine Qp ?_ ?_;refine Qa (i:=2);refine Qf;refine Qh;refine Qc ?_ ?_;refine Z1 ?_ ?_ ?_;refine x8 ?_;refine Tt ?_ ?_;refine Hz ?_;refine Hy ?_;refine Ql (ps:=["_law_numbers_here","_law_due"]) (R:=Zf) Z7 (hr.mono (by decide)) (takes_of rfl rfl rfl rfl) ?_;refine Qb ?_ ?_;refine qfc (k:=3) (tb:=K0) (nm:="__or__") Pz (hr.mono (by decide)) (takes_of rfl rfl rfl rfl) ?_ ?_;refine Qa (i:=3);refine Qa (i:=4);refine Qb ?_ ?_;refine Qa (i:=5);refine Qh;refine Tt ?_ ?_;refine Hz ?_;refine Hy ?_;refine Ql (ps:=["_law_numbers_here","_law_due"]) (R:=Zf) Z7 (hr.mono (by decide)) (takes_of rfl rfl rfl rfl) ?_;refine Qb ?_ ?_;refine Qa (i:=3);refine Qb ?_ ?_;refine Qa (i:=1);refine Qh;refine Pu (op:=?_);refine Hz ?_;refine Hy ?_;refine Ql (ps:=["_law_numbers_here","_law_due"]) (R:=Zf) Z7 (hr.mono (by decide)) (takes_of rfl rfl rfl rfl) ?_;refine Qb ?_ ?_;refine Qa (i:=4);refine Qb ?_ ?_;refine Qa (i:=2);refine Qh;refine Qc ?_ ?_;refine Qx ?_;refine Tv;refine Qe;refine Qe;refine Qc ?_ ?_;refine Qx ?_;refine jz ?_ ?_;refine Ql (ps:=["_law_numbers_here","_law_due"]) (R:=Zf) Z7 (hr.mono (by decide)) (takes_of rfl rfl rfl rfl) ?_;refine Qb ?_ ?_;refine Mi (n:=6) (ks:=[]) (ms:=[(.int 1),(.int 1),(.int 0),(.int 1),(.int 1)]) (sl:=[.m 0,.m 1,.m 2,.m 3,.m 4]) (k:=1) (R:=Qk) Kw (hr.mono (by decide)) (takes_of rfl rfl rfl rfl) ?_;refine Rg;refine Qb ?_ ?_;refine Zz ?_;refine Qb ?_ ?_;refine Qf;refine Qb ?_ ?_;refine Qf;refine Qb ?_ ?_;refine Qf;refine Qb ?_ ?_;refine Qf;refine Qb ?_ ?_;refine Qf;refine Qh;refine Qh;refine qay ?_;refine Ql (ps:=["_law_numbers_here","_law_due"]) (R:=Zf) Z7 (hr.mono (by decide)) (takes_of rfl rfl rfl rfl) ?_;refine Qb ?_ ?_;refine Mi (n:=6) (ks:=["spread"]) (ms:=[(.int 1),(.int 1),(.int 1),(.int 1)]) (sl:=[.m 0,.m 1,.k 0,.m 2,.m 3]) (k:=1) (R:=Qk) Wj (hr.mono (by decide)) (takes_of rfl rfl rfl rfl) ?_;refine Zx ?_ ?_;refine Qp ?_ ?_;refine Qa (i:=1);refine Qf;refine Rg;refine Qb ?_ ?_;refine Zz ?_;refine Qb ?_ ?_;refine Qf;refine Qb ?_ ?_;refine Qf;refine Qb ?_ ?_;refine Qp ?_ ?_;refine Qa (i:=1);refine Qf;refine Qb ?_ ?_;refine Qf;refine Qb ?_ ?_;refine Qf;refine Qh;refine Qh;refine Qe
theorem B1:FnScope ["_law_lines","_law_code_here","_law_far","_law_turn_here","_law_row_here","_law_starts_here","_law_number","_law_strand"] ["_law_lines","_law_code_here","_law_far","_law_turn_here"] (defScope Ww):=⟨rfl,rfl,rfl,by decide +kernel,rfl,by decide +kernel,by decide +kernel⟩
theorem jj {P:Program} {w:World} {K:PySem.W.Frag} {mg:Str→Option Value} {base:Heap} (F:FnF K "_law_turn" Ww) (T:Txt P K mg) (Vy:FnB P w K mg base 3 "_law_row" ["_law_code_here","_law_length"] Xs) (Jx:FnB P w K mg base 1 "_law_starts" ["_law_row_here"] Je) (Rq:v8 P w K mg base 1 "strand_at" 2 Uk) (Z6:FnB P w K mg base 1 "_law_is_number" ["_law_told_here","_law_due"] Zd) (Zt:FnB P w K mg base 2 "_law_is_numbers" ["_law_told_here","_law_due"] Qw) (S7:v8 P w K mg base 1 "place_at" 2 Ht):FnB P w K mg base 4 "_law_turn" ["_law_lines","_law_code_here","_law_far","_law_turn_here"] Y3:=by
 have nd:=B1.nd;refine Zr (P:=P) (w:=w) (K:=K) (mg:=mg) (base:=base) (x:="_law_turn") (st:=Ww) (N:=["_law_lines","_law_code_here","_law_far","_law_turn_here","_law_row_here","_law_starts_here","_law_number","_law_strand"]) (ps:=["_law_lines","_law_code_here","_law_far","_law_turn_here"]) (k:=3) (body:=Mn) F T.y7 B1 (fun _ _ _ _ _ _ us hl=>match us,hl with | [_,_,_,_],_=>rfl) (fun cdv A outer s H E hr=>?_);unfold Mn;refine Qc ?_ ?_;refine Qu (i:=4) nd ?_;refine Ql (ps:=["_law_code_here","_law_length"]) (R:=Xs) Vy (hr.mono (by decide)) (takes_of rfl rfl rfl rfl) ?_;refine Qb ?_ ?_;refine Qa (i:=1);refine Qb ?_ ?_;refine Qa (i:=2);refine Qh;refine Qc ?_ ?_;refine Z1 ?_ ?_ ?_;refine Q7 (Ss hr.units) ?_ ?_;refine Vr Y8 T.Ro Uq ?_;refine Qb ?_ ?_;refine Qa (i:=4);refine Qh;refine Vr Y8 T.Ro Uq ?_;refine Qb ?_ ?_;refine Qa (i:=0);refine Qh;refine Qc ?_ ?_;refine Qx ?_;refine Tv;refine Qe;refine Qe;refine Qc ?_ ?_;refine Qu (i:=5) nd ?_;refine Ql (ps:=["_law_row_here"]) (R:=Je) Jx (hr.mono (by decide)) (takes_of rfl rfl rfl rfl) ?_;refine Qb ?_ ?_;refine Qa (i:=4);refine Qh;refine Qc ?_ ?_;refine Yr (js:=[6]) (passes_of rfl) rfl ?_ ?_ ?_;refine Pc T.Ph ?_;refine Qb ?_ ?_;refine Vr Y8 T.Ro Uq ?_;refine Qb ?_ ?_;refine Qa (i:=4);refine Qh;refine Qh;refine Q8 (i:=6) nd;refine Yq (js:=[6,7]) ?_;refine Qc ?_ ?_;refine Qu (i:=7) nd ?_;refine F9 _ (k:=1) (tb:=Uk) (n:=2) Rq (hr.mono (by decide)) (takes_of rfl rfl rfl rfl) ?_ ?_;refine Qp ?_ ?_;refine Qa (i:=0);refine Qa (i:=6);refine Qb ?_ ?_;refine Qa (i:=3);refine Qh;refine Qc ?_ ?_;refine Z1 ?_ ?_ ?_;refine x8 ?_;refine Tt ?_ ?_;refine Hz ?_;refine Hy ?_;refine jy "tuple" T.Xj T.H7 Uj kit_tuple ?_;refine Qa (i:=7);refine Pu (op:=?_);refine Hz ?_;refine Hy ?_;refine Ql (ps:=["_law_told_here","_law_due"]) (R:=Qw) Zt (hr.mono (by decide)) (takes_of rfl rfl rfl rfl) ?_;refine Qb ?_ ?_;refine Qa (i:=7);refine Qb ?_ ?_;refine Qp ?_ ?_;refine Qa (i:=4);refine Qa (i:=6);refine Qh;refine Qc ?_ ?_;refine Qx ?_;refine Tv;refine Qe;refine Qe;refine Qc ?_ ?_;refine Z1 ?_ ?_ ?_;refine Hz ?_;refine Hy ?_;refine Ql (ps:=["_law_told_here","_law_due"]) (R:=Zd) Z6 (hr.mono (by decide)) (takes_of rfl rfl rfl rfl) ?_;refine Qb ?_ ?_;refine F9 _ (k:=1) (tb:=Ht) (n:=2) S7 (hr.mono (by decide)) (takes_of rfl rfl rfl rfl) ?_ ?_;refine Qp ?_ ?_;refine Qa (i:=0);refine Qa (i:=6);refine Qb ?_ ?_;refine Qa (i:=3);refine Qh;refine Qb ?_ ?_;refine Qp ?_ ?_;refine Qa (i:=5);refine Qa (i:=6);refine Qh;refine Qc ?_ ?_;refine Qx ?_;refine Tv;refine Qe;refine Qe;refine Qe;refine Qc ?_ ?_;refine Qx ?_;refine Tv;refine Qe
theorem G9:FnScope ["parts","total","part"] ["parts"] (defScope X4):=⟨rfl,rfl,rfl,by decide +kernel,rfl,by decide +kernel,by decide +kernel⟩
theorem I6 {P:Program} {w:World} {K:PySem.W.Frag} {mg:Str→Option Value} {base:Heap} (F:FnF K "count_parts" X4) (T:Txt P K mg) {Jo:List L→FRes} {n:Nat} (Vx:FnB P w K mg base (0+n+1) "count_parts" ["parts"] Jo):FnB P w K mg base (0+n+1+1) "count_parts" ["parts"] (Ze 3 (Vt Jo)):=by
 have nd:=G9.nd;refine Zr (P:=P) (w:=w) (K:=K) (mg:=mg) (base:=base) (x:="count_parts") (st:=X4) (N:=["parts","total","part"]) (ps:=["parts"]) (k:=0+n+1) (body:=Vt Jo) F T.C7 G9 (fun _ _ _ _ _ _ us hl=>match us,hl with | [_],_=>rfl) (fun cdv A outer s H E hr=>?_);unfold Vt;refine Qc ?_ ?_;refine Qu (i:=1) nd ?_;refine Qf;refine Qc ?_ ?_;refine Yr (js:=[2]) (passes_of rfl) rfl ?_ ?_ ?_;refine Kq ?_;refine Qa (i:=0);refine Q8 (i:=2) nd;refine Yq (js:=[2]) ?_;refine Qc ?_ ?_;refine A6 (i:=1) nd Bg ?_;refine Qf;refine Qc ?_ ?_;refine Z1 ?_ ?_ ?_;refine Q7 (Zl hr.units) ?_ ?_;refine Qp ?_ ?_;refine Qa (i:=2);refine Qf;refine Z8;refine Qc ?_ ?_;refine A6 (i:=1) nd Bg ?_;refine Qn Qv ?_ ?_;refine Ql (ps:=["parts"]) (R:=Jo) Vx (hr.mono (by omega)) (takes_of rfl rfl rfl rfl) ?_;refine Qb ?_ ?_;refine Qp ?_ ?_;refine Qa (i:=2);refine Qf;refine Qh;refine Ql (ps:=["parts"]) (R:=Jo) Vx (hr.mono (by omega)) (takes_of rfl rfl rfl rfl) ?_;refine Qb ?_ ?_;refine Qp ?_ ?_;refine Qa (i:=2);refine Qf;refine Qh;refine Qe;refine Qe;refine Qe;refine Qc ?_ ?_;refine Qx ?_;refine Qa (i:=1);refine Qe
theorem Sq:FnScope ["parts","deepest","part"] ["parts"] (defScope Wv):=⟨rfl,rfl,rfl,by decide +kernel,rfl,by decide +kernel,by decide +kernel⟩
theorem yo {P:Program} {w:World} {K:PySem.W.Frag} {mg:Str→Option Value} {base:Heap} (F:FnF K "depth_of" Wv) (T:Txt P K mg) {Ym:List L→FRes} {n:Nat} (Hs:FnB P w K mg base (0+n+1) "depth_of" ["parts"] Ym):FnB P w K mg base (0+n+1+1) "depth_of" ["parts"] (Ze 3 (Ho Ym)):=by
 have nd:=Sq.nd;refine Zr (P:=P) (w:=w) (K:=K) (mg:=mg) (base:=base) (x:="depth_of") (st:=Wv) (N:=["parts","deepest","part"]) (ps:=["parts"]) (k:=0+n+1) (body:=Ho Ym) F T.Eb Sq (fun _ _ _ _ _ _ us hl=>match us,hl with | [_],_=>rfl) (fun cdv A outer s H E hr=>?_);unfold Ho;refine Qc ?_ ?_;refine Qu (i:=1) nd ?_;refine Qf;refine Qc ?_ ?_;refine Yr (js:=[2]) (passes_of rfl) rfl ?_ ?_ ?_;refine Kq ?_;refine Qa (i:=0);refine Q8 (i:=2) nd;refine Yq (js:=[2]) ?_;refine Qc ?_ ?_;refine Z1 ?_ ?_ ?_;refine Q7 (Zl hr.units) ?_ ?_;refine Qp ?_ ?_;refine Qa (i:=2);refine Qf;refine Z8;refine Qc ?_ ?_;refine Qu (i:=1) nd ?_;refine Vr (Tq rfl) T.vy O3 ?_;refine Qb ?_ ?_;refine Qa (i:=1);refine Qb ?_ ?_;refine Qn Qv ?_ ?_;refine Qf;refine Vr (Tq rfl) T.vy O3 ?_;refine Qb ?_ ?_;refine Ql (ps:=["parts"]) (R:=Ym) Hs (hr.mono (by omega)) (takes_of rfl rfl rfl rfl) ?_;refine Qb ?_ ?_;refine Qp ?_ ?_;refine Qa (i:=2);refine Qf;refine Qh;refine Qb ?_ ?_;refine Ql (ps:=["parts"]) (R:=Ym) Hs (hr.mono (by omega)) (takes_of rfl rfl rfl rfl) ?_;refine Qb ?_ ?_;refine Qp ?_ ?_;refine Qa (i:=2);refine Qf;refine Qh;refine Qh;refine Qh;refine Qe;refine Qe;refine Qe;refine Qc ?_ ?_;refine Qx ?_;refine Qa (i:=1);refine Qe
theorem Uu:FnScope ["parts","leaves","part"] ["parts","leaves"] (defScope J1):=⟨rfl,rfl,rfl,by decide +kernel,rfl,by decide +kernel,by decide +kernel⟩
theorem Fv {P:Program} {w:World} {K:PySem.W.Frag} {mg:Str→Option Value} {base:Heap} (F:FnF K "leaves_behind" J1) (T:Txt P K mg) {Z0:List L→FRes} {n:Nat} (Xx:FnB P w K mg base (0+n+1) "leaves_behind" ["parts","leaves"] Z0):FnB P w K mg base (0+n+1+1) "leaves_behind" ["parts","leaves"] (Ze 3 (Xv Z0)):=by
 have nd:=Uu.nd;refine Zr (P:=P) (w:=w) (K:=K) (mg:=mg) (base:=base) (x:="leaves_behind") (st:=J1) (N:=["parts","leaves","part"]) (ps:=["parts","leaves"]) (k:=0+n+1) (body:=Xv Z0) F T.Rh Uu (fun _ _ _ _ _ _ us hl=>match us,hl with | [_,_],_=>rfl) (fun cdv A outer s H E hr=>?_);unfold Xv;refine Qc ?_ ?_;refine Yr (js:=[2]) (passes_of rfl) rfl ?_ ?_ ?_;refine Kq ?_;refine Qa (i:=0);refine Q8 (i:=2) nd;refine Yq (js:=[2]) ?_;refine Qc ?_ ?_;refine Z1 ?_ ?_ ?_;refine Q7 (Zl hr.units) ?_ ?_;refine Qp ?_ ?_;refine Qa (i:=2);refine Qf;refine Z8;refine Qc ?_ ?_;refine Qu (i:=1) nd ?_;refine Qn Qv ?_ ?_;refine Ql (ps:=["parts","leaves"]) (R:=Z0) Xx (hr.mono (by omega)) (takes_of rfl rfl rfl rfl) ?_;refine Qb ?_ ?_;refine Qp ?_ ?_;refine Qa (i:=2);refine Qf;refine Qb ?_ ?_;refine Qa (i:=1);refine Qh;refine Ql (ps:=["parts","leaves"]) (R:=Z0) Xx (hr.mono (by omega)) (takes_of rfl rfl rfl rfl) ?_;refine Qb ?_ ?_;refine Qp ?_ ?_;refine Qa (i:=2);refine Qf;refine Qb ?_ ?_;refine Qa (i:=1);refine Qh;refine Qe;refine Qe;refine Qe;refine Qc ?_ ?_;refine Qx ?_;refine Qa (i:=1);refine Qe
theorem Nf:FnScope ["self","parts","leaves"] ["self","parts"] (defScope Jq):=⟨rfl,rfl,rfl,by decide +kernel,rfl,by decide +kernel,by decide +kernel⟩
theorem Fy {P:Program} {w:World} {K:PySem.W.Frag} {mg:Str→Option Value} {base:Heap} (F:∃fd,FunD K "__init__" "Feed.__init__" (defArgs Jq) (defBody Jq) (defScope Jq) [] [] (maA K "Feed" "__init__") fd) (T:Txt P K mg) (Xx:FnB P w K mg base 41 "leaves_behind" ["parts","leaves"] Y0) (Hs:FnB P w K mg base 41 "depth_of" ["parts"] Pr) (Vx:FnB P w K mg base 41 "count_parts" ["parts"] K5):FnM P w K mg base 42 "Feed" "__init__" 2 J4:=by
 have nd:=Nf.nd;refine Oo (P:=P) (w:=w) (K:=K) (mg:=mg) (base:=base) (C:="Feed") (m:="__init__") (x:="__init__") (qual:="Feed.__init__") (st:=Jq) (N:=["self","parts","leaves"]) (ps:=["self","parts"]) (k:=41) (body:=Wf) F Nf (fun _ _ _ _ _ _ us hl=>match us,hl with | [_,_],_=>rfl) (fun cdv A outer s H E hr=>?_);unfold Wf;refine Qc ?_ ?_;refine Z1 ?_ ?_ ?_;refine Q7 Ng ?_ ?_;refine Ql (ps:=["parts"]) (R:=Pr) Hs (hr.mono (by decide)) (takes_of rfl rfl rfl rfl) ?_;refine Qb ?_ ?_;refine Qa (i:=1);refine Qh;refine qgL T.D4 T.qaN;refine Qc ?_ ?_;refine U1 T.Bm.txt rfl hr (takes_of rfl rfl rfl rfl) ?_;refine Qb ?_ ?_;refine Z8;refine Qh;refine Qe;refine Qe;refine Qc ?_ ?_;refine Z1 ?_ ?_ ?_;refine Q7 Ng ?_ ?_;refine Ql (ps:=["parts"]) (R:=K5) Vx (hr.mono (by decide)) (takes_of rfl rfl rfl rfl) ?_;refine Qb ?_ ?_;refine Qa (i:=1);refine Qh;refine qgL T.D3 T.qaN;refine Qc ?_ ?_;refine U1 T.Bm.txt rfl hr (takes_of rfl rfl rfl rfl) ?_;refine Qb ?_ ?_;refine Z8;refine Qh;refine Qe;refine Qe;refine Qc ?_ ?_;refine Qu (i:=2) nd ?_;refine Ql (ps:=["parts","leaves"]) (R:=Y0) Xx (hr.mono (by decide)) (takes_of rfl rfl rfl rfl) ?_;refine Qb ?_ ?_;refine Qa (i:=1);refine Qb ?_ ?_;refine Qf;refine Qh;refine Qc ?_ ?_;refine Z1 ?_ ?_ ?_;refine Q7 Ng ?_ ?_;refine Qa (i:=2);refine qgL T.Cc T.qaN;refine Qc ?_ ?_;refine U1 T.Bm.txt rfl hr (takes_of rfl rfl rfl rfl) ?_;refine Qb ?_ ?_;refine Z8;refine Qh;refine Qe;refine Qe;refine Qc ?_ ?_;refine H5 (i:=0) T.zi ?_;refine Qa (i:=1);refine Qc ?_ ?_;refine H5 (i:=0) T.qc6 ?_;refine Qa (i:=2);refine Qe
theorem So:FnScope ["part","row","begin","end"] ["part","row"] (defScope Wu):=⟨rfl,rfl,rfl,by decide +kernel,rfl,by decide +kernel,by decide +kernel⟩
theorem yn {P:Program} {w:World} {K:PySem.W.Frag} {mg:Str→Option Value} {base:Heap} (F:FnF K "part_row" Wu) (T:Txt P K mg) {Xc Zy:List L→FRes} {n:Nat} (R8:FnB P w K mg base 2 "row_turned" ["row"] Km) (Bt:FnB P w K mg base 2 "row_each" ["row","k","i"] Hm) (Rz:FnB P w K mg base 1 "stretch_of" ["part","size"] Kk) (Ir:FnK P w K mg base 2 "row_cut" X9 [] [("begin",(.int 0)),("end",.non)] ["row","begin","end"] Hw) (Ky:FnB P w K mg base (2+n+1) "row_behind" ["parts","row"] Zy) (Hr:FnB P w K mg base 1 "row_size" ["row"] Vl):FnB P w K mg base (2+n+1+1) "part_row" ["part","row"] (Ze 4 (Kt Xc Zy)):=by
 have nd:=So.nd;refine Zr (P:=P) (w:=w) (K:=K) (mg:=mg) (base:=base) (x:="part_row") (st:=Wu) (N:=["part","row","begin","end"]) (ps:=["part","row"]) (k:=2+n+1) (body:=Kt Xc Zy) F T.Ea So (fun _ _ _ _ _ _ us hl=>match us,hl with | [_,_],_=>rfl) (fun cdv A outer s H E hr=>?_);unfold Kt;refine Qc ?_ ?_;refine qo ?_ ?_;refine Qp ?_ ?_;refine Qa (i:=0);refine Qf;refine Sb hr.units ?_ ?_;refine Qc ?_ ?_;refine Qx ?_;refine Qa (i:=1);refine Qe;refine Sb hr.units ?_ ?_;refine Qc ?_ ?_;refine Qx ?_;refine Ql (ps:=["row"]) (R:=Km) R8 (hr.mono (by omega)) (takes_of rfl rfl rfl rfl) ?_;refine Qb ?_ ?_;refine Qa (i:=1);refine Qh;refine Qe;refine Sb hr.units ?_ ?_;refine Qc ?_ ?_;refine Qx ?_;refine Ql (ps:=["row","k","i"]) (R:=Hm) Bt (hr.mono (by omega)) (takes_of rfl rfl rfl rfl) ?_;refine Qb ?_ ?_;refine Qa (i:=1);refine Qb ?_ ?_;refine Qp ?_ ?_;refine Qa (i:=0);refine Qf;refine Qb ?_ ?_;refine Qp ?_ ?_;refine Qa (i:=0);refine Qf;refine Qh;refine Qe;refine Sb hr.units ?_ ?_;refine Qc ?_ ?_;refine Qx ?_;refine Qn Qv ?_ ?_;refine Ql (ps:=["parts","row"]) (R:=Zy) Ky (hr.mono (by omega)) (takes_of rfl rfl rfl rfl) ?_;refine Qb ?_ ?_;refine Qp ?_ ?_;refine Qa (i:=0);refine Qf;refine Qb ?_ ?_;refine Qa (i:=1);refine Qh;refine Ql (ps:=["parts","row"]) (R:=Zy) Ky (hr.mono (by omega)) (takes_of rfl rfl rfl rfl) ?_;refine Qb ?_ ?_;refine Qp ?_ ?_;refine Qa (i:=0);refine Qf;refine Qb ?_ ?_;refine Qa (i:=1);refine Qh;refine Qe;refine qcN ?_;refine Qc ?_ ?_;refine Od (js:=([2]++([3]++[]))) ?_ ?_;refine Ql (ps:=["part","size"]) (R:=Kk) Rz (hr.mono (by omega)) (takes_of rfl rfl rfl rfl) ?_;refine Qb ?_ ?_;refine Qa (i:=0);refine Qb ?_ ?_;refine Ql (ps:=["row"]) (R:=Vl) Hr (hr.mono (by omega)) (takes_of rfl rfl rfl rfl) ?_;refine Qb ?_ ?_;refine Qa (i:=1);refine Qh;refine Qh;refine C6 rfl ?_;refine Zp ?_ ?_;refine Q8 (i:=2) nd;refine Zp ?_ ?_;refine Q8 (i:=3) nd;refine Pd;refine Qc ?_ ?_;refine Qx ?_;refine qaA (x:="row_cut") (st:=X9) (dvs:=[]) (kwv:=[("begin",(.int 0)),("end",.non)]) (ps:=["row","begin","end"]) (k:=2) (ds:=[]) (sl:=[.p 0,.k 0,.k 1]) (n:=1) (R:=Hw) ["begin","end"] Ir qs3 rfl (hr.mono (by omega)) (takes_of rfl rfl rfl rfl) ?_ ?_;refine Qb ?_ ?_;refine Qa (i:=1);refine Qh;refine Zx ?_ ?_;refine Qa (i:=2);refine Zx ?_ ?_;refine Qa (i:=3);refine Rg;refine Qe;refine Qe
theorem Md:FnScope ["parts","row","part"] ["parts","row"] (defScope Yz):=⟨rfl,rfl,rfl,by decide +kernel,rfl,by decide +kernel,by decide +kernel⟩
theorem E2 {P:Program} {w:World} {K:PySem.W.Frag} {mg:Str→Option Value} {base:Heap} (F:FnF K "row_behind" Yz) (T:Txt P K mg) {Xc Zy:List L→FRes} {n:Nat} (El:FnB P w K mg base (2+n+1) "part_row" ["part","row"] Xc):FnB P w K mg base (2+n+1+1) "row_behind" ["parts","row"] (Ze 3 (Ks Xc Zy)):=by
 have nd:=Md.nd;refine Zr (P:=P) (w:=w) (K:=K) (mg:=mg) (base:=base) (x:="row_behind") (st:=Yz) (N:=["parts","row","part"]) (ps:=["parts","row"]) (k:=2+n+1) (body:=Ks Xc Zy) F T.Ff Md (fun _ _ _ _ _ _ us hl=>match us,hl with | [_,_],_=>rfl) (fun cdv A outer s H E hr=>?_);unfold Ks;refine Qc ?_ ?_;refine Yr (js:=[2]) (passes_of rfl) rfl ?_ ?_ ?_;refine Kq ?_;refine Qa (i:=0);refine Q8 (i:=2) nd;refine Yq (js:=[2]) ?_;refine Qc ?_ ?_;refine Qu (i:=1) nd ?_;refine Ql (ps:=["part","row"]) (R:=Xc) El (hr.mono (by omega)) (takes_of rfl rfl rfl rfl) ?_;refine Qb ?_ ?_;refine Qa (i:=2);refine Qb ?_ ?_;refine Qa (i:=1);refine Qh;refine Qe;refine Qc ?_ ?_;refine Qx ?_;refine Qa (i:=1);refine Qe
theorem Pa:FnScope ["part","old"] ["part","old"] (defScope X5):=⟨rfl,rfl,rfl,by decide +kernel,rfl,by decide +kernel,by decide +kernel⟩
theorem I7 {P:Program} {w:World} {K:PySem.W.Frag} {mg:Str→Option Value} {base:Heap} (F:FnF K "behind_part" X5) (T:Txt P K mg) {Z5 Zm:List L→FRes} {n:Nat} (M6:FnB P w K mg base 3 "behind_each" ["k","old"] Vm) (Pl:FnB P w K mg base 3 "behind_block" ["k","old"] Yi) (Pz:qfy P w K mg base 3 "__or__" 2 K0) (R9:FnB P w K mg base 3 "behind_cut" ["count","old"] Y1) (Yo:FnB P w K mg base (3+n+1) "behind_parts" ["parts","numbers"] Zm):FnB P w K mg base (3+n+1+1) "behind_part" ["part","old"] (Ze 2 (Xg Z5 Zm)):=by
 have nd:=Pa.nd;refine Zr (P:=P) (w:=w) (K:=K) (mg:=mg) (base:=base) (x:="behind_part") (st:=X5) (N:=["part","old"]) (ps:=["part","old"]) (k:=3+n+1) (body:=Xg Z5 Zm) F T.C9 Pa (fun _ _ _ _ _ _ us hl=>match us,hl with | [_,_],_=>rfl) (fun cdv A outer s H E hr=>?_);unfold Xg;refine Qc ?_ ?_;refine qo ?_ ?_;refine Qp ?_ ?_;refine Qa (i:=0);refine Qf;refine qjw hr.units ?_ ?_;refine Qc ?_ ?_;refine Qx ?_;refine Qa (i:=1);refine Qe;refine Sb hr.units ?_ ?_;refine Qc ?_ ?_;refine Qx ?_;refine Ql (ps:=["k","old"]) (R:=Vm) M6 (hr.mono (by omega)) (takes_of rfl rfl rfl rfl) ?_;refine Qb ?_ ?_;refine Qp ?_ ?_;refine Qa (i:=0);refine Qf;refine Qb ?_ ?_;refine Qa (i:=1);refine Qh;refine Qe;refine Sb hr.units ?_ ?_;refine Qc ?_ ?_;refine Qx ?_;refine Ql (ps:=["k","old"]) (R:=Yi) Pl (hr.mono (by omega)) (takes_of rfl rfl rfl rfl) ?_;refine Qb ?_ ?_;refine Qp ?_ ?_;refine Qa (i:=0);refine Qf;refine Qb ?_ ?_;refine Qa (i:=1);refine Qh;refine Qe;refine Sb hr.units ?_ ?_;refine Qc ?_ ?_;refine Qx ?_;refine qfc (k:=3) (tb:=K0) (nm:="__or__") Pz (hr.mono (by omega)) (takes_of rfl rfl rfl rfl) ?_ ?_;refine Ql (ps:=["parts","numbers"]) (R:=Zm) Yo (hr.mono (by omega)) (takes_of rfl rfl rfl rfl) ?_;refine Qb ?_ ?_;refine Qp ?_ ?_;refine Qa (i:=0);refine Qf;refine Qb ?_ ?_;refine Qa (i:=1);refine Qh;refine Ql (ps:=["parts","numbers"]) (R:=Zm) Yo (hr.mono (by omega)) (takes_of rfl rfl rfl rfl) ?_;refine Qb ?_ ?_;refine Qp ?_ ?_;refine Qa (i:=0);refine Qf;refine Qb ?_ ?_;refine Qa (i:=1);refine Qh;refine Qe;refine qcN ?_;refine Qc ?_ ?_;refine Qx ?_;refine Ql (ps:=["count","old"]) (R:=Y1) R9 (hr.mono (by omega)) (takes_of rfl rfl rfl rfl) ?_;refine Qb ?_ ?_;refine Qp ?_ ?_;refine Qa (i:=0);refine Qf;refine Qb ?_ ?_;refine Qa (i:=1);refine Qh;refine Qe;refine Qe
theorem Hu:FnScope ["parts","numbers","part"] ["parts","numbers"] (defScope Xl):=⟨rfl,rfl,rfl,by decide +kernel,rfl,by decide +kernel,by decide +kernel⟩
theorem Ly {P:Program} {w:World} {K:PySem.W.Frag} {mg:Str→Option Value} {base:Heap} (F:FnF K "behind_parts" Xl) (T:Txt P K mg) {Z5 Zm:List L→FRes} {n:Nat} (Dx:FnB P w K mg base (3+n+1) "behind_part" ["part","old"] Z5):FnB P w K mg base (3+n+1+1) "behind_parts" ["parts","numbers"] (Ze 3 (Yn Z5 Zm)):=by
 have nd:=Hu.nd;refine Zr (P:=P) (w:=w) (K:=K) (mg:=mg) (base:=base) (x:="behind_parts") (st:=Xl) (N:=["parts","numbers","part"]) (ps:=["parts","numbers"]) (k:=3+n+1) (body:=Yn Z5 Zm) F T.Sd Hu (fun _ _ _ _ _ _ us hl=>match us,hl with | [_,_],_=>rfl) (fun cdv A outer s H E hr=>?_);unfold Yn;refine Qc ?_ ?_;refine Yr (js:=[2]) (passes_of rfl) rfl ?_ ?_ ?_;refine Kq ?_;refine Qa (i:=0);refine Q8 (i:=2) nd;refine Yq (js:=[2]) ?_;refine Qc ?_ ?_;refine Qu (i:=1) nd ?_;refine Ql (ps:=["part","old"]) (R:=Z5) Dx (hr.mono (by omega)) (takes_of rfl rfl rfl rfl) ?_;refine Qb ?_ ?_;refine Qa (i:=2);refine Qb ?_ ?_;refine Qa (i:=1);refine Qh;refine Qe;refine Qc ?_ ?_;refine Qx ?_;refine Qa (i:=1);refine Qe
theorem Gn:FnScope ["self","length"] ["self","length"] (defScope Jb):=⟨rfl,rfl,rfl,by decide +kernel,rfl,by decide +kernel,by decide +kernel⟩
theorem Cz {P:Program} {w:World} {K:PySem.W.Frag} {mg:Str→Option Value} {base:Heap} (F:∃fd,FunD K "strands_at" "Feed.strands_at" (defArgs Jb) (defBody Jb) (defScope Jb) [] [] (maA K "Feed" "strands_at") fd) (T:Txt P K mg) (Ky:FnB P w K mg base 43 "row_behind" ["parts","row"] Um) (S8:FnB P w K mg base 1 "whole_row" ["length"] W5):FnM P w K mg base 44 "Feed" "strands_at" 2 Vq:=by
 have nd:=Gn.nd;refine Oo (P:=P) (w:=w) (K:=K) (mg:=mg) (base:=base) (C:="Feed") (m:="strands_at") (x:="strands_at") (qual:="Feed.strands_at") (st:=Jb) (N:=["self","length"]) (ps:=["self","length"]) (k:=43) (body:=Vu) F Gn (fun _ _ _ _ _ _ us hl=>match us,hl with | [_,_],_=>rfl) (fun cdv A outer s H E hr=>?_);unfold Vu;refine Qc ?_ ?_;refine Qx ?_;refine Ql (ps:=["parts","row"]) (R:=Um) Ky (hr.mono (by decide)) (takes_of rfl rfl rfl rfl) ?_;refine Qb ?_ ?_;refine Za T.zi ?_;refine Qa (i:=0);refine Qb ?_ ?_;refine Ql (ps:=["length"]) (R:=W5) S8 (hr.mono (by decide)) (takes_of rfl rfl rfl rfl) ?_;refine Qb ?_ ?_;refine Qa (i:=1);refine Qh;refine Qh;refine Qe
theorem Cm:FnScope ["feed"] ["feed"] (defScope Kh):=⟨rfl,rfl,rfl,by decide +kernel,rfl,by decide +kernel,by decide +kernel⟩
theorem E3 {P:Program} {w:World} {K:PySem.W.Frag} {mg:Str→Option Value} {base:Heap} (F:FnF K "numbers_of" Kh) (T:Txt P K mg) (Yo:FnB P w K mg base 44 "behind_parts" ["parts","numbers"] V0) (zq:qdR P w K mg base 1 "parts" Ce) (Kw:MkKB P w K mg base 1 "Numbers" 6 0 [] [(.int 1),(.int 1),(.int 0),(.int 1),(.int 1)] [.m 0,.m 1,.m 2,.m 3,.m 4] Qk):FnB P w K mg base 45 "numbers_of" ["feed"] Xd:=by
 have nd:=Cm.nd;refine Zr (P:=P) (w:=w) (K:=K) (mg:=mg) (base:=base) (x:="numbers_of") (st:=Kh) (N:=["feed"]) (ps:=["feed"]) (k:=44) (body:=Gy) F T.j7 Cm (fun _ _ _ _ _ _ us hl=>match us,hl with | [_],_=>rfl) (fun cdv A outer s H E hr=>?_);unfold Gy;refine Qc ?_ ?_;refine Qx ?_;refine Ql (ps:=["parts","numbers"]) (R:=V0) Yo (hr.mono (by decide)) (takes_of rfl rfl rfl rfl) ?_;refine Qb ?_ ?_;refine y5 (k:=1) (tb:=Ce) zq (hr.mono (by decide)) ?_;refine Qa (i:=0);refine Qb ?_ ?_;refine Mi (n:=6) (ks:=[]) (ms:=[(.int 1),(.int 1),(.int 0),(.int 1),(.int 1)]) (sl:=[.m 0,.m 1,.m 2,.m 3,.m 4]) (k:=1) (R:=Qk) Kw (hr.mono (by decide)) (takes_of rfl rfl rfl rfl) ?_;refine Rg;refine Qh;refine Qe
theorem Nz:FnScope ["feed","length","numbers","found","place","later_place","strand","later"] ["feed","length"] (defScope Yd):=⟨rfl,rfl,rfl,by decide +kernel,rfl,by decide +kernel,by decide +kernel⟩
theorem Lx {P:Program} {w:World} {K:PySem.W.Frag} {mg:Str→Option Value} {base:Heap} (F:FnF K "strand_lines" Yd) (T:Txt P K mg) (Xz:FnB P w K mg base 45 "numbers_of" ["feed"] Xd) (Hq:qdR P w K mg base 1 "settled" Yb) (Hf:v8 P w K mg base 44 "strands_at" 2 X0) (M0:MkB P w K mg base 1 "StrandLine" 5 [] Zw):FnB P w K mg base 46 "strand_lines" ["feed","length"] Jd:=by
 have nd:=Nz.nd;refine Zr (P:=P) (w:=w) (K:=K) (mg:=mg) (base:=base) (x:="strand_lines") (st:=Yd) (N:=["feed","length","numbers","found","place","later_place","strand","later"]) (ps:=["feed","length"]) (k:=45) (body:=V2) F T.Ak Nz (fun _ _ _ _ _ _ us hl=>match us,hl with | [_,_],_=>rfl) (fun cdv A outer s H E hr=>?_);unfold V2;refine Qc ?_ ?_;refine Qu (i:=2) nd ?_;refine Ql (ps:=["feed"]) (R:=Xd) Xz (hr.mono (by decide)) (takes_of rfl rfl rfl rfl) ?_;refine Qb ?_ ?_;refine Qa (i:=0);refine Qh;refine Qc ?_ ?_;refine Z1 ?_ ?_ ?_;refine Q7 Rb ?_ ?_;refine Qa (i:=1);refine y5 (k:=1) (tb:=Yb) Hq (hr.mono (by decide)) ?_;refine Qa (i:=2);refine Qc ?_ ?_;refine U1 T.Ua.txt rfl hr (takes_of rfl rfl rfl rfl) ?_;refine Qb ?_ ?_;refine Qa (i:=1);refine Qh;refine Qe;refine Qe;refine Qc ?_ ?_;refine Kf (i:=3) nd ?_;refine Ys ?_;refine Qh;refine Qc ?_ ?_;refine Qu (i:=4) nd ?_;refine Qf;refine Qc ?_ ?_;refine Qu (i:=5) nd ?_;refine Qf;refine Qc ?_ ?_;refine Yr (js:=([6]++([7]++[]))) (passes_of rfl) rfl ?_ ?_ ?_;refine qjx T.qo7 ?_;refine Qb ?_ ?_;refine F9 _ (k:=44) (tb:=X0) (n:=2) Hf (hr.mono (by decide)) (takes_of rfl rfl rfl rfl) ?_ ?_;refine Qa (i:=0);refine Qb ?_ ?_;refine Qa (i:=1);refine Qh;refine Qb ?_ ?_;refine F9 _ (k:=44) (tb:=X0) (n:=2) Hf (hr.mono (by decide)) (takes_of rfl rfl rfl rfl) ?_ ?_;refine Qa (i:=0);refine Qb ?_ ?_;refine Qn Qv ?_ ?_;refine Qa (i:=1);refine Za T.Wa ?_;refine Qa (i:=2);refine Qh;refine Qh;refine C6 rfl ?_;refine Zp ?_ ?_;refine Q8 (i:=6) nd;refine Zp ?_ ?_;refine Q8 (i:=7) nd;refine Pd;refine Yq (js:=[6,7]) ?_;refine Qc ?_ ?_;refine Jw ?_;refine V1 (i:=3) ?_;refine qjB (n:=5) (k:=1) (R:=Zw) M0 (hr.mono (by decide)) (takes_of rfl rfl rfl rfl) ?_;refine Qb ?_ ?_;refine Qa (i:=6);refine Qb ?_ ?_;refine Qa (i:=7);refine Qb ?_ ?_;refine Qa (i:=4);refine Qb ?_ ?_;refine Qn Zq ?_ ?_;refine Qa (i:=5);refine Qa (i:=4);refine Qh;refine Qc ?_ ?_;refine A6 (i:=4) nd Bg ?_;refine Qp ?_ ?_;refine Qa (i:=6);refine Qf;refine Qc ?_ ?_;refine A6 (i:=5) nd Bg ?_;refine Qp ?_ ?_;refine Qa (i:=7);refine Qf;refine Qe;refine Qc ?_ ?_;refine Qx ?_;refine Qa (i:=3);refine Qe
theorem B2:FnScope ["_law_feed","_law_length","e","_law_told_here","_law_lines"] ["_law_feed","_law_length"] (defScope Wx):=⟨rfl,rfl,rfl,by decide +kernel,rfl,by decide +kernel,by decide +kernel⟩
theorem jk {P:Program} {w:World} {K:PySem.W.Frag} {mg:Str→Option Value} {base:Heap} (F:FnF K "_law_told" Wx) (T:Txt P K mg) (Pk:FnB P w K mg base 46 "strand_lines" ["feed","length"] Jd):FnB P w K mg base 47 "_law_told" ["_law_feed","_law_length"] Xm:=by
 have nd:=B2.nd;refine Zr (P:=P) (w:=w) (K:=K) (mg:=mg) (base:=base) (x:="_law_told") (st:=Wx) (N:=["_law_feed","_law_length","e","_law_told_here","_law_lines"]) (ps:=["_law_feed","_law_length"]) (k:=46) (body:=H6) F T.y8 B2 (fun _ _ _ _ _ _ us hl=>match us,hl with | [_,_],_=>rfl) (fun cdv A outer s H E hr=>?_);unfold H6;refine Qc ?_ ?_;refine Qu (i:=3) nd ?_;refine Fe;refine Qc ?_ ?_;refine Qu (i:=4) nd ?_;refine Fe;refine Qc ?_ ?_;refine qjp (i:=2) (qc7 "BadLength") (qey T.Ua.exm) nd rfl rfl ⟨rfl,by decide,.inl T.Ua.txt.gC⟩ (takes_of rfl rfl rfl rfl) (fun _ _ _ tk' pas'=>?_) (fun a oe cls d pn ex hz hv he=>?_);refine Qc ?_ ?_;refine Qu (i:=4) nd ?_;refine Ql (ps:=["feed","length"]) (R:=Jd) Pk (hr.mono (by decide)) tk' ?_;refine Qb ?_ ?_;refine Qa (i:=0);refine Qb ?_ ?_;refine Qa (i:=1);refine Qh;refine Qe;refine Qc ?_ ?_;refine Qu (i:=3) nd ?_;refine qaz ?_;refine Ys ?_;refine Qb ?_ ?_;refine qn9 T.Ua.xf T.Ua.noN hz hv (i:=2);refine Qb ?_ ?_;refine qfd (c:=(.own "FoldError")) (b:=true) (i:=2) T.Xj T.Sn T.qtj hz hv (qb7 rfl T.vr);refine Qb ?_ ?_;refine qfd (c:=(.ty "ValueError")) (b:=true) (i:=2) T.Xj T.Sn T.qtk hz hv (qmV rfl T.xx (by first | boot_by_name | rfl | kernel_rfl));refine Qb ?_ ?_;refine qgK (cs:=[(.own "BadIndex"),(.own "BadPlace")]) (b:=false) (i:=2) T.Xj T.Sn T.qtl hz hv (qi6 (by decide)) (qiF (c:=(.own "BadIndex")) (qb7 rfl T.qbu) (qiF (c:=(.own "BadPlace")) (qb7 rfl T.qbt) qiE));refine Qh;refine Qe;refine Qc ?_ ?_;refine qcK ?_;refine Ys ?_;refine Qb ?_ ?_;refine Qa (i:=3);refine Qb ?_ ?_;refine Qa (i:=4);refine Qh;refine Qe
theorem qeV:FnScope ["_law_script","_law_stream_here","_law_most","_law_code_here","_law_feed","_law_due","_law_first","_law_length","_law_turns","_law_below","_law_told_here","_law_lines","_law_now","_law_later","_law_starts_here","_law_moved","_law_number","_law_move","_law_turn_here"] ["_law_script"] (defScope qaX):=⟨rfl,rfl,rfl,by decide +kernel,rfl,by decide +kernel,by decide +kernel⟩
theorem qiI {P:Program} {w:World} {K:PySem.W.Frag} {mg:Str→Option Value} (F:FnF K "law" qaX) (T:Txt P K mg) (Wk:∀base:Heap,FnB P w K mg base 1 "_law_stream" ["_law_script"] Vn) (Gf:∀base:Heap,FnB P w K mg base 3 "_law_code" ["_law_stream_here","_law_tokens","_law_boths","_law_most","_law_ways"] W8) (Ic:∀base:Heap,MkB P w K mg base 42 "Feed" 2 [] J4) (V3:∀base:Heap,FnB P w K mg base 3 "_law_numbers" ["_law_code_here"] Yj) (Uc:∀base:Heap,FnB P w K mg base 47 "_law_told" ["_law_feed","_law_length"] Xm) (Vy:∀base:Heap,FnB P w K mg base 3 "_law_row" ["_law_code_here","_law_length"] Xs) (Jx:∀base:Heap,FnB P w K mg base 1 "_law_starts" ["_law_row_here"] Je) (V5:∀base:Heap,FnB P w K mg base 2 "_law_bounded" ["_law_lines","_law_length","_law_due","_law_size","_law_moved"] Yl) (Qz:∀base:Heap,FnB P w K mg base 1 "_law_draw" ["_law_stream_here","_law_many"] Qm) (Ut:∀base:Heap,FnB P w K mg base 1 "_law_parts" ["_law_code_here"] Kn) (Ud:∀base:Heap,FnB P w K mg base 2 "_law_long" ["_law_stream_here","_law_groups"] Y5) (Z7:∀base:Heap,FnB P w K mg base 3 "_law_fields" ["_law_numbers_here","_law_due"] Zf) (Ge:∀base:Heap,FnB P w K mg base 4 "_law_made" ["_law_stream_here"] W6) (V4:∀base:Heap,FnB P w K mg base 3 "_law_is_line" ["_law_line","_law_now","_law_later","_law_place","_law_moved"] Yk) (Ga:∀base:Heap,FnB P w K mg base 4 "_law_turn" ["_law_lines","_law_code_here","_law_far","_law_turn_here"] Y3) (Xz:∀base:Heap,FnB P w K mg base 45 "numbers_of" ["feed"] Xd) (hl:∀ns:List Int,ns.length≤63→∃bs,qd4 [.d (.ro (ns.map .int))]=.ok (.d (.bl true)) bs) :
  ∃fd:FuncData,(∀(s:Shared) (v:Value),BindsTo s fd ⟨[v],[]⟩ [("_law_script",v)])∧∀base:Heap,FnOk P w K mg base CX0 48 (cA K "law") fd ["_law_script"] (Ax K 63):=by
 have nd:=qeV.nd;refine qgC (P:=P) (w:=w) (K:=K) (mg:=mg) (x:="law") (sx:="_law_script") (st:=qaX) (N:=["_law_script","_law_stream_here","_law_most","_law_code_here","_law_feed","_law_due","_law_first","_law_length","_law_turns","_law_below","_law_told_here","_law_lines","_law_now","_law_later","_law_starts_here","_law_moved","_law_number","_law_move","_law_turn_here"]) (k:=47) (n:=63) (body:=qeM) F qeV (fun _ _ _ _ _ _ us hl=>match us,hl with | [_],_=>rfl) hl (fun base cdv A outer s H E hr=>?_);have Wk:=Wk base;have Gf:=Gf base;have Ic:=Ic base;have V3:=V3 base;have Uc:=Uc base;have Vy:=Vy base;have Jx:=Jx base;have V5:=V5 base;have Qz:=Qz base;have Ut:=Ut base;have Ud:=Ud base;have Z7:=Z7 base;have Ge:=Ge base;have V4:=V4 base;have Ga:=Ga base;have Xz:=Xz base;unfold qeM;refine Qc ?_ ?_
 ·refine Kf (i:=1) nd ?_
  ·refine qev (ps:=["_law_script"]) (R:=Vn) Wk (hr.mono (by decide)) takes0 ?_
   ·refine Qb ?_ ?_
    ·refine Qa (i:=0)
    ·refine Qh
 ·refine Qc ?_ ?_
  ·refine Qu (i:=2) nd ?_
   ·refine Qp ?_ ?_
    ·refine qaz ?_
     ·refine Ys ?_
      ·refine Qb ?_ ?_
       ·refine Qf
       ·refine Qb ?_ ?_
        ·refine Qf
        ·refine Qh
    ·refine Ql (ps:=["_law_stream_here","_law_many"]) (R:=Qm) Qz (hr.mono (by decide)) takes0 ?_
     ·refine Qb ?_ ?_
      ·refine Qa (i:=1)
      ·refine Qb ?_ ?_
       ·refine Qf
       ·refine Qh
  ·refine Qc ?_ ?_
   ·refine Qu (i:=3) nd ?_
    ·refine Ql (ps:=["_law_stream_here","_law_tokens","_law_boths","_law_most","_law_ways"]) (R:=W8) Gf (hr.mono (by decide)) takes0 ?_
     ·refine Qb ?_ ?_
      ·refine Qa (i:=1)
      ·refine Qb ?_ ?_
       ·refine Qn Qv ?_ ?_
        ·refine Qf
        ·refine Ql (ps:=["_law_stream_here","_law_many"]) (R:=Qm) Qz (hr.mono (by decide)) takes0 ?_
         ·refine Qb ?_ ?_
          ·refine Qa (i:=1)
          ·refine Qb ?_ ?_
           ·refine Qf
           ·refine Qh
       ·refine Qb ?_ ?_
        ·refine Ql (ps:=["_law_stream_here","_law_many"]) (R:=Qm) Qz (hr.mono (by decide)) takes0 ?_
         ·refine Qb ?_ ?_
          ·refine Qa (i:=1)
          ·refine Qb ?_ ?_
           ·refine Qf
           ·refine Qh
        ·refine Qb ?_ ?_
         ·refine Qa (i:=2)
         ·refine Qb ?_ ?_
          ·refine Qf
          ·refine Qh
   ·refine Qc ?_ ?_
    ·refine Qu (i:=4) nd ?_
     ·refine qjB (n:=2) (k:=42) (R:=J4) Ic (hr.mono (by decide)) takes0 ?_
      ·refine Qb ?_ ?_
       ·refine Ql (ps:=["_law_code_here"]) (R:=Kn) Ut (hr.mono (by decide)) takes0 ?_
        ·refine Qb ?_ ?_
         ·refine Qa (i:=3)
         ·refine Qh
       ·refine Qh
    ·refine Qc ?_ ?_
     ·refine Qu (i:=5) nd ?_
      ·refine Ql (ps:=["_law_code_here"]) (R:=Yj) V3 (hr.mono (by decide)) takes0 ?_
       ·refine Qb ?_ ?_
        ·refine Qa (i:=3)
        ·refine Qh
     ·refine Qc ?_ ?_
      ·refine Qu (i:=6) nd ?_
       ·refine Qn Qv ?_ ?_
        ·refine Qn Q4 ?_ ?_
         ·refine Qp ?_ ?_
          ·refine Qa (i:=5)
          ·refine Qf
         ·refine Qp ?_ ?_
          ·refine Qa (i:=5)
          ·refine Qf
        ·refine Qf
      ·refine Qc ?_ ?_
       ·refine Qu (i:=7) nd ?_
        ·refine Qn Qv ?_ ?_
         ·refine Qa (i:=6)
         ·refine Ql (ps:=["_law_stream_here","_law_many"]) (R:=Qm) Qz (hr.mono (by decide)) takes0 ?_
          ·refine Qb ?_ ?_
           ·refine Qa (i:=1)
           ·refine Qb ?_ ?_
            ·refine Qf
            ·refine Qh
       ·refine Qc ?_ ?_
        ·refine Z1 ?_ ?_ ?_
         ·refine Q7 (Zl hr.units) ?_ ?_
          ·refine Ql (ps:=["_law_stream_here","_law_many"]) (R:=Qm) Qz (hr.mono (by decide)) takes0 ?_
           ·refine Qb ?_ ?_
            ·refine Qa (i:=1)
            ·refine Qb ?_ ?_
             ·refine Qf
             ·refine Qh
          ·refine Qf
         ·refine Qc ?_ ?_
          ·refine Qu (i:=7) nd ?_
           ·refine Qn Qv ?_ ?_
            ·refine Qa (i:=7)
            ·refine Ql (ps:=["_law_stream_here","_law_groups"]) (R:=Y5) Ud (hr.mono (by decide)) takes0 ?_
             ·refine Qb ?_ ?_
              ·refine Qa (i:=1)
              ·refine Qb ?_ ?_
               ·refine Qf
               ·refine Qh
          ·refine Qe
         ·refine Qe
        ·refine Qc ?_ ?_
         ·refine Qu (i:=8) nd ?_
          ·refine qaz ?_
           ·refine Ys ?_
            ·refine Qb ?_ ?_
             ·refine Qf
             ·refine Qb ?_ ?_
              ·refine Qf
              ·refine Qb ?_ ?_
               ·refine Ql (ps:=["_law_stream_here","_law_many"]) (R:=Qm) Qz (hr.mono (by decide)) takes0 ?_
                ·refine Qb ?_ ?_
                 ·refine Qa (i:=1)
                 ·refine Qb ?_ ?_
                  ·refine Qf
                  ·refine Qh
               ·refine Qb ?_ ?_
                ·refine Ql (ps:=["_law_stream_here","_law_groups"]) (R:=Y5) Ud (hr.mono (by decide)) takes0 ?_
                 ·refine Qb ?_ ?_
                  ·refine Qa (i:=1)
                  ·refine Qb ?_ ?_
                   ·refine Qf
                   ·refine Qh
                ·refine Qh
         ·refine Qc ?_ ?_
          ·refine Qu (i:=9) nd ?_
           ·refine Qn Zq ?_ ?_
            ·refine Qn Zq ?_ ?_
             ·refine Qa (i:=6)
             ·refine Qf
            ·refine Ql (ps:=["_law_stream_here","_law_many"]) (R:=Qm) Qz (hr.mono (by decide)) takes0 ?_
             ·refine Qb ?_ ?_
              ·refine Qa (i:=1)
              ·refine Qb ?_ ?_
               ·refine Qf
               ·refine Qh
          ·refine Qc ?_ ?_
           ·refine Z1 ?_ ?_ ?_
            ·refine x8 ?_
             ·refine Tt ?_ ?_
              ·refine Hz ?_
               ·refine Hy ?_
                ·refine Ql (ps:=["_law_numbers_here","_law_due"]) (R:=Zf) Z7 (hr.mono (by decide)) takes0 ?_
                 ·refine Qb ?_ ?_
                  ·refine Ql (ps:=["feed"]) (R:=Xd) Xz (hr.mono (by decide)) takes0 ?_
                   ·refine Qb ?_ ?_
                    ·refine Qa (i:=4)
                    ·refine Qh
                  ·refine Qb ?_ ?_
                   ·refine Qa (i:=5)
                   ·refine Qh
              ·refine Pu (op:=?_)
               ·refine Hz ?_
                ·refine Hy ?_
                 ·refine Ql (ps:=["_law_stream_here"]) (R:=W6) Ge (hr.mono (by decide)) takes0 ?_
                  ·refine Qb ?_ ?_
                   ·refine Qa (i:=1)
                   ·refine Qh
            ·refine Qc ?_ ?_
             ·refine Qx ?_
              ·refine Tv
             ·refine Qe
            ·refine Qe
           ·refine Qc ?_ ?_
            ·refine Z1 ?_ ?_ ?_
             ·refine Q7 (Ss hr.units) ?_ ?_
              ·refine Qp ?_ ?_
               ·refine Ql (ps:=["_law_feed","_law_length"]) (R:=Xm) Uc (hr.mono (by decide)) takes0 ?_
                ·refine Qb ?_ ?_
                 ·refine Qa (i:=4)
                 ·refine Qb ?_ ?_
                  ·refine Qa (i:=9)
                  ·refine Qh
               ·refine Qf
              ·refine qaz ?_
               ·refine Ys ?_
                ·refine Qb ?_ ?_
                 ·refine Qa (i:=9)
                 ·refine Qb ?_ ?_
                  ·refine Tv
                  ·refine Qb ?_ ?_
                   ·refine Tv
                   ·refine Qb ?_ ?_
                    ·refine Tv
                    ·refine Qh
             ·refine Qc ?_ ?_
              ·refine Qx ?_
               ·refine Tv
              ·refine Qe
             ·refine Qe
            ·refine Qc ?_ ?_
             ·refine Od (js:=([10]++([11]++[]))) ?_ ?_
              ·refine Ql (ps:=["_law_feed","_law_length"]) (R:=Xm) Uc (hr.mono (by decide)) takes0 ?_
               ·refine Qb ?_ ?_
                ·refine Qa (i:=4)
                ·refine Qb ?_ ?_
                 ·refine Qa (i:=7)
                 ·refine Qh
              ·refine qjy rfl ?_
               ·refine Zp ?_ ?_
                ·refine Q8 (i:=10) nd
                ·refine Zp ?_ ?_
                 ·refine Q8 (i:=11) nd
                 ·refine Pd
             ·refine Qc ?_ ?_
              ·refine Qu (i:=12) nd ?_
               ·refine Ql (ps:=["_law_code_here","_law_length"]) (R:=Xs) Vy (hr.mono (by decide)) takes0 ?_
                ·refine Qb ?_ ?_
                 ·refine Qa (i:=3)
                 ·refine Qb ?_ ?_
                  ·refine Qa (i:=7)
                  ·refine Qh
              ·refine Qc ?_ ?_
               ·refine Qu (i:=13) nd ?_
                ·refine Ql (ps:=["_law_code_here","_law_length"]) (R:=Xs) Vy (hr.mono (by decide)) takes0 ?_
                 ·refine Qb ?_ ?_
                  ·refine Qa (i:=3)
                  ·refine Qb ?_ ?_
                   ·refine Qn Qv ?_ ?_
                    ·refine Qa (i:=7)
                    ·refine Qp ?_ ?_
                     ·refine Qa (i:=5)
                     ·refine Qf
                   ·refine Qh
               ·refine Qc ?_ ?_
                ·refine Z1 ?_ ?_ ?_
                 ·refine x8 ?_
                  ·refine Tt ?_ ?_
                   ·refine Q7 qcd ?_ ?_
                    ·refine Qa (i:=10)
                    ·refine Fe
                   ·refine Tt ?_ ?_
                    ·refine Hz ?_
                     ·refine Hy ?_
                      ·refine jy "list" T.Xj T.qkG qhn qem ?_
                       ·refine Qa (i:=11)
                    ·refine Tt ?_ ?_
                     ·refine Q7 (Ss hr.units) ?_ ?_
                      ·refine Vr Y8 T.Ro Uq ?_
                       ·refine Qb ?_ ?_
                        ·refine Qa (i:=11)
                        ·refine Qh
                      ·refine Vr Y8 T.Ro Uq ?_
                       ·refine Qb ?_ ?_
                        ·refine Qa (i:=12)
                        ·refine Qh
                     ·refine Pu (op:=?_)
                      ·refine Q7 (Ss hr.units) ?_ ?_
                       ·refine Vr Y8 T.Ro Uq ?_
                        ·refine Qb ?_ ?_
                         ·refine Qa (i:=13)
                         ·refine Qh
                       ·refine Vr Y8 T.Ro Uq ?_
                        ·refine Qb ?_ ?_
                         ·refine Qa (i:=12)
                         ·refine Qh
                 ·refine Qc ?_ ?_
                  ·refine Qx ?_
                   ·refine Tv
                  ·refine Qe
                 ·refine Qe
                ·refine Qc ?_ ?_
                 ·refine Qu (i:=14) nd ?_
                  ·refine Ql (ps:=["_law_row_here"]) (R:=Je) Jx (hr.mono (by decide)) takes0 ?_
                   ·refine Qb ?_ ?_
                    ·refine Qa (i:=12)
                    ·refine Qh
                 ·refine Qc ?_ ?_
                  ·refine Qu (i:=15) nd ?_
                   ·refine Ql (ps:=["_law_row_here"]) (R:=Je) Jx (hr.mono (by decide)) takes0 ?_
                    ·refine Qb ?_ ?_
                     ·refine Qa (i:=13)
                     ·refine Qh
                  ·refine Qc ?_ ?_
                   ·refine Yr (js:=[16]) PassesOwn.never rfl ?_ ?_ ?_
                    ·refine Pc T.Ph ?_
                     ·refine Qb ?_ ?_
                      ·refine Vr Y8 T.Ro Uq ?_
                       ·refine Qb ?_ ?_
                        ·refine Qa (i:=12)
                        ·refine Qh
                      ·refine Qh
                    ·refine Q8 (i:=16) nd
                    ·refine Yq (js:=[16,17]) ?_
                     ·refine Qc ?_ ?_
                      ·refine Qu (i:=17) nd ?_
                       ·refine Qn Zq ?_ ?_
                        ·refine Qp ?_ ?_
                         ·refine Qa (i:=15)
                         ·refine Qa (i:=16)
                        ·refine Qp ?_ ?_
                         ·refine Qa (i:=14)
                         ·refine Qa (i:=16)
                      ·refine Qc ?_ ?_
                       ·refine Z1 ?_ ?_ ?_
                        ·refine Hz ?_
                         ·refine Hy ?_
                          ·refine Ql (ps:=["_law_line","_law_now","_law_later","_law_place","_law_moved"]) (R:=Yk) V4 (hr.mono (by decide)) takes0 ?_
                           ·refine Qb ?_ ?_
                            ·refine Qp ?_ ?_
                             ·refine Qa (i:=11)
                             ·refine Qa (i:=16)
                            ·refine Qb ?_ ?_
                             ·refine Qp ?_ ?_
                              ·refine Qa (i:=12)
                              ·refine Qa (i:=16)
                             ·refine Qb ?_ ?_
                              ·refine Qp ?_ ?_
                               ·refine Qa (i:=13)
                               ·refine Qa (i:=16)
                              ·refine Qb ?_ ?_
                               ·refine Qp ?_ ?_
                                ·refine Qa (i:=14)
                                ·refine Qa (i:=16)
                               ·refine Qb ?_ ?_
                                ·refine Qa (i:=17)
                                ·refine Qh
                        ·refine Qc ?_ ?_
                         ·refine Qx ?_
                          ·refine Tv
                         ·refine Qe
                        ·refine Qe
                       ·refine Qe
                   ·refine Qc ?_ ?_
                    ·refine Yr (js:=[18]) PassesOwn.never rfl ?_ ?_ ?_
                     ·refine Kq ?_
                      ·refine Qa (i:=8)
                     ·refine Q8 (i:=18) nd
                     ·refine Yq (js:=[18]) ?_
                      ·refine Qc ?_ ?_
                       ·refine Z1 ?_ ?_ ?_
                        ·refine Hz ?_
                         ·refine Hy ?_
                          ·refine Ql (ps:=["_law_lines","_law_code_here","_law_far","_law_turn_here"]) (R:=Y3) Ga (hr.mono (by decide)) takes0 ?_
                           ·refine Qb ?_ ?_
                            ·refine Qa (i:=11)
                            ·refine Qb ?_ ?_
                             ·refine Qa (i:=3)
                             ·refine Qb ?_ ?_
                              ·refine Qn Qv ?_ ?_
                               ·refine Qa (i:=7)
                               ·refine Qn Q4 ?_ ?_
                                ·refine Qp ?_ ?_
                                 ·refine Qa (i:=5)
                                 ·refine Qf
                                ·refine Qa (i:=18)
                              ·refine Qb ?_ ?_
                               ·refine Qa (i:=18)
                               ·refine Qh
                        ·refine Qc ?_ ?_
                         ·refine Qx ?_
                          ·refine Tv
                         ·refine Qe
                        ·refine Qe
                       ·refine Qe
                    ·refine Qc ?_ ?_
                     ·refine Qx ?_
                      ·refine Ql (ps:=["_law_lines","_law_length","_law_due","_law_size","_law_moved"]) (R:=Yl) V5 (hr.mono (by decide)) takes0 ?_
                       ·refine Qb ?_ ?_
                        ·refine Qa (i:=11)
                        ·refine Qb ?_ ?_
                         ·refine Qa (i:=7)
                         ·refine Qb ?_ ?_
                          ·refine Qa (i:=5)
                          ·refine Qb ?_ ?_
                           ·refine Qp ?_ ?_
                            ·refine Qa (i:=14)
                            ·refine U3 Ju ?_
                             ·refine Qf
                           ·refine Qb ?_ ?_
                            ·refine Qn Zq ?_ ?_
                             ·refine Qp ?_ ?_
                              ·refine Qa (i:=15)
                              ·refine U3 Ju ?_
                               ·refine Qf
                             ·refine Qp ?_ ?_
                              ·refine Qa (i:=14)
                              ·refine U3 Ju ?_
                               ·refine Qf
                            ·refine Qh
                     ·refine Qe
theorem qhU {K:PySem.W.Frag} {h:Heap} {mg:Str→Option Value} (X:K.In h) (G:h.Ns mainGlobals mg) (c:xy fnL msL prL ck K):Txt PySem.Challenge.pw_unseenfolds_k13_straight_lines K mg:=by
 have c:=c.c;obtain⟨c1,c0⟩:=He.ba c.chk;obtain⟨c2,c0⟩:=He.ba c0;obtain⟨c3,c0⟩:=He.ba c0;obtain⟨c4,c0⟩:=He.ba c0;obtain⟨c5,c0⟩:=He.ba c0;obtain⟨cc1,c0⟩:=He.ba c0;obtain⟨cc2,c0⟩:=He.ba c0;obtain⟨cc3,c0⟩:=He.ba c0;obtain⟨cz,c0⟩:=He.ba c0;unfold ck2 at cz;obtain⟨qt1,cz⟩:=He.ba cz;obtain⟨qo4,cz⟩:=He.ba cz;obtain⟨xn,cz⟩:=He.ba cz;obtain⟨xq,cz⟩:=He.ba cz;obtain⟨vq,cz⟩:=He.ba cz;obtain⟨qbs,cz⟩:=He.ba cz;obtain⟨O0,cz⟩:=He.ba cz;obtain⟨qbr,cz⟩:=He.ba cz;obtain⟨Oz,cz⟩:=He.ba cz;obtain⟨xp,cz⟩:=He.ba cz;obtain⟨xo,cz⟩:=He.ba cz;obtain⟨qbq,cz⟩:=He.ba cz;obtain⟨Oy,cz⟩:=He.ba cz;obtain⟨qbp,cz⟩:=He.ba cz;obtain⟨vp,cz⟩:=He.ba cz;obtain⟨qdu,cz⟩:=He.ba cz;obtain⟨vo,cz⟩:=He.ba cz;obtain⟨qdt,cz⟩:=He.ba cz;obtain⟨xm,cz⟩:=He.ba cz;obtain⟨Ox,cz⟩:=He.ba cz;obtain⟨Ow,cz⟩:=He.ba cz;obtain⟨Tw,cz⟩:=He.ba cz;obtain⟨S0,cz⟩:=He.ba cz;obtain⟨qtQ,c0⟩:=He.ba c0;obtain⟨qtP,c0⟩:=He.ba c0;obtain⟨qtO,c0⟩:=He.ba c0;have yi:=Q0 c4 (i:=0);have qa3:=Q0 c4 (i:=1);have qa2:=Q0 c4 (i:=2);exact⟨Vs X G (Q0 c1 (i:=0)),
  Vs X G (Q0 c1 (i:=1)),
  Vs X G (Q0 c1 (i:=2)),
  Vs X G (Q0 c1 (i:=3)),
  Vs X G (Q0 c1 (i:=4)),
  Vs X G (Q0 c1 (i:=5)),
  Vs X G (Q0 c1 (i:=6)),
  Vs X G (Q0 c1 (i:=7)),
  Vs X G (Q0 c1 (i:=8)),
  Vs X G (Q0 c1 (i:=9)),
  Vs X G (Q0 c1 (i:=10)),
  Vs X G (Q0 c1 (i:=11)),
  Vs X G (Q0 c1 (i:=12)),
  qgQ X G (Q0 c3 (i:=0)),
  qc9 (d:=Ie) X G yi (c.qgu 0) rfl rfl rfl (fun _ _ _ _ _ _ _ _ _ _=>.of_eq rfl) ⟨_,_,_,_,_,_,_,_,_,_,_,by rfl,rfl⟩ ⟨_,rfl,rfl⟩ (by first | rfl | decide +kernel) rfl rfl rfl rfl (by decide) (by decide),
  qc9 (d:=Eg) X G qa3 (c.qgu 1) rfl rfl rfl (fun _ _ _ _ _ _ _ _ _ _=>.of_eq rfl) ⟨_,_,_,_,_,_,_,_,_,_,_,by rfl,rfl⟩ ⟨_,rfl,rfl⟩ (by first | rfl | decide +kernel) rfl rfl rfl rfl (by decide) (by decide),
  qc9 (d:=Ef) X G qa2 (c.qgu 2) rfl rfl rfl (fun _ _ _ _ _ _ _ _ _ _=>.of_eq rfl) ⟨_,_,_,_,_,_,_,_,_,_,_,by rfl,rfl⟩ ⟨_,rfl,rfl⟩ (by first | rfl | decide +kernel) rfl rfl rfl rfl (by decide) (by decide),
  Q9 X G (Q0 c2 (i:=0)),
  Q9 X G (Q0 c2 (i:=1)),
  Q9 X G (Q0 c2 (i:=2)),
  Q9 X G (Q0 c2 (i:=3)),
  Q9 X G (Q0 c2 (i:=4)),
  Q9 X G (Q0 c2 (i:=5)),
  Q9 X G (Q0 c2 (i:=6)),
  Q9 X G (Q0 c2 (i:=7)),
  Q9 X G (Q0 c2 (i:=8)),
  Q9 X G (Q0 c2 (i:=9)),
  Q9 X G (Q0 c2 (i:=10)),
  Q9 X G (Q0 c2 (i:=11)),
  Q9 X G (Q0 c2 (i:=12)),
  Q9 X G (Q0 c2 (i:=13)),
  Q9 X G (Q0 c2 (i:=14)),
  Q9 X G (Q0 c2 (i:=15)),
  Q9 X G (Q0 c2 (i:=16)),
  Q9 X G (Q0 c2 (i:=17)),
  Q9 X G (Q0 c2 (i:=18)),
  Q9 X G (Q0 c2 (i:=19)),
  Q9 X G (Q0 c2 (i:=20)),
  Q9 X G (Q0 c2 (i:=21)),
  Q9 X G (Q0 c2 (i:=22)),
  Q9 X G (Q0 c2 (i:=23)),
  Q9 X G (Q0 c2 (i:=24)),
  Q9 X G (Q0 c2 (i:=25)),
  Q9 X G (Q0 c2 (i:=26)),
  Q9 X G (Q0 c2 (i:=27)),
  Q9 X G (Q0 c2 (i:=28)),
  Q9 X G (Q0 c2 (i:=29)),
  Q9 X G (Q0 c2 (i:=30)),
  Q9 X G (Q0 c2 (i:=31)),
  Q9 X G (Q0 c2 (i:=32)),
  Q9 X G (Q0 c2 (i:=33)),
  Q9 X G (Q0 c2 (i:=34)),
  Q9 X G (Q0 c2 (i:=35)),
  Q9 X G (Q0 c2 (i:=36)),
  Q9 X G (Q0 c2 (i:=37)),
  Q9 X G (Q0 c2 (i:=38)),
  Q9 X G (Q0 c2 (i:=39)),
  Q9 X G (Q0 c2 (i:=40)),
  Q9 X G (Q0 c2 (i:=41)),
  Q9 X G (Q0 c2 (i:=42)),
  Q9 X G (Q0 c2 (i:=43)),
  Q9 X G (Q0 c2 (i:=44)),
  Q9 X G (Q0 c2 (i:=45)),
  Q9 X G (Q0 c2 (i:=46)),
  Bp (Q0 cc1 (x:="Feed") (i:=0)),
  Bp (Q0 cc1 (x:="Numbers") (i:=1)),
  Bp (Q0 cc1 (x:="StrandLine") (i:=2)),
  E9 (Q0 cc3 (x:=("Feed","strands_at","Feed")) (i:=0)),
  E9 (Q0 cc3 (x:=("Numbers","fields","Numbers")) (i:=1)),
  E9 (Q0 cc3 (x:=("StrandLine","place_at","StrandLine")) (i:=2)),
  E9 (Q0 cc3 (x:=("StrandLine","strand_at","StrandLine")) (i:=3)),
  qdl (Q0 qo4 (x:=("Feed","MOST_DEPTH",(.int 6))) (i:=0)),
  qdl (Q0 qo4 (x:=("Feed","MOST_LEAVES",(.int 16))) (i:=1)),
  qdl (Q0 qo4 (x:=("Feed","MOST_PARTS",(.int 24))) (i:=2)),
  qew xn,
  K8 xq,
  K8 vq,
  K8 qbs,
  K8 O0,
  K8 qbr,
  K8 Oz,
  K8 xp,
  K8 xo,
  K8 qbq,
  K8 Oy,
  K8 qbp,
  K8 vp,
  K8 qdu,
  K8 vo,
  yu qdt,
  yu xm,
  yu Ox,
  qbY Ow,
  qbY Tw,
  qiH S0,
  Q9 X G (Q0 c2 (i:=47)),
  Q9 X G (Q0 c2 (i:=48)),
  Q9 X G (Q0 c2 (i:=49)),
  Q9 X G (Q0 c2 (i:=50)),
  Q9 X G (Q0 c2 (i:=51)),
  Q9 X G (Q0 c2 (i:=52)),
  qgO (Q0 c5 (i:=0)),
  of_decide_eq_true qtQ,
  of_decide_eq_true qtP,
  of_decide_eq_true qtO⟩
theorem qkM (hl:∀ns:List Int,ns.length≤63→∃bs,qd4 [.d (.ro (ns.map .int))]=.ok (.d (.bl true)) bs) {w:World} {K:PySem.W.Frag} {h:Heap} {mg:Str→Option Value} (X:K.In h) (G:h.Ns mainGlobals mg) (cP:xy fnL msL prL ck K) :
  mg "law"=some (.ref (cA K "law"))∧∃fd:FuncData,(∀(s:Shared) (u:Value),BindsTo s fd ⟨[u],[]⟩ [("_law_script",u)])∧∀base:Heap,FnOk PySem.Challenge.pw_unseenfolds_k13_straight_lines w K mg base CX0 48 (cA K "law") fd ["_law_script"] (Ax K 63):=by
 have T:=qhU X G cP;have c:=cP.c;have Yv:=fun base:Heap=>Su (w:=w) (base:=base) (c.def_ 0 (d:=G8)) T;have Bv:=fun base:Heap=>Cy (w:=w) (base:=base) (cP.qiv 0 (d:=Ma)) T;have F2:=fun base:Heap=>D8 (w:=w) (base:=base) (c.def_ 1 (d:=Nj)) T;have Tb:=fun base:Heap=>Nn (w:=w) (base:=base) (c.def_ 2 (d:=Us)) T;have Nu:=fun base:Heap=>Mf (w:=w) (base:=base) (c.def_ 3 (d:=Wq)) T;have Ta:=fun base:Heap=>Nl (w:=w) (base:=base) (c.def_ 4 (d:=Ur)) T;have H9:=fun base:Heap=>Fu (w:=w) (base:=base) (c.def_ 5 (d:=Ru)) T;have M5:=fun base:Heap=>I0 (w:=w) (base:=base) (c.def_ 6 (d:=Dk)) T;have R7:=fun base:Heap=>Ez (w:=w) (base:=base) (c.def_ 7 (d:=Fj)) T;have Hr:=fun base:Heap=>yl (w:=w) (base:=base) (c.def_ 8 (d:=Eh)) T;have Rz:=fun base:Heap=>Ey (w:=w) (base:=base) (c.def_ 9 (d:=Fi)) T;have S8:=fun base:Heap=>ji (w:=w) (base:=base) (c.def_ 10 (d:=Ig)) T;have x7:=fun base:Heap=>E6 (w:=w) (base:=base) (cP.qiv 1 (d:=Fq)) T;have Wk:=fun base:Heap=>I9 (w:=w) (base:=base) (c.def_ 11 (d:=Dm)) T;have Qz:=fun base:Heap=>jr (w:=w) (base:=base) (c.def_ 12 (d:=Ip)) T;have Hg:=fun base:Heap=>Ac (w:=w) (base:=base) (c.def_ 13 (d:=Dt)) T;have Ut:=fun base:Heap=>E5 (w:=w) (base:=base) (c.def_ 14 (d:=Fp)) T;have Zg:=fun base:Heap=>Fx (w:=w) (base:=base) (c.def_ 15 (d:=Rx)) T;have S9:=fun base:Heap=>jq (w:=w) (base:=base) (c.def_ 16 (d:=Io)) T;have Bu:=fun base:Heap=>yq (w:=w) (base:=base) (c.def_ 17 (d:=Ek)) T;have Z6:=fun base:Heap=>D7 (w:=w) (base:=base) (c.def_ 18 (d:=Ni)) T;have Jx:=fun base:Heap=>Aa (w:=w) (base:=base) (c.def_ 19 (d:=Dr)) T;have M8:=fun base:Heap=>jl (w:=w) (base:=base) (c.def_ 20 (d:=Ij)) T;have R8:=fun base:Heap=>E1 (w:=w) (base:=base) (c.def_ 21 (d:=Fm)) T (H9 base);have Bt:=fun base:Heap=>ym (w:=w) (base:=base) (c.def_ 22 (d:=Ei)) T (M5 base);have Ir:=fun base:Heap=>qa8 (w:=w) (base:=base) (c.def_ 23 (d:=x4)) T (Hr base) (R7 base);have Ud:=fun base:Heap=>jn (w:=w) (base:=base) (c.def_ 24 (d:=Il)) T (Qz base);have M7:=fun base:Heap=>Ab (w:=w) (base:=base) (c.def_ 25 (d:=Ds)) T (Qz base);have Na:=fun base:Heap=>Ae (w:=w) (base:=base) (c.def_ 26 (d:=Dw)) T (Zg base);have Gb:=fun base:Heap=>Fw (w:=w) (base:=base) (c.def_ 27 (d:=Rw)) T (Bu base) (S9 base);have Zt:=fun base:Heap=>Cw (w:=w) (base:=base) (c.def_ 28 (d:=P0)) T (Z6 base);have M9:=fun base:Heap=>jo (w:=w) (base:=base) (c.def_ 29 (d:=Im)) T (Qz base);have V5:=fun base:Heap=>L3 (w:=w) (base:=base) (c.def_ 30 (d:=Sj)) T (M8 base);have Qj:∀base:Heap,MkKB PySem.Challenge.pw_unseenfolds_k13_straight_lines w K mg base 1 "Numbers" 6 0 ["divisor","modulus","spread","stride","reach"] [] [.k 0,.k 1,.k 2,.k 3,.k 4] Qk:=fun base=>qc (dm:=([]:List V)) (sl:=[.k 0,.k 1,.k 2,.k 3,.k 4]) T.Td (Yv base) (fun fd F=>kb0 F 1 ["divisor","modulus","spread","stride","reach"] ([]:List (Str×V)) (Sl.p 0::([.k 0,.k 1,.k 2,.k 3,.k 4]:List Sl).map upS) (by simp) (by simp) (fun D doc pm an cdv ct us mv ws l1 l2 l3=>match us,mv,ws,l1,l2,l3 with | [_],[],[_,_,_,_,_],_,_,_=>rfl)) (fun _=>.nil) T.Rm (by decide);have F3:=fun base:Heap=>D9 (w:=w) (base:=base) (c.def_ 31 (d:=Nk)) T (Qj base);have R9:=fun base:Heap=>E4 (w:=w) (base:=base) (c.def_ 32 (d:=Fo)) T (Qj base);have M6:=fun base:Heap=>I8 (w:=w) (base:=base) (c.def_ 33 (d:=Dl)) T (Qj base);have Pl:=fun base:Heap=>Lz (w:=w) (base:=base) (c.def_ 34 (d:=Sf)) T (Qj base);have Gf:=fun base:Heap=>jt (w:=w) (base:=base) (c.def_ 35 (d:=Iq)) T (Qz base) (Hg base) (M7 base);have V3:=fun base:Heap=>L0 (w:=w) (base:=base) (c.def_ 36 (d:=Sh)) T (Na base) (Zg base);have Vy:=fun base:Heap=>yp (w:=w) (base:=base) (c.def_ 37 (d:=Ej)) T (Gb base);have Ib:∀base:Heap,v8 PySem.Challenge.pw_unseenfolds_k13_straight_lines w K mg base 1 "fields" 1 Nw:=fun base=>(C1 (qh T.qcB T.Fz (F2 base) (by decide)) F6);have Hq:∀base:Heap,qdR PySem.Challenge.pw_unseenfolds_k13_straight_lines w K mg base 1 "settled" Yb:=fun base=>(jc (qb5 T.D5 (Bv base) (by decide)) qal);have Z7:=fun base:Heap=>Ad (w:=w) (base:=base) (c.def_ 38 (d:=Du)) T (Ib base) (Zt base) (Z6 base) (Hq base);have V4:=fun base:Heap=>L1 (w:=w) (base:=base) (c.def_ 39 (d:=Si)) T (Zt base);have Zh:∀base:Heap,MkKB PySem.Challenge.pw_unseenfolds_k13_straight_lines w K mg base 1 "Numbers" 6 0 ["reach","stride","spread","modulus","divisor"] [] [.k 4,.k 3,.k 2,.k 1,.k 0] Qk:=fun base=>qc (dm:=([]:List V)) (sl:=[.k 4,.k 3,.k 2,.k 1,.k 0]) T.Td (Yv base) (fun fd F=>kb0 F 1 ["reach","stride","spread","modulus","divisor"] ([]:List (Str×V)) (Sl.p 0::([.k 4,.k 3,.k 2,.k 1,.k 0]:List Sl).map upS) (by simp) (by simp) (fun D doc pm an cdv ct us mv ws l1 l2 l3=>match us,mv,ws,l1,l2,l3 with | [_],[],[_,_,_,_,_],_,_,_=>rfl)) (fun _=>.nil) T.Rm (by decide);have Kw:∀base:Heap,MkKB PySem.Challenge.pw_unseenfolds_k13_straight_lines w K mg base 1 "Numbers" 6 0 [] [(.int 1),(.int 1),(.int 0),(.int 1),(.int 1)] [.m 0,.m 1,.m 2,.m 3,.m 4] Qk:=fun base=>qc (dm:=([(V.int 1),(V.int 1),(V.int 0),(V.int 1),(V.int 1)]:List V)) (sl:=[.m 0,.m 1,.m 2,.m 3,.m 4]) T.Td (Yv base) (fun fd F=>kb0 F 1 [] ([("divisor",(V.int 1)),("modulus",(V.int 1)),("spread",(V.int 0)),("stride",(V.int 1)),("reach",(V.int 1))]:List (Str×V)) (Sl.p 0::([.m 0,.m 1,.m 2,.m 3,.m 4]:List Sl).map upS) (by simp) (by simp) (fun D doc pm an cdv ct us mv ws l1 l2 l3=>match us,mv,ws,l1,l2,l3 with | [_],[_,_,_,_,_],[],_,_,_=>⟨_,_,_,_,_,_,rfl,rfl,⟨_,_,_,_,_,_,rfl,rfl,⟨_,_,_,_,_,_,rfl,rfl,⟨_,_,_,_,_,_,rfl,rfl,⟨_,_,_,_,_,_,rfl,rfl,rfl⟩⟩⟩⟩⟩)) (fun _=>(.cons (.int 1) (.cons (.int 1) (.cons (.int 0) (.cons (.int 1) (.cons (.int 1) .nil)))))) T.Rm (by decide);have Wj:∀base:Heap,MkKB PySem.Challenge.pw_unseenfolds_k13_straight_lines w K mg base 1 "Numbers" 6 0 ["spread"] [(.int 1),(.int 1),(.int 1),(.int 1)] [.m 0,.m 1,.k 0,.m 2,.m 3] Qk:=fun base=>qc (dm:=([(V.int 1),(V.int 1),(V.int 1),(V.int 1)]:List V)) (sl:=[.m 0,.m 1,.k 0,.m 2,.m 3]) T.Td (Yv base) (fun fd F=>kb0 F 1 ["spread"] ([("divisor",(V.int 1)),("modulus",(V.int 1)),("stride",(V.int 1)),("reach",(V.int 1))]:List (Str×V)) (Sl.p 0::([.m 0,.m 1,.k 0,.m 2,.m 3]:List Sl).map upS) (by simp) (by simp) (fun D doc pm an cdv ct us mv ws l1 l2 l3=>match us,mv,ws,l1,l2,l3 with | [_],[_,_,_,_],[_],_,_,_=>⟨_,_,_,_,_,_,rfl,rfl,⟨_,_,_,_,_,_,rfl,rfl,⟨_,_,_,_,_,_,rfl,rfl,⟨_,_,_,_,_,_,rfl,rfl,rfl⟩⟩⟩⟩)) (fun _=>(.cons (.int 1) (.cons (.int 1) (.cons (.int 1) (.cons (.int 1) .nil))))) T.Rm (by decide);have Pz:∀base:Heap,qfy PySem.Challenge.pw_unseenfolds_k13_straight_lines w K mg base 3 "__or__" 2 K0:=fun base=>(qcc (qgh T.D6 (F3 base) (by decide)) qea);have Ge:=fun base:Heap=>jm (w:=w) (base:=base) (c.def_ 40 (d:=Ik)) T (M9 base) (Qj base) (Zh base) (Zg base) (Z7 base) (Kw base) (Wj base) (Pz base);have Rq:∀base:Heap,v8 PySem.Challenge.pw_unseenfolds_k13_straight_lines w K mg base 1 "strand_at" 2 Uk:=fun base=>(C1 (qh T.Fc T.Nq (Nu base) (by decide)) F6);have S7:∀base:Heap,v8 PySem.Challenge.pw_unseenfolds_k13_straight_lines w K mg base 1 "place_at" 2 Ht:=fun base=>(C1 (qh T.Fc T.Rc (Ta base) (by decide)) F6);have Ga:=fun base:Heap=>jj (w:=w) (base:=base) (c.def_ 41 (d:=Ih)) T (Vy base) (Jx base) (Rq base) (Z6 base) (Zt base) (S7 base);have Av:∀(base:Heap) (n:Nat),FnB PySem.Challenge.pw_unseenfolds_k13_straight_lines w K mg base (0+n+1) "count_parts" ["parts"] ((Jn n)):=fun base n=>by
  induction n with
  | zero=>exact (Zr (x:="count_parts") (st:=X4) (N:=["parts","total","part"]) (body:=fun _=>.bad) (c.def_ 42 (d:=M3)) T.C7 G9 (fun _ _ _ _ _ _ us hl=>match us,hl with | [_],_=>rfl) (fun _ _ _ _ _ _ _=>Sx))
  | succ n ih=>exact I6 (w:=w) (base:=base) (c.def_ 42 (d:=M3)) T (ih)
 have Vx:∀base:Heap,FnB PySem.Challenge.pw_unseenfolds_k13_straight_lines w K mg base 41 "count_parts" ["parts"] K5:=fun base=>(Av base 40);have v9:∀(base:Heap) (n:Nat),FnB PySem.Challenge.pw_unseenfolds_k13_straight_lines w K mg base (0+n+1) "depth_of" ["parts"] ((X7 n)):=fun base n=>by
  induction n with
  | zero=>exact (Zr (x:="depth_of") (st:=Wv) (N:=["parts","deepest","part"]) (body:=fun _=>.bad) (c.def_ 43 (d:=Bs)) T.Eb Sq (fun _ _ _ _ _ _ us hl=>match us,hl with | [_],_=>rfl) (fun _ _ _ _ _ _ _=>Sx))
  | succ n ih=>exact yo (w:=w) (base:=base) (c.def_ 43 (d:=Bs)) T (ih)
 have Hs:∀base:Heap,FnB PySem.Challenge.pw_unseenfolds_k13_straight_lines w K mg base 41 "depth_of" ["parts"] Pr:=fun base=>(v9 base 40);have F4:∀(base:Heap) (n:Nat),FnB PySem.Challenge.pw_unseenfolds_k13_straight_lines w K mg base (0+n+1) "leaves_behind" ["parts","leaves"] ((Z4 n)):=fun base n=>by
  induction n with
  | zero=>exact (Zr (x:="leaves_behind") (st:=J1) (N:=["parts","leaves","part"]) (body:=fun _=>.bad) (c.def_ 44 (d:=H8)) T.Rh Uu (fun _ _ _ _ _ _ us hl=>match us,hl with | [_,_],_=>rfl) (fun _ _ _ _ _ _ _=>Sx))
  | succ n ih=>exact Fv (w:=w) (base:=base) (c.def_ 44 (d:=H8)) T (ih)
 have Xx:∀base:Heap,FnB PySem.Challenge.pw_unseenfolds_k13_straight_lines w K mg base 41 "leaves_behind" ["parts","leaves"] Y0:=fun base=>(F4 base 40);have Iu:=fun base:Heap=>Fy (w:=w) (base:=base) (c.def_ 45 (d:=Ry)) T (Xx base) (Hs base) (Vx base);have Iw:∀(base:Heap) (n:Nat),FnB PySem.Challenge.pw_unseenfolds_k13_straight_lines w K mg base (2+n+1) "part_row" ["part","row"] ((Zb n).1)∧FnB PySem.Challenge.pw_unseenfolds_k13_straight_lines w K mg base (2+n+1) "row_behind" ["parts","row"] ((Zb n).2):=fun base n=>by
  induction n with
  | zero=>exact⟨(Zr (x:="part_row") (st:=Wu) (N:=["part","row","begin","end"]) (body:=fun _=>.bad) (c.def_ 46 (d:=Br)) T.Ea So (fun _ _ _ _ _ _ us hl=>match us,hl with | [_,_],_=>rfl) (fun _ _ _ _ _ _ _=>Sx)),(Zr (x:="row_behind") (st:=Yz) (N:=["parts","row","part"]) (body:=fun _=>.bad) (c.def_ 47 (d:=Rv)) T.Ff Md (fun _ _ _ _ _ _ us hl=>match us,hl with | [_,_],_=>rfl) (fun _ _ _ _ _ _ _=>Sx))⟩
  | succ n ih=>exact⟨yn (w:=w) (base:=base) (c.def_ 46 (d:=Br)) T (R8 base) (Bt base) (Rz base) (Ir base) (ih.2) (Hr base),E2 (w:=w) (base:=base) (c.def_ 47 (d:=Rv)) T (ih.1)⟩
 have El:∀base:Heap,FnB PySem.Challenge.pw_unseenfolds_k13_straight_lines w K mg base 43 "part_row" ["part","row"] qa1:=fun base=>(Iw base 40).1;have Ky:∀base:Heap,FnB PySem.Challenge.pw_unseenfolds_k13_straight_lines w K mg base 43 "row_behind" ["parts","row"] Um:=fun base=>(Iw base 40).2;have Sk:∀(base:Heap) (n:Nat),FnB PySem.Challenge.pw_unseenfolds_k13_straight_lines w K mg base (3+n+1) "behind_part" ["part","old"] ((Qs n).1)∧FnB PySem.Challenge.pw_unseenfolds_k13_straight_lines w K mg base (3+n+1) "behind_parts" ["parts","numbers"] ((Qs n).2):=fun base n=>by
  induction n with
  | zero=>exact⟨(Zr (x:="behind_part") (st:=X5) (N:=["part","old"]) (body:=fun _=>.bad) (c.def_ 48 (d:=M4)) T.C9 Pa (fun _ _ _ _ _ _ us hl=>match us,hl with | [_,_],_=>rfl) (fun _ _ _ _ _ _ _=>Sx)),(Zr (x:="behind_parts") (st:=Xl) (N:=["parts","numbers","part"]) (body:=fun _=>.bad) (c.def_ 49 (d:=Pj)) T.Sd Hu (fun _ _ _ _ _ _ us hl=>match us,hl with | [_,_],_=>rfl) (fun _ _ _ _ _ _ _=>Sx))⟩
  | succ n ih=>exact⟨I7 (w:=w) (base:=base) (c.def_ 48 (d:=M4)) T (M6 base) (Pl base) (Pz base) (R9 base) (ih.2),Ly (w:=w) (base:=base) (c.def_ 49 (d:=Pj)) T (ih.1)⟩
 have Dx:∀base:Heap,FnB PySem.Challenge.pw_unseenfolds_k13_straight_lines w K mg base 44 "behind_part" ["part","old"] Et:=fun base=>(Sk base 40).1;have Yo:∀base:Heap,FnB PySem.Challenge.pw_unseenfolds_k13_straight_lines w K mg base 44 "behind_parts" ["parts","numbers"] V0:=fun base=>(Sk base 40).2;have Bw:=fun base:Heap=>Cz (w:=w) (base:=base) (c.def_ 50 (d:=Mb)) T (Ky base) (S8 base);have zq:∀base:Heap,qdR PySem.Challenge.pw_unseenfolds_k13_straight_lines w K mg base 1 "parts" Ce:=fun base=>(jc (qb5 T.je (x7 base) (by decide)) qal);have Xz:=fun base:Heap=>E3 (w:=w) (base:=base) (c.def_ 51 (d:=Fn)) T (Yo base) (zq base) (Kw base);have Hf:∀base:Heap,v8 PySem.Challenge.pw_unseenfolds_k13_straight_lines w K mg base 44 "strands_at" 2 X0:=fun base=>(C1 (qh T.qi8 T.Be (Bw base) (by decide)) F6);have M0:∀base:Heap,MkB PySem.Challenge.pw_unseenfolds_k13_straight_lines w K mg base 1 "StrandLine" 5 [] Zw:=fun base=>qe1 T.qd (Tb base) T.xr (by decide);have Pk:=fun base:Heap=>Lx (w:=w) (base:=base) (c.def_ 52 (d:=Se)) T (Xz base) (Hq base) (Hf base) (M0 base);have Uc:=fun base:Heap=>jk (w:=w) (base:=base) (c.def_ 53 (d:=Ii)) T (Pk base);have Ic:∀base:Heap,MkB PySem.Challenge.pw_unseenfolds_k13_straight_lines w K mg base 42 "Feed" 2 [] J4:=fun base=>qe1 T.qgs (Iu base) T.qaN (by decide);exact⟨T.qom,qiI (w:=w) (c.def_ 54 (d:=qkT)) T Wk Gf Ic V3 Uc Vy Jx V5 Qz Ut Ud Z7 Ge V4 Ga Xz hl⟩
end Law
namespace Law
open PySem L2 DL
def drV (ds:List Int) (m:Int):Int:=match ds.getLast? with
 | none=>0
 | some z=>z.fmod m
theorem qkt {ds:List Int} {m:Int} (hm:0<m):0≤drV ds m:=by
 unfold drV;split
 ·exact Int.le_refl _
 ·exact Int.fmod_nonneg_of_pos _ hm
theorem qku {ds:List Int} {m:Int} (hm:0<m):drV ds m<m:=by
 unfold drV;split
 ·exact hm
 ·exact Int.fmod_lt_of_pos _ hm
theorem qks (ds:List Int) (m:Int) (hm:0<m):Qm [.r (.lst (ds.map .int)),.d (.int m)]=.ok (.d (.int (drV ds m))) [.r (.lst (ds.dropLast.map .int)),.d (.int m)]:=by
 unfold Qm Mv drV;rcases List.eq_nil_or_concat ds with rfl | ⟨xs,z,rfl⟩
 ·simp
 ·have h1:¬((xs.length:Int)+1=0):=by omega
  have h2:m≠0:=by omega
  simp[h1,h2,List.getLast?_append,List.dropLast_append_of_ne_nil]
theorem qfK (S o2 o3 o6:Option L) (r:Int) (ms:List Int) (hm:ms.length≤4000):∃(ms':List Int) (r':Int),
  Z9 (Qg 5) Va (Xa 0 60) [S,some (.m (.lst (ms.map .int))),o2,o3,some (.d (.int r)),none,o6]=.ok .nx [S,some (.m (.lst (ms'.map .int))),o2,o3,some (.d (.int r')),none,o6]∧ms'.length≤ms.length+60:=by
 obtain⟨⟨ms',r'⟩,e,h⟩:=Ol (n:=60) (gm:=Qg 5) (b:=Va) (S:=List Int×Int) (s:=(ms,r)) (fun s=>[S,some (.m (.lst (s.1.map .int))),o2,o3,some (.d (.int s.2)),none,o6])
  (fun i s=>s.1.length≤ms.length+i) (Nat.le_refl _) (by
   rintro i ⟨ms',r'⟩ hi h;have hl:ms'.length≤100000:=by simp at h;omega
   have hb:Bn 1000:=⟨by decide,by unfold big;decide +kernel⟩;by_cases hr:0<r'
   ·refine⟨_,(ms'++[r'.fmod 1000],r'.fdiv 1000),by simp;rfl,by simp[Va,hr,hl,hb],by simp at h ⊢;omega⟩
   ·refine⟨_,(ms',r'),by simp;rfl,by simp[Va,hr],by simp at h ⊢;omega⟩)
 exact⟨ms',r',e,h⟩
theorem qfL (S o4:Option L) (k c:Int) (hk:0≤k) (hk2:k<1000) (hc:0≤c) (hc2:c<1000000000000000000) (ms:List Int) (hm:ms.length≤4000):∃(ms':List Int),
  Z9 (Qg 5) Wg (Xa 0 3) [S,some (.m (.lst (ms.map .int))),some (.d (.int k)),some (.d (.int c)),o4,none,none]=.ok .nx [S,some (.m (.lst (ms'.map .int))),some (.d (.int k)),some (.d (.int c)),o4,none,none]∧ms'.length≤ms.length+3:=by
 obtain⟨ms',e,h⟩:=Ol (n:=3) (gm:=Qg 5) (b:=Wg) (S:=List Int) (s:=ms) (fun s=>[S,some (.m (.lst (s.map .int))),some (.d (.int k)),some (.d (.int c)),o4,none,none])
  (fun i s=>s.length≤ms.length+i) (Nat.le_refl _) (by
   rintro i ms' hi h;have hl:ms'.length≤100000:=by omega
   have m1:Jj 6 k:=.inl (by decide);have m2:Jj 2 (i:Int):=.inl (by decide);have m3:∀z,Jj (c+1) z:=fun z=>.inl (by omega);have m4:∀z:Int,Jj (z.fmod 2147483629) (z.fmod 2147483629):=fun z=>by
    rw[Int.fmod_eq_emod_of_nonneg _ (by decide)];exact .inl (by omega)
   refine⟨_,ms'++[(((c+1)*(48271+6*k+2*(i:Int))).fmod 2147483629*((c+1)*(48271+6*k+2*(i:Int))).fmod 2147483629).fmod 1000003],by simp;rfl,by simp[Wg,hl,m1,m2,m3,m4],by simp;omega⟩)
 exact⟨ms',e,h⟩
theorem qfJ (ns:List Int) (hl:ns.length≤63):∃(ms:List Int),
  Z9 (Qg 2) Xw (Xa 0 ns.length) [some (.d (.ro (ns.map .int))),some (.m (.lst [])),none,none,none,none,none]=.ok .nx [some (.d (.ro (ns.map .int))),some (.m (.lst (ms.map .int))),none,none,none,none,none]∧ms.length≤4000:=by
 obtain⟨ms,e,h⟩:=Ol (n:=ns.length) (gm:=Qg 2) (b:=Xw) (S:=List Int) (s:=[]) (fun s=>[some (.d (.ro (ns.map .int))),some (.m (.lst (s.map .int))),none,none,none,none,none])
  (fun i s=>s.length≤60*i) (Nat.zero_le _) (by
   rintro i ms hi h;have hix:L2.atI (ns.map D.int) (i:Int)=some (.int ns[i]):=qkK (by simp[hi]);by_cases hc:0≤ns[i]∧ns[i]<1000000000000000000
   ·obtain⟨ms',e1,q⟩:=qfL (some (.d (.ro (ns.map .int)))) (some (.d (.int ns[i]))) (i:Int) ns[i] (by omega) (by omega) hc.1 hc.2 ms (by omega);have ha:((ns[i]).natAbs:Int)=ns[i]:=by omega
    exact⟨_,ms',by simp;rfl,by simp[Xw,hix,hc.1,hc.2,e1,ha],by omega⟩
   ·obtain⟨ms',r',e1,q⟩:=qfK (some (.d (.ro (ns.map .int)))) (some (.d (.int (i:Int)))) (some (.d (.int ns[i]))) none (ns[i]).natAbs ms (by omega);by_cases h0:0≤ns[i]
    ·have h1:¬ns[i]<1000000000000000000:=by omega
     exact⟨_,ms',by simp;rfl,by simp[Xw,hix,h0,h1,e1],by omega⟩
    ·exact⟨_,ms',by simp;rfl,by simp[Xw,hix,h0,e1],by omega⟩)
 exact⟨ms,by simpa using e,by omega⟩
theorem qdX (ns:List Int) (hl:ns.length≤63):∃ms:List Int,Vn [.d (.ro (ns.map .int))]=.ok (.m (.lst (ms.map .int))) [.d (.ro (ns.map .int))]:=by
 obtain⟨ms,e,hm⟩:=qfJ ns hl;have h1:min (ns.length:Int) 63=ns.length:=by omega
 refine⟨ms.reverse,?_⟩;unfold Vn U8;simp[h1,e,pkE,qd8,show ns.length≤100000 by omega,show ms.length≤100000 by omega]
theorem qp (a b:Int):Zd [.d (.int a),.d (.int b)]=.ok (.d (.bl (decide (a=b)))) [.d (.int a),.d (.int b)]:=by
 unfold Zd V9;simp
theorem dr (s:List Int) (m:Nat) (hm:0<m):∃(k:Nat) (s':List Int),k<m∧Qm [.r (.lst (s.map .int)),.d (.int m)]=.ok (.d (.int k)) [.r (.lst (s'.map .int)),.d (.int m)]:=by
 have h1:=qkt (ds:=s) (m:=(m:Int)) (by omega);have h2:=qku (ds:=s) (m:=(m:Int)) (by omega);refine⟨(drV s m).toNat,s.dropLast,by omega,?_⟩;rw[qks s m (by omega),show ((drV s m).toNat:Int)=drV s m by omega]
theorem qe2 (s:List Int) (g:Nat) (hg:g≤100):∃(z:Int) (s':List Int),0≤z∧z<1000 ^ g∧Y5 [.r (.lst (s.map .int)),.d (.int g)]=.ok (.d (.int z)) [.r (.lst (s'.map .int)),.d (.int g)]:=by
 obtain⟨n,s0,hn,e0⟩:=dr s (g+1) (by omega);obtain⟨⟨z,s'⟩,e,h1,h2⟩:=qjZ (n:=n) (gm:=Qg 3) (b:=My) (S:=Int×List Int) (s:=(0,s0)) (fun p=>[some (.r (.lst (p.2.map .int))),some (.d (.int g)),some (.d (.int p.1)),none])
  (fun i p=>0≤p.1∧p.1<1000 ^ i) ⟨Int.le_refl 0,by simp⟩ (by
   rintro i ⟨z,s'⟩ hi ⟨h1,h2⟩;obtain⟨k,s1,hk,e1⟩:=dr s' 1000 (by decide);have m1:Jj z 1000:=.inr (.inl (by decide));simp at e1;refine⟨(z*1000+k,s1),by simp[My,m1,e1],?_,?_⟩
   ·simp only at h1 ⊢;omega
   ·simp only at h2 ⊢;rw[Int.pow_succ];omega)
 have k1:((g+1:Nat):Int)=(g:Int)+1:=by omega
 rw[k1]at e0;have hp:(1000:Int) ^ n≤1000 ^ g:=by
  exact_mod_cast Nat.pow_le_pow_right (n:=1000) (by decide) (show n≤g by omega)
 refine⟨z,s',h1,by simp only at h2;omega,?_⟩;unfold Y5 Mr;simp at e0 e;simp[e0,e,show n≤100000 by omega]
inductive Sm where
 | same | turn | front (b:Nat) | rest (b:Nat) | last (b:Nat) | but (b:Nat) | each (k i:Nat) | block (k i:Nat)
def Sm.d:Sm→D
 | .same=>.tup [.str "same"]
 | .turn=>.tup [.str "turn"]
 | .front b=>.tup [.str "front",.int b]
 | .rest b=>.tup [.str "rest",.int b]
 | .last b=>.tup [.str "last",.int b]
 | .but b=>.tup [.str "but",.int b]
 | .each k i=>.tup [.str "each",.int k,.int i]
 | .block k i=>.tup [.str "block",.int k,.int i]
def Sm.ok (M W:Nat):Sm→Prop
 | .same=>True
 | .turn=>True
 | .front b=>b≤M
 | .rest b=>b≤M
 | .last b=>b≤M
 | .but b=>b≤M
 | .each k i=>1≤k∧k≤W∧i<k
 | .block k i=>1≤k∧k≤W∧i<k
inductive Ps where
 | nil | sm (s:Sm) (t:Ps) | both (l r t:Ps)
abbrev opD:D:=.tup [.str "open"]
abbrev Iz:D:=.tup [.str "next"]
abbrev shD:D:=.tup [.str "shut"]
def Ps.flat:Ps→List D
 | .nil=>[]
 | .sm s t=>s.d::t.flat
 | .both l r t=>opD::(l.flat++Iz::(r.flat++shD::t.flat))
def Ps.app:Ps→Ps→Ps
 | .nil,u=>u
 | .sm s t,u=>.sm s (t.app u)
 | .both l r t,u=>.both l r (t.app u)
theorem Dd {u:Ps}:∀{t:Ps},(t.app u).flat=t.flat++u.flat
 | .nil=>rfl
 | .sm s t=>by
  show s.d::(t.app u).flat=_;rw[Dd];rfl
 | .both l r t=>by
  show opD::(l.flat++Iz::(r.flat++shD::(t.app u).flat))=_;rw[Dd];simp[Ps.flat]
def Ps.nb:Ps→Nat
 | .nil=>0
 | .sm _ t=>t.nb
 | .both l r t=>l.nb+r.nb+t.nb+1
def Ps.np:Ps→Nat
 | .nil=>0
 | .sm _ t=>t.np+1
 | .both l r t=>l.np+r.np+t.np+1
def Ps.wf (M W:Nat):Ps→Prop
 | .nil=>True
 | .sm s t=>s.ok M W∧t.wf M W
 | .both l r t=>l.wf M W∧r.wf M W∧t.wf M W
theorem Az {u:Ps}:∀{t:Ps},(t.app u).nb=t.nb+u.nb
 | .nil=>by simp[Ps.app,Ps.nb]
 | .sm s t=>Az (t:=t)
 | .both l r t=>by
  show l.nb+r.nb+(t.app u).nb+1=l.nb+r.nb+t.nb+1+u.nb;rw[Az];omega
theorem qaq {u:Ps}:∀{t:Ps},(t.app u).np=t.np+u.np
 | .nil=>by simp[Ps.app,Ps.np]
 | .sm s t=>by
  show (t.app u).np+1=t.np+1+u.np;rw[qaq];omega
 | .both l r t=>by
  show l.np+r.np+(t.app u).np+1=l.np+r.np+t.np+1+u.np;rw[qaq];omega
theorem qac {M W:Nat} {u:Ps}:∀{t:Ps},t.wf M W→u.wf M W→(t.app u).wf M W
 | .nil,_,h=>h
 | .sm s t,a,h=>⟨a.1,qac a.2 h⟩
 | .both l r t,a,h=>⟨a.1,a.2.1,qac a.2.2 h⟩
abbrev Fr:Type:=Ps×Option Ps
def zc:List Fr→Ps→List D
 | [],c=>c.flat
 | (p,none)::st,c=>zc st p++opD::c.flat
 | (p,some l)::st,c=>zc st p++opD::(l.flat++Iz::c.flat)
def tg:Fr→D
 | (_,none)=>.int 0
 | (_,some _)=>.int 1
def Ya (st:List Fr):List D:=(st.map tg).reverse
theorem qeR {u:Ps}:∀{st:List Fr} {c:Ps},zc st (c.app u)=zc st c++u.flat
 | [],c=>Dd
 | (p,none)::st,c=>by simp[zc,Dd]
 | (p,some l)::st,c=>by simp[zc,Dd]
def zb:List Fr→Nat
 | []=>0
 | (p,none)::st=>zb st+p.nb
 | (p,some l)::st=>zb st+p.nb+l.nb
def zn:List Fr→Nat
 | []=>0
 | (p,none)::st=>zn st+p.np+1
 | (p,some l)::st=>zn st+p.np+l.np+1
def zs:List Fr→Nat
 | []=>0
 | (_,none)::st=>zs st
 | (_,some _)::st=>zs st+1
def zw (M W:Nat):List Fr→Prop
 | []=>True
 | (p,none)::st=>zw M W st∧p.wf M W
 | (p,some l)::st=>zw M W st∧p.wf M W∧l.wf M W
def fill:Ps→Ps
 | .nil=>.sm .same .nil
 | c=>c
def clo:List Fr→Ps→List Fr×Ps
 | [],c=>([],c)
 | (p,none)::st,c=>((p,some (fill c))::st,.nil)
 | (p,some l)::st,c=>(st,p.app (.both l (fill c) .nil))
theorem Te:∀{c:Ps},c≠.nil→∃p d,c.flat=p++[d]∧((∃s:Sm,d=s.d)∨d=shD)
 | .nil,h=>absurd rfl h
 | .sm s t,_=>by
  cases t with
  | nil=>exact⟨[],s.d,rfl,.inl ⟨s,rfl⟩⟩
  | sm s2 t2=>
   obtain⟨p,d,e,h⟩:=Te (c:=.sm s2 t2) (by simp);exact⟨s.d::p,d,by show s.d::(Ps.sm s2 t2).flat=_;rw[e];rfl,h⟩
  | both l r t2=>
   obtain⟨p,d,e,h⟩:=Te (c:=.both l r t2) (by simp);exact⟨s.d::p,d,by show s.d::(Ps.both l r t2).flat=_;rw[e];rfl,h⟩
 | .both l r t,_=>by
  cases t with
  | nil=>exact⟨opD::(l.flat++Iz::r.flat),shD,by simp[Ps.flat],.inr rfl⟩
  | sm s2 t2=>
   obtain⟨p,d,e,h⟩:=Te (c:=.sm s2 t2) (by simp);exact⟨opD::(l.flat++Iz::(r.flat++shD::p)),d,by show opD::(l.flat++Iz::(r.flat++shD::(Ps.sm s2 t2).flat))=_;rw[e];simp,h⟩
  | both l2 r2 t2=>
   obtain⟨p,d,e,h⟩:=Te (c:=.both l2 r2 t2) (by simp);exact⟨opD::(l.flat++Iz::(r.flat++shD::p)),d,by show opD::(l.flat++Iz::(r.flat++shD::(Ps.both l2 r2 t2).flat))=_;rw[e];simp,h⟩
theorem Ny (s:Sm):∃w ds,s.d=.tup (.str w::ds)∧eqB (.str w) (.str "open")=some false∧eqB (.str w) (.str "next")=some false∧eqB (.str w) (.str "shut")=some false∧eqB (.str w) (.str "both")=some false:=by
 cases s<;>exact⟨_,_,rfl,by simp,by simp,by simp,by simp⟩
theorem qd2 (s:List Int) (M W:Nat) (hW:0<W):∃(p:Sm) (s':List Int),p.ok M W∧Vo [.r (.lst (s.map .int)),.d (.int M),.d (.int W)]=.ok (.d p.d) [.r (.lst (s'.map .int)),.d (.int M),.d (.int W)]:=by
 obtain⟨a,sa,ha,e1⟩:=dr s 10 (by decide);simp at e1;unfold Vo Ha;by_cases h0:a=0
 ·subst h0;refine⟨.same,sa,trivial,?_⟩;simp[e1,Sm.d]
 by_cases h1:a=1
 ·subst h1;refine⟨.turn,sa,trivial,?_⟩;simp[e1,Sm.d]
 have h0':¬(a:Int)=0:=by omega
 have h1':¬(a:Int)=1:=by omega
 by_cases h6:a<6
 ·have h6':(a:Int)<6:=by omega
  obtain⟨b,sb,hb,e2⟩:=dr sa (M+1) (by omega);simp at e2;rcases (show a=2∨a=3∨a=4∨a=5 by omega) with rfl | rfl | rfl | rfl
  ·exact⟨.front b,sb,by show b≤M;omega,by simp[e1,e2,Sm.d]⟩
  ·exact⟨.rest b,sb,by show b≤M;omega,by simp[e1,e2,Sm.d]⟩
  ·exact⟨.last b,sb,by show b≤M;omega,by simp[e1,e2,Sm.d]⟩
  ·exact⟨.but b,sb,by show b≤M;omega,by simp[e1,e2,Sm.d]⟩
 ·have h6':¬(a:Int)<6:=by omega
  obtain⟨k,sb,hk,e2⟩:=dr sa W hW;obtain⟨i,sc,hi,e3⟩:=dr sb (k+1) (by omega);have ek:((k+1:Nat):Int)=1+(k:Int):=by omega
  rw[ek]at e3;rcases (show a=6∨a=7∨a=8∨a=9 by omega) with rfl | rfl | rfl | rfl
  ·exact⟨.each (k+1) i,sc,⟨by omega,by omega,hi⟩,by simp[e1,e2,e3,Sm.d];omega⟩
  ·exact⟨.block (k+1) i,sc,⟨by omega,by omega,hi⟩,by simp[e1,e2,e3,Sm.d];omega⟩
  ·exact⟨.each (k+1) i,sc,⟨by omega,by omega,hi⟩,by simp[e1,e2,e3,Sm.d];omega⟩
  ·exact⟨.block (k+1) i,sc,⟨by omega,by omega,hi⟩,by simp[e1,e2,e3,Sm.d];omega⟩
theorem qao (f:Fr) (st:List Fr) (c:Ps) (hl:(zc (f::st) c).length≤1000) :
  Jv [.r (.lst (zc (f::st) c)),.r (.lst (Ya (f::st)))]=.ok (.d .non) [.r (.lst (zc (clo (f::st) c).1 (clo (f::st) c).2)),.r (.lst (Ya (clo (f::st) c).1))]∧(zc (clo (f::st) c).1 (clo (f::st) c).2).length≤(zc (f::st) c).length+2:=by
 have lf:(fill c).flat.length≤c.flat.length+1:=by cases c<;>simp[fill,Ps.flat]
 have one:∀(q:List D),q++c.flat=zc (f::st) c→(c=.nil→∃q' d,q=q'++[d]∧(d=opD∨d=Iz))→
   (∃ρ,(sIf (mOr (tBl (eOp eqD (eOp ixD (eOp ixD (Qi 0) (eUn Sv (eC (.int 1)))) (eC (.int 0))) (eC (.str "open")))) (tBl (eOp eqD (eOp ixD (eOp ixD (Qi 0) (eUn Sv (eC (.int 1)))) (eC (.int 0))) (eC (.str "next")))))
 (Qo (K3 (Fg 0 (Uz (Qd (eC (.str "same")) Qr))))
 Q2)
 Q2) [some (.r (.lst (q++c.flat))),some (.r (.lst (Ya (f::st))))]=.ok .nx ρ∧ρ=[some (.r (.lst (q++(fill c).flat))),some (.r (.lst (Ya (f::st))))]):=fun q hq h=>by
  cases c with
  | nil=>
   obtain⟨q',d,rfl,hd⟩:=h rfl;have hl':(q'++[d]).length≤100000:=by
    have:=congrArg List.length hq;simp[Ps.flat]at this ⊢;omega
   rcases hd with rfl | rfl
   ·refine⟨_,?_,rfl⟩;simp[Ps.flat,fill,Sm.d]at hl' ⊢;simp[hl']
   ·refine⟨_,?_,rfl⟩;simp[Ps.flat,fill,Sm.d]at hl' ⊢;simp[hl']
  | sm s t=>
   obtain⟨p,d,e,hd⟩:=Te (c:=.sm s t) (by simp);refine⟨_,?_,rfl⟩;rw[show fill (.sm s t)=.sm s t from rfl,e,← List.append_assoc];generalize q++p=z;rcases hd with ⟨s2,rfl⟩ | rfl
   ·obtain⟨w,ds,e2,h1,h2,_⟩:=Ny s2;rw[e2];simp[h1,h2]
   ·simp
  | both l r t=>
   obtain⟨p,d,e,hd⟩:=Te (c:=.both l r t) (by simp);refine⟨_,?_,rfl⟩;rw[show fill (.both l r t)=.both l r t from rfl,e,← List.append_assoc];generalize q++p=z;rcases hd with ⟨s2,rfl⟩ | rfl
   ·obtain⟨w,ds,e2,h1,h2,_⟩:=Ny s2;rw[e2];simp[h1,h2]
   ·simp
 obtain⟨p,o⟩:=f;cases o with
 | none=>
  have hz:zc ((p,none)::st) c=(zc st p++[opD])++c.flat:=by simp[zc]
  obtain⟨ρ,e,hρ⟩:=one (zc st p++[opD]) hz.symm (fun _=>⟨_,_,rfl,.inl rfl⟩);subst hρ;have hz2:zc (clo ((p,none)::st) c).1 (clo ((p,none)::st) c).2=(zc st p++[opD])++(fill c).flat++[Iz]:=by simp[zc,clo,Ps.flat]
  have hl2:((zc st p++[opD])++(fill c).flat).length≤100000:=by
   have:=congrArg List.length hz;simp at this ⊢;omega
  have ha:Ya ((p,none)::st)=Ya st++[.int 0]:=by simp[Ya,tg]
  have ha2:Ya (clo ((p,none)::st) c).1=Ya st++[.int 1]:=by simp[Ya,tg,clo]
  refine⟨?_,by rw[hz2,hz];simp;omega⟩;rw[hz2,hz,ha2];unfold Jv Wd;simp only[F5,List.map,List.length,Nat.sub_self,List.replicate,List.append_nil];rw[show (Qo _ _:SM) _=_ from qbQ];rw[e];rw[ha];generalize (zc st p++[opD])++(fill c).flat=z at hl2 ⊢;simp[hl2]
 | some l=>
  have hz:zc ((p,some l)::st) c=(zc st p++opD::(l.flat++[Iz]))++c.flat:=by simp[zc]
  obtain⟨ρ,e,hρ⟩:=one (zc st p++opD::(l.flat++[Iz])) hz.symm (fun _=>⟨zc st p++opD::l.flat,Iz,by simp,.inr rfl⟩);subst hρ;have hz2:zc (clo ((p,some l)::st) c).1 (clo ((p,some l)::st) c).2=(zc st p++opD::(l.flat++[Iz]))++(fill c).flat++[shD]:=by
   show zc st (p.app _)=_;rw[qeR];simp[Ps.flat]
  have hl2:((zc st p++opD::(l.flat++[Iz]))++(fill c).flat).length≤100000:=by
   have:=congrArg List.length hz;simp at this ⊢;omega
  have ha:Ya ((p,some l)::st)=Ya st++[.int 1]:=by simp[Ya,tg]
  have ha2:Ya (clo ((p,some l)::st) c).1=Ya st:=rfl;refine⟨?_,by rw[hz2,hz];simp;omega⟩;rw[hz2,hz,ha2];unfold Jv Wd;simp only[F5,List.map,List.length,Nat.sub_self,List.replicate,List.append_nil];rw[show (Qo _ _:SM) _=_ from qbQ];rw[e];rw[ha];generalize (zc st p++opD::(l.flat++[Iz]))++(fill c).flat=z at hl2 ⊢;simp[hl2]
def zm:List Fr→Nat
 | []=>0
 | (_,none)::st=>zm st+2
 | (_,some _)::st=>zm st+1
theorem qfz:∀{st:List Fr},zm st≤2*st.length
 | []=>by simp[zm]
 | (_,none)::st=>by have:=qfz (st:=st);simp[zm];omega
 | (_,some _)::st=>by have:=qfz (st:=st);simp[zm];omega
theorem Dh {st:List Fr}:(Ya st).length=st.length:=by simp[Ya]
theorem qg4 {c:Ps}:(fill c).nb=c.nb:=by cases c<;>rfl
theorem qg3 {c:Ps}:(fill c).np≤c.np+1:=by cases c<;>simp[fill,Ps.np]
theorem qc5 {M W:Nat} {c:Ps} (h:c.wf M W):(fill c).wf M W:=by
 cases c with
 | nil=>exact⟨trivial,trivial⟩
 | sm s t=>exact h
 | both l r t=>exact h
theorem qfx {p u:Ps} (h:u≠.nil):p.app u≠.nil:=by
 cases p with
 | nil=>exact h
 | sm s t=>exact fun z=>nomatch z
 | both l r t=>exact fun z=>nomatch z
structure Zi (M W B:Nat) (b t:Nat) (st:List Fr) (c:Ps):Prop where
 w:zw M W st
 wc:c.wf M W
 nb:zb st+c.nb+st.length+b≤B
 np:zn st+c.np≤t+2*(zb st+c.nb)+zs st
theorem Zi.clo {M W B b t:Nat} {f:Fr} {st:List Fr} {c:Ps} (h:Zi M W B b t (f::st) c):Zi M W B b t (clo (f::st) c).1 (clo (f::st) c).2∧zm (Law.clo (f::st) c).1+1=zm (f::st)∧((Law.clo (f::st) c).1≠[]∨(Law.clo (f::st) c).2≠.nil):=by
 obtain⟨p,o⟩:=f;obtain⟨h1,h2,h3,h4⟩:=h;have q1:=qg3 (c:=c);have q2:=qg4 (c:=c);cases o with
 | none=>
  refine⟨⟨⟨h1.1,h1.2,qc5 h2⟩,trivial,?_,?_⟩,by simp[zm,Law.clo],.inl (by simp[Law.clo])⟩
  ·simp[zb,Law.clo,Ps.nb,q2]at h3 ⊢;omega
  ·simp[zn,zb,zs,Law.clo,Ps.nb,Ps.np,q2]at h4 ⊢;omega
 | some l=>
  refine⟨⟨h1.1,qac h1.2.1 ⟨h1.2.2,qc5 h2,trivial⟩,?_,?_⟩,by simp[zm,Law.clo],.inr (qfx fun z=>nomatch z)⟩
  ·simp[zb,Law.clo,Az,Ps.nb,q2]at h3 ⊢;omega
  ·simp[zn,zb,zs,Law.clo,Az,qaq,Ps.nb,Ps.np,q2]at h4 ⊢;omega
theorem qhj (s:List Int) (T B M W:Nat) (hT:T≤10) (hB:B≤4) (hW:0<W):∃(z:List Int×List Fr×Ps×Nat),
  Z9 (Qg 7) Xk (Xa 0 T) [some (.r (.lst (s.map .int))),some (.d (.int T)),some (.d (.int B)),some (.d (.int M)),some (.d (.int W)),some (.m (.lst [])),some (.m (.lst [])),none,none] =
   .ok .nx [some (.r (.lst (z.1.map .int))),some (.d (.int T)),some (.d (.int z.2.2.2)),some (.d (.int M)),some (.d (.int W)),some (.m (.lst (zc z.2.1 z.2.2.1))),some (.m (.lst (Ya z.2.1))),none,none]∧
  Zi M W B z.2.2.2 T z.2.1 z.2.2.1∧(zc z.2.1 z.2.2.1).length≤2*T∧(0<T→z.2.1≠[]∨z.2.2.1≠.nil):=by
 obtain⟨z,e,h⟩:=Ol (n:=T) (gm:=Qg 7) (b:=Xk) (S:=List Int×List Fr×Ps×Nat) (s:=(s,[],.nil,B))
  (fun z=>[some (.r (.lst (z.1.map .int))),some (.d (.int T)),some (.d (.int z.2.2.2)),some (.d (.int M)),some (.d (.int W)),some (.m (.lst (zc z.2.1 z.2.2.1))),some (.m (.lst (Ya z.2.1))),none,none])
  (fun t z=>Zi M W B z.2.2.2 t z.2.1 z.2.2.1∧(zc z.2.1 z.2.2.1).length≤2*t∧(0<t→z.2.1≠[]∨z.2.2.1≠.nil)) ⟨⟨trivial,trivial,by simp[zb,Ps.nb],by simp[zn,zb,zs,Ps.nb,Ps.np]⟩,by simp[zc,Ps.flat],fun h=>absurd h (Nat.lt_irrefl _)⟩ (by
   rintro t ⟨s,st,c,b⟩ ht ⟨hz,hl,_⟩;simp only at hz hl;obtain⟨k,s1,hk,e1⟩:=dr s 5 (by decide);simp at e1;by_cases c1:k=4∧0<b
   ·obtain⟨rfl,hb⟩:=c1;have hb':(0:Int)<b:=by omega
    have hb2:(b:Int)-1=((b-1:Nat):Int):=by omega
    have hzc:zc ((c,none)::st) .nil=zc st c++[opD]:=by simp[zc,Ps.flat]
    have har:Ya ((c,none)::st)=Ya st++[.int 0]:=by simp[Ya,tg]
    have l1:(zc st c).length≤100000:=by omega
    have l2:(Ya st).length≤100000:=by
     rw[Dh];have:=hz.nb;omega
    refine⟨_,(s1,(c,none)::st,.nil,b-1),rfl,?_,⟨⟨hz.w,hz.wc⟩,trivial,?_,?_⟩,?_,fun _=>.inl (by simp)⟩
    ·simp only[hzc,har];generalize zc st c=zz at l1 ⊢;generalize Ya st=aa at l2 ⊢;simp[Xk,e1,hb,hb',hb2,l1,l2]
    ·have:=hz.nb;simp[zb,Ps.nb]at this ⊢;omega
    ·have:=hz.np;simp[zn,zb,zs,Ps.nb,Ps.np]at this ⊢;omega
    ·simp only[hzc];simp;omega
   ·by_cases c2:k=3∧st≠[]
    ·obtain⟨rfl,hs⟩:=c2;cases st with
     | nil=>exact absurd rfl hs
     | cons f st=>
      obtain⟨e2,l2⟩:=qao f st c (by omega);obtain⟨hz2,_,hne⟩:=hz.clo;have hal:Ya (f::st)≠[]:=fun z=>by
       have:=congrArg List.length z;rw[Dh]at this;simp at this
      refine⟨_,(s1,(clo (f::st) c).1,(clo (f::st) c).2,b),rfl,?_,⟨hz2.w,hz2.wc,hz2.nb,by have:=hz2.np;simp only at this ⊢;omega⟩,by simp only;omega,fun _=>hne⟩;simp only;generalize zc (clo (f::st) c).1 (clo (f::st) c).2=z1 at e2 ⊢;generalize Ya (clo (f::st) c).1=z2 at e2 ⊢;generalize zc (f::st) c=z3 at e2 ⊢;generalize Ya (f::st)=z4 at e2 hal ⊢;have qoh:=List.length_pos_iff.mpr hal;simp[Xk,e1,e2,hal,qoh]
    ·obtain⟨p,s2,hp,e2⟩:=qd2 s1 M W hW;have hzc:zc st (c.app (.sm p .nil))=zc st c++[p.d]:=by rw[qeR];simp[Ps.flat]
     have l1:(zc st c).length≤100000:=by omega
     refine⟨_,(s2,st,c.app (.sm p .nil),b),rfl,?_,⟨hz.w,qac hz.wc ⟨hp,trivial⟩,?_,?_⟩,?_,fun _=>.inr (qfx fun z=>nomatch z)⟩
     ·simp only[hzc];have a1:¬((k:Int)=4∧(0:Int)<b):=by omega
      have a2:¬((k:Int)=3∧(0:Int)<((Ya st).length:Int)):=by
       rw[Dh];rintro⟨x,y⟩;exact c2 ⟨by omega,fun z=>by subst z;simp at y⟩
      generalize zc st c=zz at l1 ⊢;generalize Ya st=aa at a2 ⊢;by_cases b1:(k:Int)=4
      ·have b2:b=0:=by omega
       subst b2;simp[Xk,e1,e2,b1,l1]
      ·by_cases b3:(k:Int)=3
       ·have b4:aa=[]:=by
         cases aa with
         | nil=>rfl
         | cons x y=>exact absurd ⟨b3,by simp⟩ a2
        subst b4;simp[Xk,e1,e2,b3,l1]
       ·simp[Xk,e1,e2,b1,b3,l1]
     ·have:=hz.nb;simp[Az,Ps.nb]at this ⊢;omega
     ·have:=hz.np;simp[Az,qaq,Ps.nb,Ps.np]at this ⊢;omega
     ·simp only[hzc];simp;omega)
 exact⟨z,by simpa [zc,Ps.flat,Ya] using e,h⟩
theorem qhk (T B M W b:Nat) (S o1 o2 o3 o4:Option L) (st:List Fr) (c:Ps) (hT:T≤10) (hB:B≤4) (hz:Zi M W B b T st c) (hl:(zc st c).length≤2*T) (hne:st≠[]∨c≠.nil):∃(p:Ps),
  Z9 (Qg 7) Wi (Xa 0 (2*st.length)) [S,o1,o2,o3,o4,some (.m (.lst (zc st c))),some (.m (.lst (Ya st))),none,none] =
   .ok .nx [S,o1,o2,o3,o4,some (.m (.lst p.flat)),some (.m (.lst [])),none,none]∧p.wf M W∧p.nb≤B∧p.np≤T+2*p.nb∧p≠.nil:=by
 have hn:st.length≤4:=by have:=hz.nb;omega
 obtain⟨⟨st',c'⟩,e,h1,h2,h3,h4⟩:=Ol (n:=2*st.length) (gm:=Qg 7) (b:=Wi) (S:=List Fr×Ps) (s:=(st,c))
  (fun z=>[S,o1,o2,o3,o4,some (.m (.lst (zc z.1 z.2))),some (.m (.lst (Ya z.1))),none,none])
  (fun k z=>Zi M W B b T z.1 z.2∧zm z.1≤2*st.length-k∧(zc z.1 z.2).length≤2*T+2*k∧(z.1≠[]∨z.2≠.nil)) ⟨hz,qfz,by simpa using hl,hne⟩ (by
   rintro k ⟨st1,c1⟩ hk ⟨h1,h2,h3,h4⟩;simp only at h1 h2 h3 h4;cases st1 with
   | nil=>
    refine⟨_,([],c1),rfl,?_,h1,by simp[zm],by simp only;omega,h4⟩;simp only;generalize zc [] c1=zz;simp[Wi,Ya]
   | cons f st1=>
    obtain⟨e2,l2⟩:=qao f st1 c1 (by omega);obtain⟨hz2,hm,hne⟩:=h1.clo;have hal:Ya (f::st1)≠[]:=fun z=>by
     have:=congrArg List.length z;rw[Dh]at this;simp at this
    refine⟨_,((clo (f::st1) c1).1,(clo (f::st1) c1).2),rfl,?_,hz2,by simp only;omega,by simp only;omega,hne⟩;simp only;generalize zc (clo (f::st1) c1).1 (clo (f::st1) c1).2=z1 at e2 ⊢;generalize Ya (clo (f::st1) c1).1=z2 at e2 ⊢;generalize zc (f::st1) c1=z3 at e2 ⊢;generalize Ya (f::st1)=z4 at e2 hal ⊢;have qoh:=List.length_pos_iff.mpr hal;simp[Wi,e2,hal,qoh])
 simp only at h1 h2 h4 e;have h0:st'=[]:=by
  cases st' with
  | nil=>rfl
  | cons f st2=>
   obtain⟨p,o⟩:=f;cases o<;>(simp[zm]at h2<;>omega)
 subst h0;refine⟨c',e,h1.wc,?_,?_,?_⟩
 ·have:=h1.nb;simp[zb]at this;omega
 ·have:=h1.np;simp[zn,zb,zs]at this;omega
 ·rcases h4 with h4 | h4
  ·exact absurd rfl h4
  ·exact h4
theorem qkA (s:List Int) (T B M W:Nat) (hT:1≤T) (hT2:T≤10) (hB:B≤4) (hW:0<W):∃(p:Ps) (s':List Int),p.wf M W∧p.nb≤B∧p.np≤T+2*p.nb∧p≠.nil∧
  W8 [.r (.lst (s.map .int)),.d (.int T),.d (.int B),.d (.int M),.d (.int W)]=.ok (.m (.lst p.flat)) [.r (.lst (s'.map .int)),.d (.int T),.d (.int B),.d (.int M),.d (.int W)]:=by
 obtain⟨⟨s',st,c,b⟩,e1,hz,hl,hne⟩:=qhj s T B M W hT2 hB hW;simp only at e1 hz hl hne;obtain⟨p,e2,h1,h2,h3,h4⟩:=qhk T B M W b (some (.r (.lst (s'.map .int)))) (some (.d (.int T))) (some (.d (.int b))) (some (.d (.int M))) (some (.d (.int W))) st c hT2 hB hz hl (hne (by omega));refine⟨p,s',h1,h2,h3,h4,?_⟩;have m1:Jj 2 ((Ya st).length:Int):=.inl (by decide);have m2:(2*((Ya st).length:Int)).toNat=2*st.length:=by rw[Dh];omega
 unfold W8 Mw;generalize hzz:zc st c=zz at e1 e2;simp[e1,m1,m2,e2]
def Ps.ds:Ps→List D
 | .nil=>[]
 | .sm s t=>s.d::t.ds
 | .both l r t=>.tup [.str "both",.tup l.ds,.tup r.ds]::t.ds
theorem qeJ:∀{p:Ps},p.ds.length≤p.flat.length
 | .nil=>Nat.le_refl _
 | .sm s t=>by have:=qeJ (p:=t);simp[Ps.ds,Ps.flat];omega
 | .both l r t=>by have:=qeJ (p:=t);simp[Ps.ds,Ps.flat];omega
theorem qmT (C:Option L) (rows:List (List D)) (h:rows.length≤100000):Z3 rows [C,none,some (.d opD),none,none]=.nx (rows++[[]]) [C,none,none,none,none]:=by
 simp[Z3,h]
theorem qmU (C:Option L) (rows:List (List D)) (h:rows.length≤100000):Z3 rows [C,none,some (.d Iz),none,none]=.nx (rows++[[]]) [C,none,none,none,none]:=by
 simp[Z3,h]
theorem qmR (C:Option L) (rs:List (List D)) (row:List D) (s:Sm) (h:row.length≤100000):Z3 (rs++[row]) [C,none,some (.d s.d),none,none]=.nx (rs++[row++[s.d]]) [C,none,none,none,none]:=by
 obtain⟨w,ds,e,h1,h2,h3,_⟩:=Ny s;rw[e];simp[Z3,h,h1,h2,h3]
theorem qmS (C:Option L) (rs:List (List D)) (row l r:List D) (h:row.length≤100000):Z3 (rs++[row]++[l]++[r]) [C,none,some (.d shD),none,none]=.nx (rs++[row++[.tup [.str "both",.tup l,.tup r]]]) [C,none,none,none,none]:=by
 have e1:(rs++[row]++[l]++[r]).getLast?=some r:=by simp
 have e2:(rs++[row]++[l]++[r]).dropLast=rs++[row]++[l]:=by simp
 have e3:(rs++[row]++[l]).getLast?=some l:=by simp
 have e4:(rs++[row]++[l]).dropLast=rs++[row]:=by simp
 generalize rs++[row]++[l]++[r]=z at e1 e2;generalize rs++[row]++[l]=z2 at e2 e3 e4;simp[Z3,h,e1,e2,e3,e4]
theorem Cv (C:Option L):∀(p:Ps) (rest:List D) (rs:List (List D)) (row:List D),rs.length+p.flat.length≤1000→row.length+p.flat.length≤1000→
  Pt (Qg 2) Z3 (p.flat++rest) (rs++[row]) [C,none,none,none,none]=Pt (Qg 2) Z3 rest (rs++[row++p.ds]) [C,none,none,none,none]
 | .nil,rest,rs,row,_,_=>by simp[Ps.flat,Ps.ds]
 | .sm s t,rest,rs,row,h1,h2=>by
  simp[Ps.flat]at h1 h2;show Pt _ _ (s.d::(t.flat++rest)) _ _=_;rw[Mh (ρ1:=[C,none,some (.d s.d),none,none]) (by simp) (qmR C rs row s (by omega)),Cv C t rest rs (row++[s.d]) (by omega) (by simp;omega)];simp[Ps.ds]
 | .both l r t,rest,rs,row,h1,h2=>by
  simp[Ps.flat]at h1 h2;have k1:=qeJ (p:=l);have k2:=qeJ (p:=r);have e:(Ps.both l r t).flat++rest=opD::(l.flat++(Iz::(r.flat++(shD::(t.flat++rest))))):=by simp[Ps.flat]
  rw[e,Mh (ρ1:=[C,none,some (.d opD),none,none]) (by simp) (qmT C (rs++[row]) (by simp;omega)),
   Cv C l _ (rs++[row]) [] (by simp;omega) (by simp;omega),
   Mh (ρ1:=[C,none,some (.d Iz),none,none]) (by simp) (qmU C (rs++[row]++[[]++l.ds]) (by simp;omega)),
   Cv C r _ (rs++[row]++[[]++l.ds]) [] (by simp;omega) (by simp;omega),
   Mh (ρ1:=[C,none,some (.d shD),none,none]) (by simp) (qmS C rs row ([]++l.ds) ([]++r.ds) (by omega)),
   Cv C t rest rs _ (by omega) (by simp;omega)]
  simp[Ps.ds]
theorem Sy:∀{p:Ps},p.flat.length≤3*p.np
 | .nil=>Nat.zero_le _
 | .sm s t=>by have:=Sy (p:=t);simp[Ps.np,Ps.flat];omega
 | .both l r t=>by
  have:=Sy (p:=t);have:=Sy (p:=l);have:=Sy (p:=r);simp[Ps.np,Ps.flat];omega
theorem qga (p:Ps) (h:p.np≤100):Kn [.d (.lst p.flat)]=.ok (.d (.tup p.ds)) [.d (.lst p.flat)]:=by
 have hl:=Sy (p:=p);have e:=Cv (some (.d (.lst p.flat))) p [] [] [] (by simp;omega) (by simp;omega);simp only[List.append_nil,List.nil_append,qa9]at e;have e0:L2.atI [p.ds] 0=some p.ds:=L2.atI_nat (xs:=[p.ds]) (j:=0) rfl;unfold Kn G6;simp[e,e0]
structure St (S:Nat) (b s c:Int):Prop where
 s0:s≠0
 c1:1≤c
 b0:0≤b
 e0:0≤b+s*(c-1)
 cB:c≤1000000000000000000000000000000000000000000000000000000000000
 sB:s.natAbs≤S
 bB:b≤1000000000000000000000000000000000000000000000000000000000000
 eB:b+s*(c-1)≤1000000000000000000000000000000000000000000000000000000000000
abbrev tr (b s c:Int):D:=.tup [.int b,.int s,.int c]
def mem (b s:Int) (n:Nat):List Int:=(List.range n).map fun (i:Nat)=>b+s*(i:Int)
@[simp] theorem W9 {b s:Int} {n:Nat}:(mem b s n).length=n:=by simp[mem]
theorem Bc {b s:Int} {n i:Nat} (h:i<n):(mem b s n)[i]?=some (b+s*(i:Int)):=by simp[mem,h]
theorem qdU (b s c:Int) (m:Jj s (c-1)):J3 [.d (tr b s c)]=.ok (.d (tr (b+s*(c-1)) (-s) c)) [.d (tr b s c)]:=by
 unfold J3 Wb;simp[m]
def eaV (b s c k i:Int):D:=if c≤i then .non else tr (b+s*i) (s*k) ((c-i+k-1).fdiv k)
theorem qkp (b s c k i:Int) (m1:c≤i∨Jj s i) (m2:Jj s k) (m3:Bn k):Vk [.d (tr b s c),.d (.int k),.d (.int i)]=.ok (.d (eaV b s c k i)) [.d (tr b s c),.d (.int k),.d (.int i)]:=by
 unfold Vk U6 eaV;by_cases h:c≤i
 ·simp[h]
 ·have m1:Jj s i:=m1.resolve_left h;simp[h,m1,m2,m3]
def cuV (b s lo hi:Int):D:=if lo=hi then .non else tr (b+s*lo) s (hi-lo)
theorem qkw (b s c lo hi:Int) (e:D) (he:e=.int hi∨(e=.non∧hi=c)) (h1:0≤lo) (h2:lo≤hi) (h3:hi≤c) (m:Jj s lo):∃bs,Kl [.d (tr b s c),.d (.int lo),.d e]=.ok (.d (cuV b s lo hi)) bs∧bs.length=3:=by
 have a1:¬lo<0:=by omega
 have a2:¬c<lo:=by omega
 have a3:¬hi<lo:=by omega
 have a4:¬c<hi:=by omega
 unfold Kl Gw cuV;rcases he with rfl | ⟨rfl,rfl⟩
 ·by_cases h:lo=hi
  ·subst h;simp[a1,a2]
  ·simp[a1,a2,a3,a4,h,m]
 ·by_cases h:lo=hi
  ·subst h;simp[a1]
  ·simp[a1,a2,h,m]
abbrev S3:=Int×Int×Int
abbrev e3 (x:S3):D:=tr x.1 x.2.1 x.2.2
abbrev Zv (r:List S3):D:=.tup (r.map fun x=>tr x.1 x.2.1 x.2.2)
def Zj:List S3→Int
 | []=>0
 | x::r=>x.2.2+Zj r
theorem Em:∀r:List S3,(r.map fun x=>x.2.2).sum=Zj r
 | []=>rfl
 | x::r=>by rw[List.map_cons,List.sum_cons,Em r];rfl
theorem vt {z:Int} (h:z.natAbs≤10 ^ 61):z.natAbs<big:=Nat.lt_of_le_of_lt h (by unfold big;decide +kernel)
theorem Uw {x y:Int} (h1:x.natAbs≤10 ^ 61) (h2:y.natAbs≤10 ^ 61):Jj x y:=.inr (.inr ⟨vt h1,vt h2⟩)
def Js (S:Nat) (r:List S3):Prop:=∀x∈r,St S x.1 x.2.1 x.2.2
theorem Js.tl {S:Nat} {x:S3} {r:List S3} (h:Js S (x::r)):Js S r:=fun y hy=>h y (List.mem_cons_of_mem _ hy)
theorem Js.hd {S:Nat} {x:S3} {r:List S3} (h:Js S (x::r)):St S x.1 x.2.1 x.2.2:=h x List.mem_cons_self
theorem Lk {S:Nat}:∀{r:List S3},Js S r→0≤Zj r
 | [],_=>Int.le_refl _
 | x::r,h=>by
  have:=Lk h.tl;have:=h.hd.c1;rw[Zj];omega
theorem U4 {α:Type} (f:α→Int) (xs:List α):Aj (xs.map fun x=>D.int (f x))=some (xs.map f):=by
 rw[← Og (xs.map f),List.map_map];rfl
theorem qfW (r:List S3) (hr:r.length≤1000):fLc (C4 (Qi 0)) [1] (Qg 1) jw (eOp ixD (Qi 1) (eC (.int 2))) [some (.d (Zv r)),none]=.ok (.lst (r.map fun x=>D.int x.2.2)) [some (.d (Zv r)),none]:=
 qcw (xs:=r) (fun x=>tr x.1 x.2.1 x.2.2) (fun x=>D.int x.2.2) (by simp) (by simp) (qbd (by omega)) fun x hx=>by simp
theorem qeU (r:List S3) (hr:r.length≤1000):Vl [.d (Zv r)]=.ok (.d (.int (Zj r))) [.d (Zv r)]:=by
 have e:=qfW r hr;have e2:=Em r;unfold Vl Th;simp[e,U4,e2]
def Fs (r:List S3):List S3:=r.reverse.map fun x=>(x.1+x.2.1*(x.2.2-1),-x.2.1,x.2.2)
theorem St.mc {S:Nat} {b s c:Int} (h:St S b s c) (hS:S≤10 ^ 61):Jj s (c-1):=Uw (Nat.le_trans h.sB hS) (by have:=h.cB;have:=h.c1;omega)
theorem qaT {S:Nat} {r:List S3} (ok:Js S r) (hS:S≤10 ^ 61) (hr:r.length≤1000):Km [.d (Zv r)]=.ok (.d (Zv (Fs r))) [.d (Zv r)]:=by
 have e:fLc (C4 (qfr (Qi 0) (E7 (eUn Sv (eC (.int 1)))))) [1] (Qg 1) jw (Q6 1 J3 (Qd (Qi 1) Qr)) [some (.d (Zv r)),none]=.ok (.lst ((Fs r).map fun x=>tr x.1 x.2.1 x.2.2)) [some (.d (Zv r)),none]:=by
  unfold Fs;rw[List.map_map];refine qcw (xs:=r.reverse) (fun x=>tr x.1 x.2.1 x.2.2) _ (by simp) (by simp) (by rw[List.length_reverse];exact qbd (by omega)) fun x hx=>?_;have hd:=ok x (by simpa using hx);have et:=qdU x.1 x.2.1 x.2.2 (hd.mc hS);simp[et]
 unfold Km Gx;simp[e]
def Pe:List S3→Int→Int→Int→List S3
 | [],_,_,_=>[]
 | x::r,k,i,a=>(if x.2.2≤(i-a).fmod k then [] else [(x.1+x.2.1*(i-a).fmod k,x.2.1*k,(x.2.2-(i-a).fmod k+k-1).fdiv k)])++Pe r k i (a+x.2.2)
theorem qaI:∀(r:List S3) (k i a:Int),(Pe r k i a).length≤r.length
 | [],_,_,_=>Nat.le_refl _
 | x::r,k,i,a=>by
  have:=qaI r k i (a+x.2.2);rw[Pe,List.length_append,List.length_cons];split<;>simp<;>omega
theorem yg {S:Nat} {o0:Option L} {k i:Int} (hk:0<k) (hk2:k≤1000):∀{r acc:List S3} {a:Int},Js S r→S≤10 ^ 60→acc.length+r.length≤1000→
  Z9 (Qg 5) Ku (r.map fun x=>tr x.1 x.2.1 x.2.2) [o0,some (.d (.int k)),some (.d (.int i)),some (.m (.lst (acc.map fun x=>tr x.1 x.2.1 x.2.2))),some (.d (.int a)),none,none] =
   .ok .nx [o0,some (.d (.int k)),some (.d (.int i)),some (.m (.lst ((acc++Pe r k i a).map fun x=>tr x.1 x.2.1 x.2.2))),some (.d (.int (a+Zj r))),none,none]
 | [],acc,a,_,_,_=>by simp[Pe,Zj]
 | x::r,acc,a,ok,hS,hl=>by
  rw[List.length_cons]at hl;have hd:=ok.hd;have f0:=Int.fmod_nonneg_of_pos (i-a) hk;have f1:=Int.fmod_lt_of_pos (i-a) hk;have m1:Jj x.2.1 ((i-a).fmod k):=.inr (.inl (by omega));have m2:Jj x.2.1 k:=.inr (.inl (by omega));have dk:Bn k:=⟨by omega,vt (by omega)⟩;have ea:=qkp x.1 x.2.1 x.2.2 k ((i-a).fmod k) (.inr m1) m2 dk;have hk0:k≠0:=by omega
  unfold eaV at ea;by_cases h:x.2.2≤(i-a).fmod k
  ·rw[if_pos h]at ea;have e:bdE (Qg 5) Ku (tr x.1 x.2.1 x.2.2) [o0,some (.d (.int k)),some (.d (.int i)),some (.m (.lst (acc.map fun x=>tr x.1 x.2.1 x.2.2))),some (.d (.int a)),none,none] =
     .ok .nx [o0,some (.d (.int k)),some (.d (.int i)),some (.m (.lst (acc.map fun x=>tr x.1 x.2.1 x.2.2))),some (.d (.int (a+x.2.2))),none,none]:=by
    simp[Ku,ea,hk0]
   rw[List.map_cons,Q5 e,yg hk hk2 ok.tl hS (by omega)];simp[Pe,h,Zj,Int.add_assoc]
  ·rw[if_neg h]at ea;have e:bdE (Qg 5) Ku (tr x.1 x.2.1 x.2.2) [o0,some (.d (.int k)),some (.d (.int i)),some (.m (.lst (acc.map fun x=>tr x.1 x.2.1 x.2.2))),some (.d (.int a)),none,none] =
     .ok .nx [o0,some (.d (.int k)),some (.d (.int i)),some (.m (.lst ((acc++[(x.1+x.2.1*(i-a).fmod k,x.2.1*k,(x.2.2-(i-a).fmod k+k-1).fdiv k)]).map fun x=>tr x.1 x.2.1 x.2.2))),some (.d (.int (a+x.2.2))),none,none]:=by
    simp[Ku,ea,hk0,show acc.length≤100000 by omega]
   rw[List.map_cons,Q5 e,yg hk hk2 ok.tl hS (by simp;omega)];simp[Pe,h,Zj,Int.add_assoc]
theorem qeE {S:Nat} {r:List S3} (ok:Js S r) (hS:S≤10 ^ 60) (hr:r.length≤900) {k i:Int} (hk:0<k) (hk2:k≤1000):Hm [.d (Zv r),.d (.int k),.d (.int i)]=.ok (.d (Zv (Pe r k i 0))) [.d (Zv r),.d (.int k),.d (.int i)]:=by
 have e:=yg (o0:=some (.d (Zv r))) (i:=i) hk hk2 (acc:=[]) (a:=0) ok hS (by simp;omega);unfold Hm Ti;simp at e;simp[e]
theorem qaK {c f k:Int} (hk:0<k):1+(c-1-f).fdiv k=(c-f+k-1).fdiv k:=by
 have e:c-f+k-1=(c-1-f)+1*k:=by omega
 rw[e,Int.add_mul_fdiv_right _ _ (by omega)];omega
def D2:List S3→Int→Int→Int→List S3
 | [],_,_,_=>[]
 | x::r,lo,hi,a=>(if max (lo-a) 0<min (hi-a) x.2.2 then [(x.1+x.2.1*max (lo-a) 0,x.2.1,min (hi-a) x.2.2-max (lo-a) 0)] else [])++D2 r lo hi (a+x.2.2)
theorem Bo:∀(r:List S3) (lo hi a:Int),(D2 r lo hi a).length≤r.length
 | [],_,_,_=>Nat.le_refl _
 | x::r,lo,hi,a=>by
  have:=Bo r lo hi (a+x.2.2);rw[D2,List.length_append,List.length_cons];split<;>simp<;>omega
theorem three {bs:List L} (h:bs.length=3):∃x y z,bs=[x,y,z]:=by
 rcases bs with _ | ⟨x,_ | ⟨y,_ | ⟨z,_ | ⟨_,_⟩⟩⟩⟩<;>simp at h
 exact⟨x,y,z,rfl⟩
theorem yh {S:Nat} {o0 o3:Option L} {lo hi:Int}:∀{r acc:List S3} {a:Int},Js S r→S≤10 ^ 60→acc.length+r.length≤1000→
  Z9 (Qg 6) Ub (r.map fun x=>tr x.1 x.2.1 x.2.2) [o0,some (.d (.int lo)),some (.d (.int hi)),o3,some (.m (.lst (acc.map fun x=>tr x.1 x.2.1 x.2.2))),some (.d (.int a)),none,none,none] =
   .ok .nx [o0,some (.d (.int lo)),some (.d (.int hi)),o3,some (.m (.lst ((acc++D2 r lo hi a).map fun x=>tr x.1 x.2.1 x.2.2))),some (.d (.int (a+Zj r))),none,none,none]
 | [],acc,a,_,_,_=>by simp[D2,Zj]
 | x::r,acc,a,ok,hS,hl=>by
  rw[List.length_cons]at hl;have hd:=ok.hd;have cB:=hd.cB;by_cases h:max (lo-a) 0<min (hi-a) x.2.2
  ·have m1:Jj x.2.1 (max (lo-a) 0):=Uw (Nat.le_trans hd.sB (Nat.le_trans hS (by decide))) (by omega);obtain⟨bs,ec,hb⟩:=qkw x.1 x.2.1 x.2.2 (max (lo-a) 0) (min (hi-a) x.2.2) (.int (min (hi-a) x.2.2)) (.inl rfl) (by omega) (by omega) (by omega) m1;obtain⟨y1,y2,y3,rfl⟩:=three hb;unfold cuV at ec;rw[if_neg (by omega)]at ec;have e:bdE (Qg 6) Ub (tr x.1 x.2.1 x.2.2) [o0,some (.d (.int lo)),some (.d (.int hi)),o3,some (.m (.lst (acc.map fun x=>tr x.1 x.2.1 x.2.2))),some (.d (.int a)),none,none,none] =
     .ok .nx [o0,some (.d (.int lo)),some (.d (.int hi)),o3,some (.m (.lst ((acc++[(x.1+x.2.1*max (lo-a) 0,x.2.1,min (hi-a) x.2.2-max (lo-a) 0)]).map fun x=>tr x.1 x.2.1 x.2.2))),some (.d (.int (a+x.2.2))),none,none,none]:=by
    simp[Ub,h,ec,show acc.length≤100000 by omega]
   rw[List.map_cons,Q5 e,yh ok.tl hS (by simp;omega)];simp only[D2,if_pos h,Zj];simp[Int.add_assoc]
  ·have e:bdE (Qg 6) Ub (tr x.1 x.2.1 x.2.2) [o0,some (.d (.int lo)),some (.d (.int hi)),o3,some (.m (.lst (acc.map fun x=>tr x.1 x.2.1 x.2.2))),some (.d (.int a)),none,none,none] =
     .ok .nx [o0,some (.d (.int lo)),some (.d (.int hi)),o3,some (.m (.lst (acc.map fun x=>tr x.1 x.2.1 x.2.2))),some (.d (.int (a+x.2.2))),none,none,none]:=by
    simp[Ub,h]
   rw[List.map_cons,Q5 e,yh ok.tl hS (by omega)];simp only[D2,if_neg h,Zj];simp[Int.add_assoc]
theorem qhe {S:Nat} {r:List S3} (ok:Js S r) (hS:S≤10 ^ 60) (hr:r.length≤900) (lo hi:Int) (e:D) (he:e=.int hi∨(e=.non∧hi=Zj r)):∃x y z,Hw [.d (Zv r),.d (.int lo),.d e] =
  (if lo<0∨Zj r<lo then .ex ⟨"BadPlace",some [("place",.int lo)]⟩ [x,y,z] else if hi<lo∨Zj r<hi then .ex ⟨"BadPlace",some [("place",.int hi)]⟩ [x,y,z] else .ok (.d (Zv (D2 r lo hi 0))) [x,y,z]):=by
 have es:=qeU r (by omega);have el:=yh (o0:=some (.d (Zv r))) (o3:=some (.d (.int (Zj r)))) (lo:=lo) (hi:=hi) (acc:=[]) (a:=0) ok hS (by simp;omega);have hn:=Lk ok;unfold Hw Df;simp at el;rcases he with rfl | ⟨rfl,rfl⟩
 ·by_cases h1:lo<0
  ·simp[es,h1]
  ·by_cases h2:Zj r<lo
   ·simp[es,h1,h2]
   ·by_cases h3:hi<lo
    ·simp[es,h1,h2,h3]
    ·by_cases h4:Zj r<hi
     ·simp[es,h1,h2,h3,h4]
     ·simp[es,h1,h2,h3,h4,el]
 ·by_cases h1:lo<0
  ·simp[es,h1]
  ·by_cases h2:Zj r<lo
   ·simp[es,h1,h2]
   ·simp[es,h1,h2,el]
theorem St.nn {S:Nat} {b s c p:Int} (h:St S b s c) (h0:0≤p) (h1:p<c):0≤b+s*p∧b+s*p≤1000000000000000000000000000000000000000000000000000000000000:=by
 have hb:=h.b0;have he:=h.e0;have hB:=h.bB;have hE:=h.eB;by_cases hs:0≤s
 ·have h2:=Int.mul_nonneg hs h0;have h3:s*p≤s*(c-1):=Int.mul_le_mul_of_nonneg_left (by omega) hs;omega
 ·have h2:s*(c-1)≤s*p:=Int.mul_le_mul_of_nonpos_left (by omega) (by omega);have h3:s*p≤s*0:=Int.mul_le_mul_of_nonpos_left (by omega) h0;omega
theorem St.mono {S S':Nat} {b s c:Int} (h:St S b s c) (hS:S≤S'):St S' b s c:={ h with sB:=Nat.le_trans h.sB hS }
theorem St.sub {S:Nat} {b s c:Int} (h:St S b s c) {p k m:Int} (hp:0≤p) (hk:1≤k) (hk2:k≤9) (hm:1≤m) (hl:p+k*(m-1)<c):St (S*9) (b+s*p) (s*k) m:=by
 have h1:1*(m-1)≤k*(m-1):=Int.mul_le_mul_of_nonneg_right hk (by omega);have h0:=h.nn (p:=p) hp (by omega);have h2:=h.nn (p:=p+k*(m-1)) (by omega) hl;have e:b+s*p+s*k*(m-1)=b+s*(p+k*(m-1)):=by
  rw[Int.mul_add,Int.mul_assoc];omega
 have hc:=h.cB;refine⟨?_,hm,h0.1,by rw[e];exact h2.1,by omega,?_,h0.2,by rw[e];exact h2.2⟩
 ·exact Int.mul_ne_zero h.s0 (by omega)
 ·rw[Int.natAbs_mul];exact Nat.mul_le_mul h.sB (by omega)
theorem Ed {S:Nat}:∀{r:List S3} {lo hi a:Int},Js S r→Js (S*9) (D2 r lo hi a)
 | [],_,_,_,_=>fun x hx=>nomatch hx
 | t::r,lo,hi,a,ok=>fun x hx=>by
  rw[D2]at hx;rcases List.mem_append.mp hx with z | z
  ·split at z
   ·rename_i q;rw[List.mem_singleton.mp z];have:=ok.hd.sub (p:=max (lo-a) 0) (k:=1) (m:=min (hi-a) t.2.2-max (lo-a) 0) (by omega) (by omega) (by omega) (by omega) (by omega);rw[Int.mul_one]at this;exact this
   ·cases z
  ·exact Ed ok.tl x z
theorem qbI {S:Nat} {r:List S3} (ok:Js S r):Js S (Fs r):=fun x hx=>by
 obtain⟨y,hy,rfl⟩:=List.mem_map.mp hx;have h:=ok y (by simpa using hy);have e:-y.2.1*(y.2.2-1)=-(y.2.1*(y.2.2-1)):=Int.neg_mul _ _;have s0:=h.s0;have b0:=h.b0;have e0:=h.e0;have bB:=h.bB;have eB:=h.eB;exact⟨show -y.2.1≠0 by omega,h.c1,h.e0,show 0≤y.1+y.2.1*(y.2.2-1) + -y.2.1*(y.2.2-1) by rw[e];omega,h.cB,by rw[Int.natAbs_neg];exact h.sB,h.eB,show y.1+y.2.1*(y.2.2-1) + -y.2.1*(y.2.2-1)≤_ by rw[e];omega⟩
theorem qde {S:Nat} {k i:Int} (hk:1≤k) (hk2:k≤9):∀{r:List S3} {a:Int},Js S r→Js (S*9) (Pe r k i a)
 | [],_,_=>fun x hx=>nomatch hx
 | t::r,a,ok=>fun x hx=>by
  rw[Pe]at hx;rcases List.mem_append.mp hx with z | z
  ·split at z
   ·cases z
   ·rename_i q;rw[List.mem_singleton.mp z];have f0:=Int.fmod_nonneg_of_pos (i-a) (show 0<k by omega);generalize (i-a).fmod k=f at *;have hd:0≤(t.2.2-f+k-1):=by omega
    have h1:=Int.mul_fdiv_add_fmod (t.2.2-f+k-1) k;have h2:=Int.fmod_nonneg_of_pos (t.2.2-f+k-1) (show 0<k by omega);have h3:=Int.fmod_lt_of_pos (t.2.2-f+k-1) (show 0<k by omega);have h4:1≤(t.2.2-f+k-1).fdiv k:=by
     rw[← qaK (by omega)];have:=Int.fdiv_nonneg (show 0≤t.2.2-1-f by omega) (show 0≤k by omega);omega
    refine ok.hd.sub f0 hk hk2 h4 ?_;show f+k*((t.2.2-f+k-1).fdiv k-1)<t.2.2;rw[Int.mul_sub,Int.mul_one];omega
  ·exact qde hk hk2 ok.tl x z
def Yw:List S3→List Int
 | []=>[]
 | x::r=>mem x.1 x.2.1 x.2.2.toNat++Yw r
theorem qaa {S:Nat}:∀{r:List S3},Js S r→((Yw r).length:Int)=Zj r
 | [],_=>rfl
 | x::r,h=>by
  have:=qaa h.tl;have:=h.hd.c1;rw[Yw,Zj,List.length_append,W9];omega
theorem qfo {α β:Type} {f:α→Option β} {g:α→β}:∀{l:List α},(∀j∈l,f j=some (g j))→l.filterMap f=l.map g
 | [],_=>rfl
 | x::l,h=>by
  rw[List.filterMap_cons,h x List.mem_cons_self,List.map_cons,qfo fun j hj=>h j (List.mem_cons_of_mem _ hj)]
theorem qqL {b s:Int} {n i:Nat}:(mem b s n)[i]?=if i<n then some (b+s*(i:Int)) else none:=by
 by_cases h:i<n
 ·rw[if_pos h,Bc h]
 ·rw[if_neg h,List.getElem?_eq_none (by rw[W9];omega)]
theorem qgv (b s:Int) (n:Nat) (c:Int) (hc:c=(n:Int)):(mem b s n).reverse=mem (b+s*(c-1)) (-s) n:=by
 subst hc;refine List.ext_getElem? fun i=>?_;by_cases h:i<n
 ·rw[List.getElem?_reverse (by rw[W9];exact h),W9,Bc (by omega),Bc h];have e1:((n-1-i:Nat):Int)=(n:Int)-1-i:=by omega
  rw[e1];have e2:s*((n:Int)-1-(i:Int))=s*((n:Int)-1)-s*(i:Int):=Int.mul_sub _ _ _;have e3:-s*(i:Int)=-(s*(i:Int)):=Int.neg_mul _ _;rw[e2,e3];congr 1;omega
 ·rw[List.getElem?_eq_none (by rw[List.length_reverse,W9];omega),List.getElem?_eq_none (by rw[W9];omega)]
theorem Ca:∀u v:List S3,Yw (u++v)=Yw u++Yw v
 | [],v=>rfl
 | x::u,v=>by rw[List.cons_append,Yw,Yw,Ca u v,List.append_assoc]
theorem zr {S:Nat}:∀{r:List S3},Js S r→Yw (Fs r)=(Yw r).reverse
 | [],_=>rfl
 | x::r,ok=>by
  have c1:=ok.hd.c1;have ih:=zr ok.tl;unfold Fs at ih ⊢;rw[List.reverse_cons,List.map_append,Ca,ih,Yw,List.reverse_append,qgv x.1 x.2.1 x.2.2.toNat x.2.2 (by omega)];simp[Yw]
theorem qiZ (b s:Int) (m H n:Nat):((mem b s m).take H).drop n=mem (b+s*(n:Int)) s (min H m-n):=by
 refine List.ext_getElem? fun i=>?_;rw[List.getElem?_drop];by_cases h:i<min H m-n
 ·rw[List.getElem?_take_of_lt (by omega),Bc (by omega),Bc h,show ((n+i:Nat):Int)=(n:Int)+(i:Int) by omega,Int.mul_add];congr 1;omega
 ·rw[List.getElem?_eq_none (by rw[List.length_take,W9];omega),List.getElem?_eq_none (by rw[W9];omega)]
theorem qab {S:Nat} {lo hi:Int}:∀{r:List S3} {a:Int},Js S r→Yw (D2 r lo hi a)=((Yw r).take (hi-a).toNat).drop (lo-a).toNat
 | [],a,_=>by simp[D2,Yw]
 | x::r,a,ok=>by
  have c1:=ok.hd.c1;have ih:=qab (lo:=lo) (hi:=hi) (a:=a+x.2.2) ok.tl;rw[D2,Ca,ih,Yw,List.take_append,List.drop_append,qiZ,W9,List.length_take,W9];congr 1
  ·by_cases q:max (lo-a) 0<min (hi-a) x.2.2
   ·rw[if_pos q];show mem (x.1+x.2.1*max (lo-a) 0) x.2.1 (min (hi-a) x.2.2-max (lo-a) 0).toNat++[]=_;rw[List.append_nil,show ((lo-a).toNat:Int)=max (lo-a) 0 by omega,show (min (hi-a) x.2.2-max (lo-a) 0).toNat=min (hi-a).toNat x.2.2.toNat-(lo-a).toNat by omega]
   ·rw[if_neg q,show min (hi-a).toNat x.2.2.toNat-(lo-a).toNat=0 by omega];rfl
  ·by_cases q:x.2.2.toNat≤(hi-a).toNat
   ·rw[show (hi-(a+x.2.2)).toNat=(hi-a).toNat-x.2.2.toNat by omega,show (lo-(a+x.2.2)).toNat=(lo-a).toNat-min (hi-a).toNat x.2.2.toNat by omega]
   ·rw[show (hi-(a+x.2.2)).toNat=0 by omega,show (hi-a).toNat-x.2.2.toNat=0 by omega];simp
theorem qdp {k u v f:Nat} (hk:0<k) (hv:v<k) (hf:f<k):(k*u+v-f+k-1) / k=if f<v then u+1 else u:=by
 have g:∀t:Nat,t*k=k*t:=fun t=>Nat.mul_comm t k;have g2:∀t:Nat,k*(t+1)=k*t+k:=fun t=>Nat.mul_succ k t;by_cases h:f<v
 ·rw[if_pos h];exact Nat.div_eq_of_lt_le (by rw[g];simp only[g2];omega) (by rw[g];simp only[g2];omega)
 ·rw[if_neg h];cases u with
  | zero=>exact Nat.div_eq_of_lt (by omega)
  | succ u=>exact Nat.div_eq_of_lt_le (by rw[g];simp only[g2];omega) (by rw[g];simp only[g2];omega)
theorem qai {α:Type} (g:Nat→Option α) {k f:Nat} (hk:0<k) (hf:f<k):∀n:Nat,((List.range n).filterMap fun q=>if q % k=f then g q else none)=(List.range ((n-f+k-1) / k)).filterMap fun j=>g (f+k*j)
 | 0=>by
  rw[Nat.div_eq_of_lt (by omega)];rfl
 | n+1=>by
  have ih:=qai g hk hf n;have hd:=Nat.div_add_mod n k;have hm:=Nat.mod_lt n hk;generalize n / k=u at hd;generalize hv:n % k=v at hd hm;have c1:=qdp (u:=u) hk hm hf;rw[hd]at c1;have c2:(n+1-f+k-1) / k=if f<v+1 then u+1 else u:=by
   by_cases q:v+1<k
   ·have:=qdp (u:=u) hk q hf;rw[show k*u+(v+1)=n+1 by omega]at this;exact this
   ·have:=qdp (u:=u+1) (v:=0) hk hk hf;rw[show k*(u+1)+0=n+1 by rw[Nat.mul_add];omega]at this;rw[this,if_neg (by omega),if_pos (by omega)]
  rw[List.range_succ,List.filterMap_append,ih,c1,c2];by_cases e:v=f
  ·subst e;rw[if_neg (by omega),if_pos (by omega),List.range_succ,List.filterMap_append];congr 1;have e2:v+k*u=n:=by omega
   rw[List.filterMap_cons,List.filterMap_cons,e2,if_pos hv];rfl
  ·by_cases q:f<v
   ·rw[if_pos q,if_pos (by omega)];simp[hv,e]
   ·rw[if_neg q,if_neg (by omega)];simp[hv,e]
def sel (k i a:Int) (w:List Int):List Int:=(List.range w.length).filterMap fun (q:Nat)=>if (i-a-(q:Int)).fmod k=0 then w[q]? else none
theorem La {α β:Type} {f g:α→Option β}:∀{l:List α},(∀x∈l,f x=g x)→l.filterMap f=l.filterMap g
 | [],_=>rfl
 | x::l,h=>by
  rw[List.filterMap_cons,List.filterMap_cons,h x List.mem_cons_self,La fun y hy=>h y (List.mem_cons_of_mem _ hy)]
theorem qf2 (k i a:Int) (u v:List Int):sel k i a (u++v)=sel k i a u++sel k i (a+u.length) v:=by
 unfold sel;rw[List.length_append,List.range_add,List.filterMap_append,List.filterMap_map];congr 1
 ·refine La fun q hq=>?_;rw[List.getElem?_append_left (List.mem_range.mp hq)]
 ·refine La fun q hq=>?_;show (if (i-a-((u.length+q:Nat):Int)).fmod k=0 then (u++v)[u.length+q]? else none)=_;rw[List.getElem?_append_right (by omega),Nat.add_sub_cancel_left,show i-a-((u.length+q:Nat):Int)=i-(a+(u.length:Int))-(q:Int) by omega]
theorem qcn {k:Nat} (hk:0<k) (z:Int) (f q:Nat) (hf:(f:Int)=z.fmod k):(z-(q:Int)).fmod k=0↔q % k=f:=by
 rw[Int.fmod_eq_emod_of_nonneg _ (by omega)]at hf ⊢;rw[← Int.emod_eq_emod_iff_emod_sub_eq_zero,← hf];constructor
 ·intro h;have:((q % k:Nat):Int)=(f:Int):=by rw[Int.natCast_emod,← h]
  exact_mod_cast this
 ·intro h;rw[← h,Int.natCast_emod]
theorem qaj (k:Nat) (hk:0<k) (i a:Int) (w:List Int) (f:Nat) (hf:(f:Int)=(i-a).fmod k):sel k i a w=(List.range ((w.length-f+k-1) / k)).filterMap fun j=>w[f+k*j]?:=by
 have h1:=Int.fmod_lt_of_pos (i-a) (show (0:Int)<k by omega);rw[← qai (fun q=>w[q]?) hk (show f<k by omega)];unfold sel;refine La fun q _=>?_;by_cases e:q % k=f
 ·rw[if_pos e,if_pos ((qcn hk _ f q hf).mpr e)]
 ·rw[if_neg e,if_neg fun z=>e ((qcn hk _ f q hf).mp z)]
theorem qc2 {α β:Type} {f:α→Option β} {g:α→β}:∀{l:List α},(∀j∈l,f j=some (g j))→l.filterMap f=l.map g
 | [],_=>rfl
 | x::l,h=>by
  rw[List.filterMap_cons,h x List.mem_cons_self,List.map_cons,qc2 fun j hj=>h j (List.mem_cons_of_mem _ hj)]
theorem qfZ (b s:Int) (m k:Nat) (hk:0<k) (i a:Int) (f:Nat) (hf:(f:Int)=(i-a).fmod k):sel k i a (mem b s m)=mem (b+s*(f:Int)) (s*(k:Int)) ((m-f+k-1) / k):=by
 rw[qaj k hk i a _ f hf,W9];refine qc2 fun j hj=>?_;have hj:j<(m-f+k-1) / k:=by simpa using hj
 have h2:(j+1)*k≤m-f+k-1:=(Nat.le_div_iff_mul_le hk).mp hj;have h3:(j+1)*k=k*j+k:=by rw[Nat.add_mul,Nat.mul_comm j k,Nat.one_mul]
 rw[Bc (by omega)];rw[show ((f+k*j:Nat):Int)=(f:Int)+(k:Int)*(j:Int) by push_cast;rfl,Int.mul_add,Int.mul_assoc];congr 1;omega
theorem zt {S:Nat} (k:Nat) (hk:0<k) {i:Int}:∀{r:List S3} {a:Int},Js S r→Yw (Pe r k i a)=sel k i a (Yw r)
 | [],a,_=>rfl
 | x::r,a,ok=>by
  have c1:=ok.hd.c1;have f0:=Int.fmod_nonneg_of_pos (i-a) (show (0:Int)<k by omega);have f1:=Int.fmod_lt_of_pos (i-a) (show (0:Int)<k by omega);obtain⟨f,hf⟩:=Int.eq_ofNat_of_zero_le f0;have sm:=qfZ x.1 x.2.1 x.2.2.toNat k hk i a f hf.symm;rw[Pe,Ca,zt k hk ok.tl,Yw,qf2,W9,show ((x.2.2.toNat:Nat):Int)=x.2.2 by omega,sm];congr 1;rw[hf];by_cases q:x.2.2≤(f:Int)
  ·rw[if_pos q,show (x.2.2.toNat-f+k-1) / k=0 from Nat.div_eq_of_lt (by omega)];rfl
  ·rw[if_neg q];show mem (x.1+x.2.1*(f:Int)) (x.2.1*k) ((x.2.2-(f:Int)+k-1).fdiv k).toNat++[]=_;rw[List.append_nil];congr 1;rw[Int.fdiv_eq_ediv_of_nonneg _ (by omega),show x.2.2-(f:Int)+(k:Int)-1=((x.2.2.toNat-f+k-1:Nat):Int) by omega,← Int.natCast_ediv,Int.toNat_natCast]
def loS:Sm→Int→Int
 | .rest b,N=>min (b:Int) N
 | .last b,N=>N-min (b:Int) N
 | .block k i,N=>((i:Int)*N).fdiv k
 | _,_=>0
def hiS:Sm→Int→Int
 | .front b,N=>min (b:Int) N
 | .but b,N=>N-min (b:Int) N
 | .block k i,N=>(((i:Int)+1)*N).fdiv k
 | _,N=>N
def Sm.cut:Sm→Bool
 | .same=>false
 | .turn=>false
 | .each _ _=>false
 | _=>true
theorem qhq {k:Nat} (h:k≤1000000):(k:Int).natAbs<big:=Nat.lt_of_le_of_lt (show (k:Int).natAbs≤10 ^ 61 from Nat.le_trans (by omega) (show 1000000≤10 ^ 61 by decide)) (by unfold big;decide +kernel)
theorem ql1 {k:Nat} (h1:1≤k) (h:k≤1000000):Bn (k:Int):=⟨by omega,qhq h⟩
theorem Nx {M W:Nat} (hM:M≤1000) (hW:W≤1000) {s:Sm} (h:s.ok M W) (hc:s.cut=true) (N:Int):Kk [.d s.d,.d (.int N)]=.ok (.d (.tup [.int (loS s N),.int (hiS s N)])) [.d s.d,.d (.int N)]:=by
 unfold Kk Gv;cases s with
 | same=>cases hc
 | turn=>cases hc
 | each k i=>cases hc
 | front b=>simp[Sm.d,loS,hiS]
 | rest b=>simp[Sm.d,loS,hiS]
 | last b=>simp[Sm.d,loS,hiS]
 | but b=>simp[Sm.d,loS,hiS]
 | block k i=>
  have m1:Jj (i:Int) N:=.inl (by have:=h.2.1;have:=h.2.2;omega);have m2:Jj ((i:Int)+1) N:=.inl (by have:=h.2.1;have:=h.2.2;omega);have d1:=ql1 h.1 (show k≤1000000 by have:=h.2.1;omega);simp[Sm.d,loS,hiS,m1,m2,d1]
def dp:Ps→Nat
 | .nil=>0
 | .sm _ t=>dp t
 | .both l r t=>max (1+max (dp l) (dp r)) (dp t)
def Cr:Sm→List S3→List S3
 | .same,r=>r
 | .turn,r=>Fs r
 | .each k i,r=>Pe r k i 0
 | s,r=>D2 r (loS s (Zj r)) (hiS s (Zj r)) 0
def Jf:Ps→List S3→List S3
 | .nil,r=>r
 | .sm s t,r=>Jf t (Cr s r)
 | .both l r t,u=>Jf t (Jf l u++Jf r u)
def lv:Ps→Nat
 | .nil=>1
 | .sm _ t=>lv t
 | .both l r t=>(lv l+lv r)*lv t
theorem qcs:∀{p:Ps},lv p≤2 ^ p.nb
 | .nil=>Nat.le_refl _
 | .sm _ t=>qcs (p:=t)
 | .both l r t=>by
  have h1:=qcs (p:=l);have h2:=qcs (p:=r);have h3:=qcs (p:=t);have e1:2 ^ l.nb≤2 ^ (l.nb+r.nb):=Nat.pow_le_pow_right (by decide) (by omega);have e2:2 ^ r.nb≤2 ^ (l.nb+r.nb):=Nat.pow_le_pow_right (by decide) (by omega);show (lv l+lv r)*lv t≤2 ^ (l.nb+r.nb+t.nb+1);have e3:2 ^ (l.nb+r.nb+t.nb+1)=(2 ^ (l.nb+r.nb)*2)*2 ^ t.nb:=by
   rw[show l.nb+r.nb+t.nb+1=(l.nb+r.nb+1)+t.nb by omega,Nat.pow_add,Nat.pow_succ]
  rw[e3];exact Nat.mul_le_mul (by omega) h3
theorem Js.app {S:Nat} {r u:List S3} (h:Js S r) (h2:Js S u):Js S (r++u):=fun x hx=>(List.mem_append.mp hx).elim (h x) (h2 x)
theorem Js.mono {S S':Nat} {r:List S3} (h:Js S r) (hs:S≤S'):Js S' r:=fun x hx=>(h x hx).mono hs
theorem Er {M W S:Nat} (hW:W≤9) {s:Sm} (h:s.ok M W) {r:List S3} (ok:Js S r):Js (S*9) (Cr s r):=by
 cases s with
 | same=>exact ok.mono (by omega)
 | turn=>exact (qbI ok).mono (by omega)
 | each k i=>exact qde (by have:=h.1;omega) (by have:=h.2.1;omega) ok
 | front b=>exact Ed ok
 | rest b=>exact Ed ok
 | last b=>exact Ed ok
 | but b=>exact Ed ok
 | block k i=>exact Ed ok
theorem Es {s:Sm} {r:List S3}:(Cr s r).length≤r.length:=by
 cases s with
 | same=>exact Nat.le_refl _
 | turn=>simp[Cr,Fs]
 | each k i=>exact qaI r k i 0
 | front b=>exact Bo r _ _ 0
 | rest b=>exact Bo r _ _ 0
 | last b=>exact Bo r _ _ 0
 | but b=>exact Bo r _ _ 0
 | block k i=>exact Bo r _ _ 0
theorem V6 {M W:Nat} (hW:W≤9):∀{p:Ps} {S:Nat} {r:List S3},p.wf M W→Js S r→Js (S*9 ^ p.np) (Jf p r)
 | .nil,S,r,_,ok=>by simpa [Jf,Ps.np] using ok
 | .sm s t,S,r,h,ok=>by
  have:=V6 hW (p:=t) h.2 (Er hW h.1 ok);show Js (S*9 ^ (t.np+1)) (Jf t (Cr s r));rw[Nat.pow_succ,Nat.mul_comm (9 ^ t.np) 9,← Nat.mul_assoc];exact this
 | .both l r t,S,u,h,ok=>by
  have a:=V6 hW (p:=l) h.1 ok;have b:=V6 hW (p:=r) h.2.1 ok;have e1:S*9 ^ l.np≤S*9 ^ (l.np+r.np+1):=Nat.mul_le_mul_left _ (Nat.pow_le_pow_right (by decide) (by omega));have e2:S*9 ^ r.np≤S*9 ^ (l.np+r.np+1):=Nat.mul_le_mul_left _ (Nat.pow_le_pow_right (by decide) (by omega));have c:=V6 hW (p:=t) h.2.2 ((a.mono e1).app (b.mono e2));show Js (S*9 ^ (l.np+r.np+t.np+1)) _;rw[show l.np+r.np+t.np+1=(l.np+r.np+1)+t.np by omega,Nat.pow_add,← Nat.mul_assoc];exact c
theorem K4:∀{p:Ps} {r:List S3},(Jf p r).length≤lv p*r.length
 | .nil,r=>by simp[Jf,lv]
 | .sm s t,r=>Nat.le_trans (K4 (p:=t)) (Nat.mul_le_mul_left _ Es)
 | .both l r t,u=>by
  have a:=K4 (p:=l) (r:=u);have b:=K4 (p:=r) (r:=u);refine Nat.le_trans (K4 (p:=t)) ?_;show lv t*(Jf l u++Jf r u).length≤(lv l+lv r)*lv t*u.length;rw[Nat.mul_comm (lv l+lv r) (lv t),Nat.mul_assoc];refine Nat.mul_le_mul_left _ ?_;rw[List.length_append,Nat.add_mul];omega
theorem L9:∀{p:Ps},1≤lv p
 | .nil=>Nat.le_refl _
 | .sm _ t=>L9 (p:=t)
 | .both l r t=>by
  have h1:=L9 (p:=l);have h3:=L9 (p:=t);exact Nat.mul_pos (by omega) h3
theorem Oq {a b k:Int} (hk:0<k) (h:a≤b):a.fdiv k≤b.fdiv k:=by
 rw[Int.fdiv_eq_ediv_of_nonneg _ (by omega),Int.fdiv_eq_ediv_of_nonneg _ (by omega)];exact Int.ediv_le_ediv hk h
theorem qqQ {M W:Nat} {s:Sm} (h:s.ok M W) (hc:s.cut=true) {N:Int} (hN:0≤N):0≤loS s N∧loS s N≤hiS s N∧hiS s N≤N:=by
 cases s with
 | same=>cases hc
 | turn=>cases hc
 | each k i=>cases hc
 | front b=>simp only[loS,hiS];omega
 | rest b=>simp only[loS,hiS];omega
 | last b=>simp only[loS,hiS];omega
 | but b=>simp only[loS,hiS];omega
 | block k i=>
  have hk:(0:Int)<k:=by have:=h.1;omega
  have h0:0≤(i:Int)*N:=Int.mul_nonneg (by omega) hN;have e1:((i:Int)+1)*N=i*N+N:=by rw[Int.add_mul,Int.one_mul]
  have h2:((i:Int)+1)*N≤k*N:=Int.mul_le_mul_of_nonneg_right (by have:=h.2.2;omega) hN;have h3:=Oq hk h2;rw[Int.mul_fdiv_cancel_left _ (by omega)]at h3;have h4:=Oq hk h0;rw[Int.zero_fdiv]at h4;exact⟨h4,Oq hk (by omega),h3⟩
theorem qiu {M W S:Nat} (hM:M≤1000) (hW:W≤9) {s:Sm} (h:s.ok M W) {r:List S3} (ok:Js S r) (hS:S≤10 ^ 60) (hr:r.length≤900) (n:Nat):(Zb (n+1)).1 [.d s.d,.d (Zv r)]=.ok (.d (Zv (Cr s r))) [.d s.d,.d (Zv r)]:=by
 show Ze 4 (Kt (Zb n).1 (Zb n).2) _=_;unfold Kt;have eT:=qaT ok (Nat.le_trans hS (Nat.pow_le_pow_right (by decide) (by decide))) (by omega);have eN:=qeU r (by omega);have hN:=Lk ok;have cut:∀(hc:s.cut=true) (hs:Cr s r=D2 r (loS s (Zj r)) (hiS s (Zj r)) 0),∃x y z,Hw [.d (Zv r),.d (.int (loS s (Zj r))),.d (.int (hiS s (Zj r)))]=.ok (.d (Zv (Cr s r))) [x,y,z]:=fun hc hs=>by
  obtain⟨x,y,z,e⟩:=qhe ok hS hr (loS s (Zj r)) (hiS s (Zj r)) (.int (hiS s (Zj r))) (.inl rfl);obtain⟨q1,q2,q3⟩:=qqQ h hc hN;rw[if_neg (by omega),if_neg (by omega)]at e;rw[hs];exact⟨x,y,z,e⟩
 cases s with
 | same=>simp[Sm.d,Cr]
 | turn=>simp[Sm.d,Cr,eT]
 | each k i=>
  have e:=qeE ok hS hr (k:=(k:Int)) (i:=(i:Int)) (by have:=h.1;omega) (by have:=h.2.1;omega);simp[Sm.d,Cr,e]
 | front b=>
  obtain⟨x,y,z,e⟩:=cut rfl rfl;have e2:=Nx hM (show W≤1000 by omega) h rfl (Zj r);simp only[Sm.d]at e2 e ⊢;simp[e,e2,eN]
 | rest b=>
  obtain⟨x,y,z,e⟩:=cut rfl rfl;have e2:=Nx hM (show W≤1000 by omega) h rfl (Zj r);simp only[Sm.d]at e2 e ⊢;simp[e,e2,eN]
 | last b=>
  obtain⟨x,y,z,e⟩:=cut rfl rfl;have e2:=Nx hM (show W≤1000 by omega) h rfl (Zj r);simp only[Sm.d]at e2 e ⊢;simp[e,e2,eN]
 | but b=>
  obtain⟨x,y,z,e⟩:=cut rfl rfl;have e2:=Nx hM (show W≤1000 by omega) h rfl (Zj r);simp only[Sm.d]at e2 e ⊢;simp[e,e2,eN]
 | block k i=>
  obtain⟨x,y,z,e⟩:=cut rfl rfl;have e2:=Nx hM (show W≤1000 by omega) h rfl (Zj r);simp only[Sm.d]at e2 e ⊢;simp[e,e2,eN]
theorem ye {p:Ps} {m:Nat} {r:List S3} (h:∀P,Z9 (Qg 2) (Xo (Zb m).1 (Zb m).2) p.ds [P,some (.d (Zv r)),none]=.ok .nx [P,some (.d (Zv (Jf p r))),none]) :
  (Zb (m+1)).2 [.d (.tup p.ds),.d (Zv r)]=.ok (.d (Zv (Jf p r))) [.d (.tup p.ds),.d (Zv r)]:=by
 show Ze 3 (Ks (Zb m).1 (Zb m).2) _=_;unfold Ks;have e:=h (some (.d (.tup p.ds)));simp only[F5];simp[e]
theorem Cq {M W:Nat} (hM:M≤1000) (hW:W≤9):∀(p:Ps) (m S:Nat) (r:List S3) (P:Option L),p.wf M W→Js S r→S*9 ^ p.np≤10 ^ 60→lv p*r.length≤900→2*dp p+1≤m→
  Z9 (Qg 2) (Xo (Zb m).1 (Zb m).2) p.ds [P,some (.d (Zv r)),none]=.ok .nx [P,some (.d (Zv (Jf p r))),none]
 | .nil,m,S,r,P,_,_,_,_,_=>by simp[Ps.ds,Jf]
 | .sm s t,m,S,r,P,h,ok,hS,hl,hm=>by
  obtain⟨m,rfl⟩:∃k,m=k+1:=⟨m-1,by omega⟩;have hS':S*9*9 ^ t.np≤10 ^ 60:=by
   have:S*9 ^ (t.np+1)=S*9*9 ^ t.np:=by rw[Nat.pow_succ,Nat.mul_comm (9 ^ t.np) 9,← Nat.mul_assoc]
   rw[← this];exact hS
  have p9:1≤9 ^ t.np:=Nat.pos_of_ne_zero (by simp);have hS1:S≤10 ^ 60:=Nat.le_trans (Nat.le_trans (Nat.le_mul_of_pos_right S (by decide)) (Nat.le_mul_of_pos_right (S*9) p9)) hS';have hl1:r.length≤900:=Nat.le_trans (Nat.le_mul_of_pos_left _ (L9 (p:=t))) hl;have e:=qiu hM hW h.1 ok hS1 hl1 m;have e2:bdE (Qg 2) (Xo (Zb (m+1)).1 (Zb (m+1)).2) s.d [P,some (.d (Zv r)),none]=.ok .nx [P,some (.d (Zv (Cr s r))),none]:=by
   generalize Zv (Cr s r)=z at e ⊢;simp[Xo,e]
  rw[Ps.ds,Q5 e2,Cq hM hW t (m+1) (S*9) _ P h.2 (Er hW h.1 ok) hS' (Nat.le_trans (Nat.mul_le_mul_left _ Es) hl) hm];rfl
 | .both l r t,m,S,u,P,h,ok,hS,hl,hm=>by
  simp only[dp]at hm;obtain⟨m,rfl⟩:∃k,m=k+1+1:=⟨m-2,by omega⟩;have hS2:S*9 ^ (l.np+r.np+t.np+1)≤10 ^ 60:=hS;have hl2:(lv l+lv r)*lv t*u.length≤900:=hl;have ml:∀k,k≤l.np+r.np+t.np+1→S*9 ^ k≤10 ^ 60:=fun k hk=>Nat.le_trans (Nat.mul_le_mul_left _ (Nat.pow_le_pow_right (by decide) hk)) hS2;have t1:=L9 (p:=t);have hlr:(lv l+lv r)*u.length≤900:=by
   refine Nat.le_trans ?_ hl2;rw[Nat.mul_assoc];exact Nat.mul_le_mul_left _ (Nat.le_mul_of_pos_left _ t1)
  have hll:lv l*u.length≤900:=Nat.le_trans (Nat.mul_le_mul_right _ (by omega)) hlr;have hrr:lv r*u.length≤900:=Nat.le_trans (Nat.mul_le_mul_right _ (by omega)) hlr;have el:=ye (p:=l) (m:=m) (r:=u) fun P=>Cq hM hW l m S u P h.1 ok (ml _ (by omega)) hll (by omega);have er:=ye (p:=r) (m:=m) (r:=u) fun P=>Cq hM hW r m S u P h.2.1 ok (ml _ (by omega)) hrr (by omega);have a:=K4 (p:=l) (r:=u);have b:=K4 (p:=r) (r:=u);have hlen:(Jf l u++Jf r u).length≤(lv l+lv r)*u.length:=by
   rw[List.length_append,Nat.add_mul];omega
  have qof:(Jf l u).length+(Jf r u).length≤100000:=by
   rw[List.length_append]at hlen;omega
  have e:(Zb (m+1+1)).1 [.d (.tup [.str "both",.tup l.ds,.tup r.ds]),.d (Zv u)]=.ok (.d (Zv (Jf l u++Jf r u))) [.d (.tup [.str "both",.tup l.ds,.tup r.ds]),.d (Zv u)]:=by
   show Ze 4 (Kt (Zb (m+1)).1 (Zb (m+1)).2) _=_;unfold Kt;simp[el,er,qof]
  have e2:bdE (Qg 2) (Xo (Zb (m+1+1)).1 (Zb (m+1+1)).2) (.tup [.str "both",.tup l.ds,.tup r.ds]) [P,some (.d (Zv u)),none]=.ok .nx [P,some (.d (Zv (Jf l u++Jf r u))),none]:=by
   generalize Zv (Jf l u++Jf r u)=z at e ⊢;simp[Xo,e]
  have okl:=V6 hW (p:=l) h.1 ok;have okr:=V6 hW (p:=r) h.2.1 ok;have e3:S*9 ^ l.np≤S*9 ^ (l.np+r.np+1):=Nat.mul_le_mul_left _ (Nat.pow_le_pow_right (by decide) (by omega));have e4:S*9 ^ r.np≤S*9 ^ (l.np+r.np+1):=Nat.mul_le_mul_left _ (Nat.pow_le_pow_right (by decide) (by omega));rw[Ps.ds,Q5 e2,Cq hM hW t (m+1+1) (S*9 ^ (l.np+r.np+1)) _ P h.2.2 ((okl.mono e3).app (okr.mono e4)) (by
    rw[Nat.mul_assoc,← Nat.pow_add,show l.np+r.np+1+t.np=l.np+r.np+t.np+1 by omega];exact hS2) (by
    refine Nat.le_trans (Nat.mul_le_mul_left _ hlen) ?_;rw[← Nat.mul_assoc,Nat.mul_comm (lv t)];exact hl2) (by omega)]
  rfl
theorem ja {M W S:Nat} (hM:M≤1000) (hW:W≤9) (p:Ps) (h:p.wf M W) (hd:dp p≤19) {r:List S3} (ok:Js S r) (hS:S*9 ^ p.np≤10 ^ 60) (hl:lv p*r.length≤900):Um [.d (.tup p.ds),.d (Zv r)]=.ok (.d (Zv (Jf p r))) [.d (.tup p.ds),.d (Zv r)]:=
 ye (m:=39) fun P=>Cq hM hW p 39 S r P h ok hS hl (by omega)
abbrev boD (l r:Ps):D:=.tup [.str "both",.tup l.ds,.tup r.ds]
theorem zk {p:Ps} {m:Nat} (h:∀P,Z9 (Qg 2) (J5 (Jn m)) p.ds [P,some (.d (.int 0)),none]=.ok .nx [P,some (.d (.int p.np)),none]) :
  Jn (m+1) [.d (.tup p.ds)]=.ok (.d (.int p.np)) [.d (.tup p.ds)]:=by
 show Ze 3 (Vt (Jn m)) _=_;unfold Vt;have e:=h (some (.d (.tup p.ds)));simp[e]
theorem count_loop:∀(p:Ps) (m:Nat) (z:Int) (P:Option L),dp p≤m→Z9 (Qg 2) (J5 (Jn m)) p.ds [P,some (.d (.int z)),none]=.ok .nx [P,some (.d (.int (z+p.np))),none]
 | .nil,m,z,P,_=>by simp[Ps.ds,Ps.np]
 | .sm s t,m,z,P,hm=>by
  obtain⟨w,ds,e0,_,_,_,h4⟩:=Ny s;have e2:bdE (Qg 2) (J5 (Jn m)) s.d [P,some (.d (.int z)),none]=.ok .nx [P,some (.d (.int (z+1))),none]:=by
   rw[e0];simp[J5,h4]
  rw[Ps.ds,Q5 e2,count_loop t m _ P hm,show z+1+(t.np:Int)=z+((t.np+1:Nat):Int) by omega];rfl
 | .both l r t,m,z,P,hm=>by
  simp only[dp]at hm;obtain⟨m,rfl⟩:∃k,m=k+1:=⟨m-1,by omega⟩;have el:=zk (p:=l) (m:=m) fun P=>by rw[count_loop l m 0 P (by omega),Int.zero_add]
  have er:=zk (p:=r) (m:=m) fun P=>by rw[count_loop r m 0 P (by omega),Int.zero_add]
  have e2:bdE (Qg 2) (J5 (Jn (m+1))) (boD l r) [P,some (.d (.int z)),none]=.ok .nx [P,some (.d (.int (z+1+(l.np+r.np)))),none]:=by
   simp[J5,el,er]
  rw[Ps.ds,Q5 e2,count_loop t (m+1) _ P (by omega),show z+1+((l.np:Int)+r.np)+(t.np:Int)=z+((l.np+r.np+t.np+1:Nat):Int) by omega];rfl
theorem qhi (p:Ps) (hd:dp p≤39):K5 [.d (.tup p.ds)]=.ok (.d (.int p.np)) [.d (.tup p.ds)]:=zk (m:=39) fun P=>by rw[count_loop p 39 0 P hd,Int.zero_add]
theorem Ov {p:Ps} {m:Nat} (h:∀P,Z9 (Qg 2) (Y9 (X7 m)) p.ds [P,some (.d (.int 0)),none]=.ok .nx [P,some (.d (.int (dp p))),none]) :
  X7 (m+1) [.d (.tup p.ds)]=.ok (.d (.int (dp p))) [.d (.tup p.ds)]:=by
 show Ze 3 (Ho (X7 m)) _=_;unfold Ho;have e:=h (some (.d (.tup p.ds)));simp[e]
theorem Px:∀(p:Ps) (m:Nat) (z:Nat) (P:Option L),dp p≤m→Z9 (Qg 2) (Y9 (X7 m)) p.ds [P,some (.d (.int z)),none]=.ok .nx [P,some (.d (.int ((max z (dp p):Nat):Int))),none]
 | .nil,m,z,P,_=>by simp[Ps.ds,dp]
 | .sm s t,m,z,P,hm=>by
  obtain⟨w,ds,e0,_,_,_,h4⟩:=Ny s;have e2:bdE (Qg 2) (Y9 (X7 m)) s.d [P,some (.d (.int z)),none]=.ok .nx [P,some (.d (.int z)),none]:=by
   rw[e0];simp[Y9,h4]
  rw[Ps.ds,Q5 e2,Px t m _ P hm];rfl
 | .both l r t,m,z,P,hm=>by
  simp only[dp]at hm;obtain⟨m,rfl⟩:∃k,m=k+1:=⟨m-1,by omega⟩;have el:=Ov (p:=l) (m:=m) fun P=>by rw[show ((.int 0:D))=.int ((0:Nat):Int) from rfl,Px l m 0 P (by omega),Nat.zero_max]
  have er:=Ov (p:=r) (m:=m) fun P=>by rw[show ((.int 0:D))=.int ((0:Nat):Int) from rfl,Px r m 0 P (by omega),Nat.zero_max]
  have e3:max (z:Int) (1+max (dp l:Int) (dp r))=((max z (1+max (dp l) (dp r)):Nat):Int):=by omega
  have e2:bdE (Qg 2) (Y9 (X7 (m+1))) (boD l r) [P,some (.d (.int z)),none]=.ok .nx [P,some (.d (.int ((max z (1+max (dp l) (dp r)):Nat):Int))),none]:=by
   simp[Y9,el,er,e3]
  rw[Ps.ds,Q5 e2,Px t (m+1) _ P (by omega),dp,show max (max z (1+max (dp l) (dp r))) (dp t)=max z (max (1+max (dp l) (dp r)) (dp t)) by omega]
theorem qhc (p:Ps) (hd:dp p≤39):Pr [.d (.tup p.ds)]=.ok (.d (.int (dp p))) [.d (.tup p.ds)]:=Ov (m:=39) fun P=>by rw[show ((.int 0:D))=.int ((0:Nat):Int) from rfl,Px p 39 0 P hd,Nat.zero_max]
theorem Oa {p:Ps} {m:Nat} {z:Nat} (h:∀P,Z9 (Qg 2) (Jl (Z4 m)) p.ds [P,some (.d (.int z)),none]=.ok .nx [P,some (.d (.int ((z*lv p:Nat):Int))),none]) :
  Z4 (m+1) [.d (.tup p.ds),.d (.int z)]=.ok (.d (.int ((z*lv p:Nat):Int))) [.d (.tup p.ds),.d (.int z)]:=by
 show Ze 3 (Xv (Z4 m)) _=_;unfold Xv;have e:=h (some (.d (.tup p.ds)));generalize ((z*lv p:Nat):Int)=y at e ⊢;simp[e]
theorem Hx:∀(p:Ps) (m:Nat) (z:Nat) (P:Option L),dp p≤m→Z9 (Qg 2) (Jl (Z4 m)) p.ds [P,some (.d (.int z)),none]=.ok .nx [P,some (.d (.int ((z*lv p:Nat):Int))),none]
 | .nil,m,z,P,_=>by simp[Ps.ds,lv]
 | .sm s t,m,z,P,hm=>by
  obtain⟨w,ds,e0,_,_,_,h4⟩:=Ny s;have e2:bdE (Qg 2) (Jl (Z4 m)) s.d [P,some (.d (.int z)),none]=.ok .nx [P,some (.d (.int z)),none]:=by
   rw[e0];simp[Jl,h4]
  rw[Ps.ds,Q5 e2,Hx t m _ P hm];rfl
 | .both l r t,m,z,P,hm=>by
  simp only[dp]at hm;obtain⟨m,rfl⟩:∃k,m=k+1:=⟨m-1,by omega⟩;have el:=Oa (p:=l) (m:=m) (z:=z) fun P=>Hx l m z P (by omega);have er:=Oa (p:=r) (m:=m) (z:=z) fun P=>Hx r m z P (by omega);have e3:((z*lv l:Nat):Int)+((z*lv r:Nat):Int)=((z*(lv l+lv r):Nat):Int):=by rw[Nat.mul_add];omega
  have e2:bdE (Qg 2) (Jl (Z4 (m+1))) (boD l r) [P,some (.d (.int z)),none]=.ok .nx [P,some (.d (.int ((z*(lv l+lv r):Nat):Int))),none]:=by
   rw[← e3];generalize ((z*lv l:Nat):Int)=y at el ⊢;generalize ((z*lv r:Nat):Int)=y2 at er ⊢;simp[Jl,el,er]
  rw[Ps.ds,Q5 e2,Hx t (m+1) _ P (by omega),lv,Nat.mul_assoc]
theorem qek (p:Ps) (hd:dp p≤39):Y0 [.d (.tup p.ds),.d (.int 1)]=.ok (.d (.int (lv p))) [.d (.tup p.ds),.d (.int 1)]:=by
 have:=Oa (p:=p) (m:=39) (z:=1) fun P=>Hx p 39 1 P hd;rw[Nat.one_mul]at this;exact this
abbrev Bl (p:Ps):D:=.ins "Feed" [("_parts",.tup p.ds),("_leaves",.int (lv p))]
theorem qdj:∀{p:Ps},dp p≤p.nb
 | .nil=>Nat.le_refl _
 | .sm _ t=>qdj (p:=t)
 | .both l r t=>by
  have h1:=qdj (p:=l);have h2:=qdj (p:=r);have h3:=qdj (p:=t);simp only[dp,Ps.nb];omega
theorem qg5 (p:Ps) (h1:dp p≤6) (h2:p.np≤24) (h3:lv p≤16):J4 [.r (.ins "Feed" []),.d (.tup p.ds)]=.ok (.d .non) [.r (Bl p),.d (.tup p.ds)]:=by
 have e1:=qhc p (by omega);have e2:=qhi p (by omega);have e3:=qek p (by omega);have a1:¬(6:Int)<(dp p:Int):=by omega
 have a2:¬(24:Int)<(p.np:Int):=by omega
 have a3:¬(16:Int)<(lv p:Int):=by omega
 have hf:¬(("_parts" : Str)=("_leaves" : Str)):=by decide
 unfold J4 Wf;simp[e1,e2,e3,a1,a2,a3,hf]
def loN:Sm→Nat→Nat
 | .rest b,N=>min b N
 | .last b,N=>N-b
 | .block k i,N=>i*N / k
 | _,_=>0
def hiN:Sm→Nat→Nat
 | .front b,N=>min b N
 | .but b,N=>N-b
 | .block k i,N=>(i+1)*N / k
 | _,N=>N
def szN:Sm→Nat→Nat
 | .each k i,N=>(N-i+k-1) / k
 | .same,N=>N
 | .turn,N=>N
 | s,N=>hiN s N-loN s N
def szQ:Ps→Nat→Nat
 | .nil,N=>N
 | .sm s t,N=>szQ t (szN s N)
 | .both l r t,N=>szQ t (szQ l N+szQ r N)
theorem qe3 {s:Sm} {N:Nat}:loS s (N:Int)=(loN s N:Int):=by
 cases s with
 | block k i=>
  show ((i:Int)*(N:Int)).fdiv k=((i*N / k:Nat):Int);rw[← Int.natCast_mul,Int.fdiv_eq_ediv_of_nonneg _ (by omega),Int.natCast_ediv]
 | _=>simp only[loS,loN]<;>omega
theorem qff {s:Sm} {N:Nat}:hiS s (N:Int)=(hiN s N:Int):=by
 cases s with
 | block k i=>
  show (((i:Int)+1)*(N:Int)).fdiv k=(((i+1)*N / k:Nat):Int);rw[show (i:Int)+1=((i+1:Nat):Int) by omega,← Int.natCast_mul,Int.fdiv_eq_ediv_of_nonneg _ (by omega),Int.natCast_ediv]
 | _=>simp only[hiS,hiN]<;>omega
theorem qi3 {M W:Nat} {s:Sm} (h:s.ok M W) (N:Nat):loN s N≤hiN s N∧hiN s N≤N:=by
 by_cases hc:s.cut=true
 ·have:=qqQ h hc (N:=(N:Int)) (by omega);rw[qe3,qff]at this;omega
 ·cases s<;>first | (simp[Sm.cut]at hc;done) | simp[loN,hiN]
def wS:Sm→List Int→List Int
 | .same,w=>w
 | .turn,w=>w.reverse
 | .each k i,w=>sel k i 0 w
 | s,w=>(w.take (hiN s w.length)).drop (loN s w.length)
def wP:Ps→List Int→List Int
 | .nil,w=>w
 | .sm s t,w=>wP t (wS s w)
 | .both l r t,w=>wP t (wP l w++wP r w)
theorem z7 {S:Nat} {r:List S3} (ok:Js S r):Zj r=((Yw r).length:Int):=(qaa ok).symm
theorem Dg {S:Nat} {r:List S3} (ok:Js S r) (s:Sm):Yw (D2 r (loS s (Zj r)) (hiS s (Zj r)) 0)=((Yw r).take (hiN s (Yw r).length)).drop (loN s (Yw r).length):=by
 rw[qab ok,z7 ok,qe3,qff];simp
theorem qbT {M W S:Nat} {s:Sm} (h:s.ok M W) {r:List S3} (ok:Js S r):Yw (Cr s r)=wS s (Yw r):=by
 cases s with
 | same=>rfl
 | turn=>exact zr ok
 | each k i=>exact zt k (by have:=h.1;omega) ok
 | front b=>exact Dg ok _
 | rest b=>exact Dg ok _
 | last b=>exact Dg ok _
 | but b=>exact Dg ok _
 | block k i=>exact Dg ok _
theorem Pq {M W:Nat} (hW:W≤9):∀{p:Ps} {S:Nat} {r:List S3},p.wf M W→Js S r→Yw (Jf p r)=wP p (Yw r)
 | .nil,S,r,_,_=>rfl
 | .sm s t,S,r,h,ok=>by
  show Yw (Jf t (Cr s r))=wP t (wS s (Yw r));rw[Pq hW h.2 (Er hW h.1 ok),qbT h.1 ok]
 | .both l r t,S,u,h,ok=>by
  have okl:=V6 hW (p:=l) h.1 ok;have okr:=V6 hW (p:=r) h.2.1 ok;have e3:S*9 ^ l.np≤S*9 ^ (l.np+r.np+1):=Nat.mul_le_mul_left _ (Nat.pow_le_pow_right (by decide) (by omega));have e4:S*9 ^ r.np≤S*9 ^ (l.np+r.np+1):=Nat.mul_le_mul_left _ (Nat.pow_le_pow_right (by decide) (by omega));show Yw (Jf t (Jf l u++Jf r u))=wP t (wP l (Yw u)++wP r (Yw u));rw[Pq hW h.2.2 ((okl.mono e3).app (okr.mono e4)),Ca,Pq hW h.1 ok,Pq hW h.2.1 ok]
theorem qf0 {k i:Nat} (hi:i<k) (w:List Int):sel k i 0 w=(List.range ((w.length-i+k-1) / k)).filterMap fun j=>w[i+k*j]?:=
 qaj k (by omega) i 0 w i (by
  rw[Int.sub_zero,Int.fmod_eq_emod_of_nonneg _ (by omega)];exact (Int.emod_eq_of_lt (by omega) (by omega)).symm)
theorem qdf {k i N q:Nat} (hi:i<k) (hq:q<(N-i+k-1) / k):i+k*q<N:=by
 have h1:k*(q+1)≤N-i+k-1:=by
  have:=Nat.mul_le_mul_left k (show q+1≤(N-i+k-1) / k by omega);exact Nat.le_trans this (Nat.mul_div_le _ _)
 rw[Nat.mul_add,Nat.mul_one]at h1;omega
theorem qf1 {k i:Nat} (hi:i<k) (w:List Int):sel k i 0 w=(List.range ((w.length-i+k-1) / k)).map fun j=>w[i+k*j]?.getD 0:=by
 rw[qf0 hi];refine qfo fun j hj=>?_;have hj:j<(w.length-i+k-1) / k:=by simpa using hj
 have:=qdf hi hj;rw[List.getElem?_eq_getElem this];rfl
theorem qhS {M W:Nat} {s:Sm} (h:s.ok M W) (w:List Int):(wS s w).length=szN s w.length:=by
 have q:=qi3 h w.length;cases s with
 | same=>rfl
 | turn=>exact List.length_reverse
 | each k i=>rw[wS,qf1 h.2.2];simp[szN]
 | front b=>simp only[wS,szN,List.length_drop,List.length_take];omega
 | rest b=>simp only[wS,szN,List.length_drop,List.length_take];omega
 | last b=>simp only[wS,szN,List.length_drop,List.length_take];omega
 | but b=>simp only[wS,szN,List.length_drop,List.length_take];omega
 | block k i=>simp only[wS,szN,List.length_drop,List.length_take];omega
theorem zy {M W:Nat}:∀{p:Ps} {w:List Int},p.wf M W→(wP p w).length=szQ p w.length
 | .nil,w,_=>rfl
 | .sm s t,w,h=>by
  show (wP t (wS s w)).length=szQ t (szN s w.length);rw[zy h.2,qhS h.1]
 | .both l r t,w,h=>by
  show (wP t (wP l w++wP r w)).length=szQ t (szQ l w.length+szQ r w.length);rw[zy h.2.2,List.length_append,zy h.1,zy h.2.1]
def Xp (n:Nat):List S3:=if n=0 then [] else [((0:Int),(1:Int),(n:Int))]
theorem Cb {n:Nat} (h:n≤10 ^ 58):Js 1 (Xp n):=by
 unfold Xp;by_cases h0:n=0
 ·rw[if_pos h0];exact fun x hx=>nomatch hx
 ·rw[if_neg h0];intro x hx;have:x=((0:Int),(1:Int),(n:Int)):=by simpa using hx
  subst this;have hn:n≤10000000000000000000000000000000000000000000000000000000000:=h;exact⟨by simp,by simp only;omega,by simp,by simp only;omega,by simp only;omega,by simp,by simp,by simp only;omega⟩
theorem qaR {n:Nat}:Yw (Xp n)=mem 0 1 n:=by
 unfold Xp;by_cases h0:n=0
 ·rw[if_pos h0,h0];rfl
 ·rw[if_neg h0];simp[Yw]
theorem Lh {n:Nat}:(Xp n).length≤1:=by
 unfold Xp;split<;>simp
theorem qfB (n:Nat):W5 [.d (.int n)]=.ok (.d (Zv (Xp n))) [.d (.int n)]:=by
 unfold W5 Mm Xp;have h1:¬(n:Int)<0:=by omega
 by_cases h0:n=0
 ·subst h0;simp
 ·have h2:¬(n:Int)=0:=by omega
  simp[h1,h2,h0]
structure Good (M:Nat) (p:Ps):Prop where
 M1:M≤1000
 wf:p.wf M 9
 nb:p.nb≤4
 np:p.np≤24
theorem Good.dp {M:Nat} {p:Ps} (g:Good M p):Law.dp p≤4:=Nat.le_trans qdj g.nb
theorem Good.lv {M:Nat} {p:Ps} (g:Good M p):Law.lv p≤16:=Nat.le_trans qcs (Nat.pow_le_pow_right (by decide) g.nb)
theorem Good.pw {M:Nat} {p:Ps} (g:Good M p):1*9 ^ p.np≤10 ^ 60:=by
 rw[Nat.one_mul];exact Nat.le_trans (Nat.pow_le_pow_right (by decide) g.np) (by decide)
theorem Good.rows {M:Nat} {p:Ps} (g:Good M p) {n:Nat} (h:n≤10 ^ 58):Js (1*9 ^ p.np) (Jf p (Xp n)):=V6 (Nat.le_refl 9) g.wf (Cb h)
theorem qh5 {M W:Nat} {s:Sm} (h:s.ok M W) (N:Nat):szN s N≤N:=by
 have b:=qi3 h N;cases s with
 | same=>exact Nat.le_refl _
 | turn=>exact Nat.le_refl _
 | each k i=>
  show (N-i+k-1) / k≤N;rcases Nat.eq_zero_or_pos ((N-i+k-1) / k) with e | e
  ·omega
  ·have:=qdf (N:=N) (q:=(N-i+k-1) / k-1) h.2.2 (by omega);have h2:(N-i+k-1) / k-1≤k*((N-i+k-1) / k-1):=Nat.le_mul_of_pos_left _ (by have:=h.1;omega);omega
 | front n=>simp only[szN];omega
 | rest n=>simp only[szN];omega
 | last n=>simp only[szN];omega
 | but n=>simp only[szN];omega
 | block k i=>simp only[szN];omega
theorem Aw {M W:Nat}:∀{p:Ps} {N:Nat},p.wf M W→szQ p N≤Law.lv p*N
 | .nil,N,_=>by simp[szQ,Law.lv]
 | .sm s t,N,h=>Nat.le_trans (Aw (p:=t) h.2) (Nat.mul_le_mul_left _ (qh5 h.1 N))
 | .both l r t,N,h=>by
  have a:=Aw (p:=l) (N:=N) h.1;have b:=Aw (p:=r) (N:=N) h.2.1;refine Nat.le_trans (Aw (p:=t) h.2.2) ?_;show Law.lv t*(szQ l N+szQ r N)≤(Law.lv l+Law.lv r)*Law.lv t*N;rw[Nat.mul_comm (Law.lv l+Law.lv r),Nat.mul_assoc];refine Nat.mul_le_mul_left _ ?_;rw[Nat.add_mul];omega
theorem Good.sz {M:Nat} {p:Ps} (g:Good M p) {n:Nat} (h:n≤10 ^ 58):szQ p n≤10 ^ 60:=by
 refine Nat.le_trans (Aw g.wf) (Nat.le_trans (Nat.mul_le_mul g.lv h) (by decide))
def Sub {α:Type} (C:List α) (o:Nat) (xs:List α):Prop:=∀i x,xs[i]?=some x→C[o+i]?=some x
theorem Sub.hd {α:Type} {C:List α} {o:Nat} {x:α} {xs:List α} (h:Sub C o (x::xs)):C[o]?=some x:=h 0 x rfl
theorem Sub.tl {α:Type} {C:List α} {o:Nat} {x:α} {xs:List α} (h:Sub C o (x::xs)):Sub C (o+1) xs:=fun i y e=>by
 have:=h (i+1) y (by simpa using e);rwa [show o+(i+1)=o+1+i by omega]at this
theorem Sub.left {α:Type} {C:List α} {o:Nat} {xs ys:List α} (h:Sub C o (xs++ys)):Sub C o xs:=fun i y e=>h i y (by
 rw[List.getElem?_append_left (List.getElem?_eq_some_iff.mp e).1];exact e)
theorem Sub.right {α:Type} {C:List α} {o:Nat} {xs ys:List α} (h:Sub C o (xs++ys)):Sub C (o+xs.length) ys:=fun i y e=>by
 have:=h (xs.length+i) y (by rw[List.getElem?_append_right (by omega)];simpa using e);rwa [show o+(xs.length+i)=o+xs.length+i by omega]at this
theorem Sub.self {α:Type} {C:List α}:Sub C 0 C:=fun i x e=>by rw[Nat.zero_add];exact e
theorem xi {l r t:Ps}:(Ps.both l r t).flat=opD::(l.flat++Iz::(r.flat++shD::t.flat)):=rfl
theorem qbC {xs ys:List Int} (h:xs.length=ys.length):((List.range ys.length).filter fun i=>!decide (xs[i]?=ys[i]?)).length=0↔xs=ys:=by
 rw[List.length_eq_zero_iff,List.filter_eq_nil_iff];constructor
 ·intro h2;refine List.ext_getElem? fun i=>?_;by_cases hi:i<ys.length
  ·have:=h2 i (by simpa using hi);simpa using this
  ·rw[List.getElem?_eq_none (by omega),List.getElem?_eq_none (by omega)]
 ·rintro rfl i _;simp
theorem lens {xs ys:List Int} (h:xs.length≠ys.length):¬xs=ys:=fun e=>h (by rw[e])
theorem qcg {a b:L} {xa xb:X} (xs ys:List Int) (hl:xs.length=ys.length) (hy:ys.length≤100000) (ρ:DL.Env) (hρ:ρ=[some a,some b,none])
  (f0:∀ρ',ρ'[0]?=some (some a)→Qi 0 ρ'=.ok xa ρ'∧∀i:Nat,i<ys.length→∃d,look ρ' xa=some d∧ixD d (.int i)=some (.int (xs[i]?.getD 0)))
  (f1:∀ρ',ρ'[1]?=some (some b)→Qi 1 ρ'=.ok xb ρ'∧(∃d,look ρ' xb=some d∧F8 [d]=some (.int ys.length))∧∀i:Nat,i<ys.length→∃d,look ρ' xb=some d∧ixD d (.int i)=some (.int (ys[i]?.getD 0))) :
  fLc (Sw (Qd (eCB F8 (Qd (Qi 1) Qr)) Qr)) [2] (Qg 2) (Ah (Ag (Q6 2 Zd (Qd (eOp ixD (Qi 0) (Qi 2)) (Qd (eOp ixD (Qi 1) (Qi 2)) Qr))))) (Qi 2) ρ=.ok (.lst (((List.range ys.length).filter fun i=>!decide (xs[i]?=ys[i]?)).map fun (i:Nat)=>.int (0+(i:Int)))) ρ:=by
 subst hρ;have q1:=(f1 [some a,some b,none] rfl);obtain⟨q1,⟨d1,q2,q3⟩,_⟩:=q1;have key:∀i∈List.range ys.length,lcI (Qg 2) (Ah (Ag (Q6 2 Zd (Qd (eOp ixD (Qi 0) (Qi 2)) (Qd (eOp ixD (Qi 1) (Qi 2)) Qr))))) (Qi 2) [2] [some a,some b,none] (.int (0+(i:Int)))=some (if xs[i]?=ys[i]? then none else some (.int (0+(i:Int))),[some a,some b,none]):=by
  intro i hi;have hi:i<ys.length:=by simpa using hi
  obtain⟨u1,u2⟩:=f0 [some a,some b,some (.d (.int (i:Int)))] rfl;obtain⟨v1,_,v2⟩:=f1 [some a,some b,some (.d (.int (i:Int)))] rfl;obtain⟨d2,u3,u4⟩:=u2 i hi;obtain⟨d3,v3,v4⟩:=v2 i hi;have hx:xs[i]?=some (xs[i]'(by omega)):=List.getElem?_eq_getElem (by omega);have hy:ys[i]?=some (ys[i]'hi):=List.getElem?_eq_getElem hi;rw[hx]at u4;rw[hy]at v4;by_cases e:(xs[i]'(by omega))=(ys[i]'hi)
  ·have e':xs[i]?=ys[i]?:=by rw[hx,hy,e]
   rw[if_pos e'];simp at u1 v1 u3 v3 u4 v4;simp[u1,v1,u3,v3,u4,v4,qp,e]
  ·have e':¬xs[i]?=ys[i]?:=by rw[hx,hy];simpa using e
   rw[if_neg e'];simp at u1 v1 u3 v3 u4 v4;simp[u1,v1,u3,v3,u4,v4,qp,e]
 simp at q1 q2 q3;refine qnx (xs:=List.range ys.length) (fun (i:Nat)=>D.int (0+(i:Int))) (fun (i:Nat)=>D.int (0+(i:Int))) (fun i=>!decide (xs[i]?=ys[i]?)) ?_ (by simp) (by simp;exact Nat.le_trans hy (by decide)) (fun i hi hp=>?_) (fun i hi hp=>?_)
 ·simp[q1,q2,q3,hy,Xa]
 ·have:=key i hi;rw[if_neg (by simpa using hp)]at this;exact this
 ·have:=key i hi;rw[if_pos (by simpa using hp)]at this;exact this
theorem A8 (xs:List Int) (i:Nat) (h:i<xs.length):L2.atI (xs.map D.int) (i:Int)=some (.int (xs[i]?.getD 0)):=qkK (by simp[h])
theorem qgk (xs ys:List Int) (hx:xs.length≤100000) (hy:ys.length≤100000):Qw [.d (.lst (xs.map .int)),.d (.lst (ys.map .int))]=.ok (.d (.bl (decide (xs=ys)))) [.d (.lst (xs.map .int)),.d (.lst (ys.map .int))]:=by
 unfold Qw Jy;by_cases h:xs.length=ys.length
 ·have e:=qcg (a:=.d (.lst (xs.map .int))) (b:=.d (.lst (ys.map .int))) (xa:=_) (xb:=_) xs ys h hy _ rfl
   (fun ρ' hρ=>⟨by simp[hρ]<;>rfl,fun i hi=>⟨_,by simp[hρ]<;>rfl,by simpa using A8 xs i (by omega)⟩⟩)
   (fun ρ' hρ=>⟨by simp[hρ]<;>rfl,⟨_,by simp[hρ]<;>rfl,by simp⟩,fun i hi=>⟨_,by simp[hρ]<;>rfl,by simpa using A8 ys i (by omega)⟩⟩)
  simp[h,e,-List.length_eq_zero_iff];exact qbC h
 ·have h2:=lens h;have h3:¬(xs.length:Int)=ys.length:=by omega
  simp[h3,h2]
theorem qcf (xs ys:List Int) (hx:xs.length≤100000) (hy:ys.length≤100000):Qw [.d (.tup (xs.map .int)),.d (.tup (ys.map .int))]=.ok (.d (.bl (decide (xs=ys)))) [.d (.tup (xs.map .int)),.d (.tup (ys.map .int))]:=by
 unfold Qw Jy;by_cases h:xs.length=ys.length
 ·have e:=qcg (a:=.d (.tup (xs.map .int))) (b:=.d (.tup (ys.map .int))) (xa:=_) (xb:=_) xs ys h hy _ rfl
   (fun ρ' hρ=>⟨by simp[hρ]<;>rfl,fun i hi=>⟨_,by simp[hρ]<;>rfl,by simpa using A8 xs i (by omega)⟩⟩)
   (fun ρ' hρ=>⟨by simp[hρ]<;>rfl,⟨_,by simp[hρ]<;>rfl,by simp⟩,fun i hi=>⟨_,by simp[hρ]<;>rfl,by simpa using A8 ys i (by omega)⟩⟩)
  simp[h,e,-List.length_eq_zero_iff];exact qbC h
 ·have h2:=lens h;have h3:¬(xs.length:Int)=ys.length:=by omega
  simp[h3,h2]
structure Fine (M:Nat) (p:Ps):Prop where
 M1:M≤1000
 wf:p.wf M 9
 dp:dp p≤6
 np:p.np≤24
 lv:lv p≤16
theorem Good.fine {M:Nat} {p:Ps} (g:Good M p):Fine M p:=⟨g.M1,g.wf,by have:=g.dp;omega,g.np,g.lv⟩
theorem Fine.pw {M:Nat} {p:Ps} (g:Fine M p):1*9 ^ p.np≤10 ^ 60:=by
 rw[Nat.one_mul];exact Nat.le_trans (Nat.pow_le_pow_right (by decide) g.np) (by decide)
theorem Fine.rows {M:Nat} {p:Ps} (g:Fine M p) {n:Nat} (h:n≤10 ^ 58):Js (1*9 ^ p.np) (Jf p (Xp n)):=V6 (Nat.le_refl 9) g.wf (Cb h)
theorem Fine.strs {M:Nat} {p:Ps} (g:Fine M p) {n:Nat} (h:n≤10 ^ 58):Vq [.d (Bl p),.d (.int n)]=.ok (.d (Zv (Jf p (Xp n)))) [.d (Bl p),.d (.int n)]:=by
 have e:=ja g.M1 (Nat.le_refl 9) p g.wf (by have:=g.dp;omega) (Cb h) g.pw (Nat.le_trans (Nat.mul_le_mul g.lv Lh) (by decide));have e2:=qfB n;unfold Vq Vu;generalize Zv (Xp n)=y at e e2;generalize Zv (Jf p (Xp n))=z at e ⊢;simp[e,e2]
theorem Fine.rword {M:Nat} {p:Ps} (g:Fine M p) {n:Nat} (h:n≤10 ^ 58):Yw (Jf p (Xp n))=wP p (mem 0 1 n):=by
 rw[Pq (Nat.le_refl 9) g.wf (Cb h),qaR]
theorem Fine.wlen {M:Nat} {p:Ps} (g:Fine M p) {n:Nat}:(wP p (mem 0 1 n)).length=szQ p n:=by rw[zy g.wf,W9]
theorem Fine.szle {M:Nat} {p:Ps} (g:Fine M p) {n:Nat}:szQ p n≤16*n:=Nat.le_trans (Aw g.wf) (Nat.mul_le_mul_right _ g.lv)
theorem yx {S:Nat} {o0:Option L} {k i:Int} (hk:0<k) (hk2:k≤1000):∀{r acc:List S3} {a:Int},Js S r→S≤10 ^ 60→acc.length+r.length≤1000→
  Z9 (K7 3 (Q3 (Qg 5) (Q3 (Qg 6) (Q3 (Qg 7) Wl)))) Vv (r.map fun x=>tr x.1 x.2.1 x.2.2) [o0,some (.d (.int k)),some (.d (.int i)),some (.m (.lst (acc.map fun x=>tr x.1 x.2.1 x.2.2))),some (.d (.int a)),none,none,none,none] =
   .ok .nx [o0,some (.d (.int k)),some (.d (.int i)),some (.m (.lst ((acc++Pe r k i a).map fun x=>tr x.1 x.2.1 x.2.2))),some (.d (.int (a+Zj r))),none,none,none,none]
 | [],acc,a,_,_,_=>by simp[Pe,Zj]
 | x::r,acc,a,ok,hS,hl=>by
  rw[List.length_cons]at hl;have hd:=ok.hd;have f0:=Int.fmod_nonneg_of_pos (i-a) hk;have f1:=Int.fmod_lt_of_pos (i-a) hk;have m1:Jj x.2.1 ((i-a).fmod k):=.inr (.inl (by omega));have m2:Jj x.2.1 k:=.inr (.inl (by omega));have dk:Bn k:=⟨by omega,vt (by omega)⟩;have hk0:k≠0:=by omega
  by_cases h:x.2.2≤(i-a).fmod k
  ·have h':¬(i-a).fmod k<x.2.2:=by omega
   have e:bdE (K7 3 (Q3 (Qg 5) (Q3 (Qg 6) (Q3 (Qg 7) Wl)))) Vv (tr x.1 x.2.1 x.2.2) [o0,some (.d (.int k)),some (.d (.int i)),some (.m (.lst (acc.map fun x=>tr x.1 x.2.1 x.2.2))),some (.d (.int a)),none,none,none,none] =
     .ok .nx [o0,some (.d (.int k)),some (.d (.int i)),some (.m (.lst (acc.map fun x=>tr x.1 x.2.1 x.2.2))),some (.d (.int (a+x.2.2))),none,none,none,none]:=by
    simp[Vv,hk0,h']
   rw[List.map_cons,Q5 e,yx hk hk2 ok.tl hS (by omega)];simp[Pe,h,Zj,Int.add_assoc]
  ·have h':(i-a).fmod k<x.2.2:=by omega
   have e:bdE (K7 3 (Q3 (Qg 5) (Q3 (Qg 6) (Q3 (Qg 7) Wl)))) Vv (tr x.1 x.2.1 x.2.2) [o0,some (.d (.int k)),some (.d (.int i)),some (.m (.lst (acc.map fun x=>tr x.1 x.2.1 x.2.2))),some (.d (.int a)),none,none,none,none] =
     .ok .nx [o0,some (.d (.int k)),some (.d (.int i)),some (.m (.lst ((acc++[(x.1+x.2.1*(i-a).fmod k,x.2.1*k,(x.2.2-(i-a).fmod k+k-1).fdiv k)]).map fun x=>tr x.1 x.2.1 x.2.2))),some (.d (.int (a+x.2.2))),none,none,none,none]:=by
    rw[← qaK hk];simp[Vv,hk0,h',m1,m2,dk,show acc.length≤100000 by omega]
   rw[List.map_cons,Q5 e,yx hk hk2 ok.tl hS (by simp;omega)];simp[Pe,h,Zj,Int.add_assoc]
theorem qdg {S:Nat} {r:List S3} (ok:Js S r) (hS:S≤10 ^ 60) (hr:r.length≤900) {k i:Int} (hk:0<k) (hk2:k≤1000):W7 [.d (Zv r),.d (.int k),.d (.int i)]=.ok (.d (Zv (Pe r k i 0))) [.d (Zv r),.d (.int k),.d (.int i)]:=by
 have e:=yx (o0:=some (.d (Zv r))) (i:=i) hk hk2 (acc:=[]) (a:=0) ok hS (by simp;omega);unfold W7 Mu;simp at e;simp[e]
theorem ql {S:Nat} {o0:Option L} {lo hi:Int}:∀{r acc:List S3} {a:Int},Js S r→S≤10 ^ 60→acc.length+r.length≤1000→
  Z9 (K7 3 (Q3 (Qg 5) (Q3 (Qg 6) (Q3 (Qg 7) Wl)))) Kv (r.map fun x=>tr x.1 x.2.1 x.2.2) [o0,some (.d (.int lo)),some (.d (.int hi)),some (.m (.lst (acc.map fun x=>tr x.1 x.2.1 x.2.2))),some (.d (.int a)),none,none,none,none,none] =
   .ok .nx [o0,some (.d (.int lo)),some (.d (.int hi)),some (.m (.lst ((acc++D2 r lo hi a).map fun x=>tr x.1 x.2.1 x.2.2))),some (.d (.int (a+Zj r))),none,none,none,none,none]
 | [],acc,a,_,_,_=>by simp[D2,Zj]
 | x::r,acc,a,ok,hS,hl=>by
  rw[List.length_cons]at hl;have hd:=ok.hd;have cB:=hd.cB;by_cases h:max (lo-a) 0<min (hi-a) x.2.2
  ·have m1:Jj x.2.1 (max (lo-a) 0):=Uw (Nat.le_trans hd.sB (Nat.le_trans hS (by decide))) (by omega);have e:bdE (K7 3 (Q3 (Qg 5) (Q3 (Qg 6) (Q3 (Qg 7) Wl)))) Kv (tr x.1 x.2.1 x.2.2) [o0,some (.d (.int lo)),some (.d (.int hi)),some (.m (.lst (acc.map fun x=>tr x.1 x.2.1 x.2.2))),some (.d (.int a)),none,none,none,none,none] =
     .ok .nx [o0,some (.d (.int lo)),some (.d (.int hi)),some (.m (.lst ((acc++[(x.1+x.2.1*max (lo-a) 0,x.2.1,min (hi-a) x.2.2-max (lo-a) 0)]).map fun x=>tr x.1 x.2.1 x.2.2))),some (.d (.int (a+x.2.2))),none,none,none,none,none]:=by
    simp[Kv,h,m1,show acc.length≤100000 by omega]
   rw[List.map_cons,Q5 e,ql ok.tl hS (by simp;omega)];simp only[D2,if_pos h,Zj];simp[Int.add_assoc]
  ·have e:bdE (K7 3 (Q3 (Qg 5) (Q3 (Qg 6) (Q3 (Qg 7) Wl)))) Kv (tr x.1 x.2.1 x.2.2) [o0,some (.d (.int lo)),some (.d (.int hi)),some (.m (.lst (acc.map fun x=>tr x.1 x.2.1 x.2.2))),some (.d (.int a)),none,none,none,none,none] =
     .ok .nx [o0,some (.d (.int lo)),some (.d (.int hi)),some (.m (.lst (acc.map fun x=>tr x.1 x.2.1 x.2.2))),some (.d (.int (a+x.2.2))),none,none,none,none,none]:=by
    simp[Kv,h]
   rw[List.map_cons,Q5 e,ql ok.tl hS (by omega)];simp only[D2,if_neg h,Zj];simp[Int.add_assoc]
theorem qeN {S:Nat} {r:List S3} (ok:Js S r) (hS:S≤10 ^ 60) (hr:r.length≤900) (lo hi:Int):Hn [.d (Zv r),.d (.int lo),.d (.int hi)]=.ok (.d (Zv (D2 r lo hi 0))) [.d (Zv r),.d (.int lo),.d (.int hi)]:=by
 have e:=ql (o0:=some (.d (Zv r))) (lo:=lo) (hi:=hi) (acc:=[]) (a:=0) ok hS (by simp;omega);unfold Hn Tn;simp at e;simp[e]
theorem qdn {S:Nat} {lo hi:Int}:∀{r:List S3} {a:Int},Js S r→lo≤a→a+Zj r≤hi→D2 r lo hi a=r
 | [],_,_,_,_=>rfl
 | x::r,a,ok,h1,h2=>by
  have c1:=ok.hd.c1;have hn:=Lk ok.tl;rw[Zj]at h2;have e1:max (lo-a) 0=0:=by omega
  have e2:min (hi-a) x.2.2=x.2.2:=by omega
  rw[D2,e1,e2,if_pos (by omega),qdn ok.tl (by omega) (by omega),Int.mul_zero,Int.add_zero,Int.sub_zero];rfl
theorem qeh {S:Nat} {r:List S3} (ok:Js S r) (hS:S≤10 ^ 61) (hr:r.length≤1000) {o0 o2 o4 o5:Option L}:fLc (C4 (qfr (Qi 1) (E7 (eUn Sv (eC (.int 1)))))) [6,7,8] (K7 3 (Q3 (Qg 6) (Q3 (Qg 7) (Q3 (Qg 8) Wl)))) jw (Uz (Qd (eOp Vb (Qi 6) (eOp Kz (Qi 7) (eOp Gi (Qi 8) (eC (.int 1))))) (Qd (eOp Gi (eC (.int 0)) (Qi 7)) (Qd (Qi 8) Qr)))) [o0,some (.d (Zv r)),o2,none,o4,o5,none,none,none]=.ok (.lst ((Fs r).map fun x=>tr x.1 x.2.1 x.2.2)) [o0,some (.d (Zv r)),o2,none,o4,o5,none,none,none]:=by
 unfold Fs;rw[List.map_map];refine qcw (xs:=r.reverse) (fun x=>tr x.1 x.2.1 x.2.2) _ (by simp) (by simp) (by rw[List.length_reverse];exact qbd (by omega)) fun x hx=>?_;have hd:=ok x (by simpa using hx);have m:=hd.mc hS;simp[m]
theorem qej (r:List S3) (hr:r.length≤1000) {o0 o2 o4 o5:Option L}:fLc (C4 (Qi 1)) [3] (Qg 3) jw (eOp ixD (Qi 3) (eC (.int 2))) [o0,some (.d (Zv r)),o2,none,o4,o5,none,none,none]=.ok (.lst (r.map fun x=>D.int x.2.2)) [o0,some (.d (Zv r)),o2,none,o4,o5,none,none,none]:=
 qcw (xs:=r) (fun x=>tr x.1 x.2.1 x.2.2) (fun x=>D.int x.2.2) (by simp) (by simp) (qbd (by omega)) fun x hx=>by simp
theorem qnr {M W S:Nat} (hM:M≤1000) (hW:W≤9) {s:Sm} (h:s.ok M W) {r:List S3} (ok:Js S r) (hS:S≤10 ^ 60) (hr:r.length≤900):Xt [.d s.d,.d (Zv r)]=.ok (.d (Zv (Cr s r))) [.d s.d,.d (Zv r)]:=by
 have e1:=qej r (by omega) (o0:=some (.d s.d)) (o2:=none) (o4:=none) (o5:=none);have e2:=Em r;have hn:=Lk ok;have hc:=fun lo hi=>qeN ok hS hr lo hi;unfold Xt Wc;cases s with
 | same=>
  have e3:=hc 0 (Zj r);rw[qdn ok (Int.le_refl 0) (by omega)]at e3;simp only[Sm.d]at e1 ⊢;simp[e1,U4,e2,e3,Cr]
 | turn=>
  have e3:=qeh ok (Nat.le_trans hS (by decide)) (by omega) (o0:=some (.d (Sm.turn).d)) (o2:=some (.d (.int (Zj r)))) (o4:=some (.d (.int 0))) (o5:=some (.d (.int (Zj r))));simp only[Sm.d]at e1 e3 ⊢;simp[e1,U4,e2,e3,Cr]
 | each k i=>
  have e3:=qdg ok hS hr (k:=k) (i:=i) (by have:=h.1;omega) (by have:=h.2.1;omega);simp only[Sm.d]at e1 ⊢;simp[e1,U4,e2,e3,Cr]
 | front b=>
  have e3:=hc (loS (.front b) (Zj r)) (hiS (.front b) (Zj r));simp only[Sm.d,loS,hiS]at e1 e3 ⊢;simp[e1,U4,e2,e3,Cr,loS,hiS]
 | rest b=>
  have e3:=hc (loS (.rest b) (Zj r)) (hiS (.rest b) (Zj r));simp only[Sm.d,loS,hiS]at e1 e3 ⊢;simp[e1,U4,e2,e3,Cr,loS,hiS]
 | last b=>
  have e3:=hc (loS (.last b) (Zj r)) (hiS (.last b) (Zj r));have e4:max 0 (Zj r-(b:Int))=Zj r-min (b:Int) (Zj r):=by omega
  simp only[Sm.d,loS,hiS]at e1 e3 ⊢;simp[e1,U4,e2,e3,e4,Cr,loS,hiS]
 | but b=>
  have e3:=hc (loS (.but b) (Zj r)) (hiS (.but b) (Zj r));have e4:max 0 (Zj r-(b:Int))=Zj r-min (b:Int) (Zj r):=by omega
  simp only[Sm.d,loS,hiS]at e1 e3 ⊢;simp[e1,U4,e2,e3,e4,Cr,loS,hiS]
 | block k i=>
  have e3:=hc (loS (.block k i) (Zj r)) (hiS (.block k i) (Zj r));have m1:Jj (i:Int) (Zj r):=.inl (by have:=h.2.1;have:=h.2.2;omega);have m2:Jj ((i:Int)+1) (Zj r):=.inl (by have:=h.2.1;have:=h.2.2;omega);have d1:=ql1 h.1 (show k≤1000000 by have:=h.2.1;omega);simp only[Sm.d,loS,hiS]at e1 e3 ⊢;simp[e1,U4,e2,e3,Cr,loS,hiS,m1,m2,d1]
structure Rf (M W S:Nat) (p:Ps) (u:List S3):Prop where
 wf:p.wf M W
 ok:Js S u
 sz:S*9 ^ p.np≤10 ^ 60
 ln:lv p*u.length≤900
theorem Rf.s1 {M W S:Nat} {p:Ps} {u:List S3} (h:Rf M W S p u):S≤10 ^ 60:=Nat.le_trans (Nat.le_mul_of_pos_right S (Nat.pos_of_ne_zero (by simp))) h.sz
theorem Rf.l1 {M W S:Nat} {p:Ps} {u:List S3} (h:Rf M W S p u):u.length≤900:=Nat.le_trans (Nat.le_mul_of_pos_left _ (L9 (p:=p))) h.ln
theorem Rf.sm {M W S:Nat} (hW:W≤9) {s:Sm} {t:Ps} {u:List S3} (h:Rf M W S (.sm s t) u):s.ok M W∧Rf M W (S*9) t (Cr s u):=by
 refine⟨h.wf.1,h.wf.2,Er hW h.wf.1 h.ok,?_,Nat.le_trans (Nat.mul_le_mul_left _ Es) h.ln⟩;have:S*9 ^ (t.np+1)=S*9*9 ^ t.np:=by rw[Nat.pow_succ,Nat.mul_comm (9 ^ t.np) 9,← Nat.mul_assoc]
 rw[← this];exact h.sz
theorem Rf.both {M W S:Nat} (hW:W≤9) {l r t:Ps} {u:List S3} (h:Rf M W S (.both l r t) u):Rf M W S l u∧Rf M W S r u∧(Jf l u++Jf r u).length≤900∧Rf M W (S*9 ^ (l.np+r.np+1)) t (Jf l u++Jf r u):=by
 have hS2:S*9 ^ (l.np+r.np+t.np+1)≤10 ^ 60:=h.sz;have hl2:(lv l+lv r)*lv t*u.length≤900:=h.ln;have ml:∀k,k≤l.np+r.np+t.np+1→S*9 ^ k≤10 ^ 60:=fun k hk=>Nat.le_trans (Nat.mul_le_mul_left _ (Nat.pow_le_pow_right (by decide) hk)) hS2;have t1:=L9 (p:=t);have hlr:(lv l+lv r)*u.length≤900:=by
  refine Nat.le_trans ?_ hl2;rw[Nat.mul_assoc];exact Nat.mul_le_mul_left _ (Nat.le_mul_of_pos_left _ t1)
 have hll:lv l*u.length≤900:=Nat.le_trans (Nat.mul_le_mul_right _ (by omega)) hlr;have hrr:lv r*u.length≤900:=Nat.le_trans (Nat.mul_le_mul_right _ (by omega)) hlr;have a:=K4 (p:=l) (r:=u);have b:=K4 (p:=r) (r:=u);have hlen:(Jf l u++Jf r u).length≤(lv l+lv r)*u.length:=by
  rw[List.length_append,Nat.add_mul];omega
 have okl:=V6 hW (p:=l) h.wf.1 h.ok;have okr:=V6 hW (p:=r) h.wf.2.1 h.ok;have e3:S*9 ^ l.np≤S*9 ^ (l.np+r.np+1):=Nat.mul_le_mul_left _ (Nat.pow_le_pow_right (by decide) (by omega));have e4:S*9 ^ r.np≤S*9 ^ (l.np+r.np+1):=Nat.mul_le_mul_left _ (Nat.pow_le_pow_right (by decide) (by omega));refine⟨⟨h.wf.1,h.ok,ml _ (by omega),hll⟩,⟨h.wf.2.1,h.ok,ml _ (by omega),hrr⟩,by omega,h.wf.2.2,(okl.mono e3).app (okr.mono e4),?_,?_⟩
 ·rw[Nat.mul_assoc,← Nat.pow_add,show l.np+r.np+1+t.np=l.np+r.np+t.np+1 by omega];exact hS2
 ·refine Nat.le_trans (Nat.mul_le_mul_left _ hlen) ?_;rw[← Nat.mul_assoc,Nat.mul_comm (lv t)];exact hl2
theorem Fine.rf {M:Nat} {p:Ps} (g:Fine M p) {n:Nat} (h:n≤10 ^ 58):Rf M 9 1 p (Xp n):=⟨g.wf,Cb h,g.pw,Nat.le_trans (Nat.mul_le_mul g.lv Lh) (by decide)⟩
abbrev Af (a b:Int) (h l:Nat) (r:Option L):DL.Env:=[some (.d (.int a)),some (.d (.int b)),some (.d (.int h)),some (.d (.int l)),none,r]
theorem qcm {a b:Int} {h l:Nat} {d:D} (hl:0<l) (hl2:l<2 ^ 64):bdE (Qg 4) Jc d (Af a b h l none)=.ok .nx (Af a b l (h % l) none):=by
 have d1:Bn (l:Int):=⟨by omega,vt (Nat.le_trans (show ((l:Nat):Int).natAbs≤2 ^ 64 by omega) (by decide))⟩;have l0:¬l=0:=by omega
 have e:(h:Int).fmod l=((h % l:Nat):Int):=by rw[Int.fmod_eq_emod_of_nonneg _ (by omega)];rfl
 simp[Jc,d1,l0,e]
theorem qcl {a b:Int} {h:Nat} {d:D}:bdE (Qg 4) Jc d (Af a b h 0 none)=.ok .bk (Af a b h 0 none):=by
 simp[Jc]
theorem qaB {h l:Nat}:Nat.gcd l (h % l)=Nat.gcd h l:=by
 rw[Nat.gcd_comm h l,Nat.gcd_rec l h,Nat.gcd_comm]
theorem qiU {a b:Int}:∀(j h l:Nat) (ds:List D),l≤h→h*l<2 ^ j→l<2 ^ 64→j<ds.length→Z9 (Qg 4) Jc ds (Af a b h l none)=.ok .nx (Af a b (Nat.gcd h l) 0 none)
 | j,h,l,[],_,_,_,hd=>by simp at hd
 | j,h,l,d::ds,hlh,hp,hl,hd=>by
  by_cases h0:l=0
  ·subst h0;rw[Dc qcl,Nat.gcd_zero_right]
  ·have hl0:0<l:=by omega
   rw[Q5 (qcm hl0 hl)];have hm:h % l<l:=Nat.mod_lt _ hl0;have hm2:2*(h % l)≤h:=by
    have:=Nat.div_add_mod h l;have hq:1≤h / l:=(Nat.le_div_iff_mul_le hl0).mpr (by omega);have:l*1≤l*(h / l):=Nat.mul_le_mul_left _ hq;omega
   cases j with
   | zero=>
    have:0<h*l:=Nat.mul_pos (by omega) hl0;omega
   | succ j=>
    rw[qiU j l (h % l) ds (by omega) ?_ (by omega) (by simp at hd;omega),qaB]
    ·have:2*(l*(h % l))≤h*l:=by
      rw[Nat.mul_left_comm,Nat.mul_comm h l];exact Nat.mul_le_mul_left _ hm2
     rw[Nat.pow_succ]at hp;omega
theorem qiV {a b:Int} {h l:Nat} {d:D} {ds:List D} (hh:h<2 ^ 64) (hl:l<2 ^ 64) (hd:200≤ds.length):Z9 (Qg 4) Jc (d::ds) (Af a b h l none)=.ok .nx (Af a b (Nat.gcd h l) 0 none):=by
 by_cases h0:l=0
 ·subst h0;rw[Dc qcl,Nat.gcd_zero_right]
 ·have hl0:0<l:=by omega
  have hm:h % l<l:=Nat.mod_lt _ hl0;rw[Q5 (qcm hl0 hl),qiU 128 l (h % l) ds (by omega) ?_ (by omega) (by omega)]
  ·rw[qaB]
  ·rw[show (2:Nat) ^ 128=2 ^ 64*2 ^ 64 by decide];exact Nat.lt_of_le_of_lt (Nat.mul_le_mul_left _ (Nat.le_of_lt (Nat.lt_trans hm hl))) (Nat.mul_lt_mul_of_pos_right hl (by decide))
theorem Ko (a b:Nat) (ha:0<a) (ha2:a<2 ^ 64) (hb2:b<2 ^ 64):Qt [.d (.int a),.d (.int b)]=.ok (.d (.int (Nat.lcm a b:Nat))) [.d (.int a),.d (.int b)]:=by
 have hg:0<Nat.gcd a b:=Nat.gcd_pos_of_pos_left _ ha;have hga:Nat.gcd a b≤a:=Nat.le_of_dvd ha (Nat.gcd_dvd_left a b);have e:Z9 (Qg 4) Jc (Xa 0 300) (Af a b a b none)=.ok .nx (Af a b (Nat.gcd a b) 0 none):=by
  cases hr:Xa 0 300 with
  | nil=>exact absurd (congrArg List.length hr) (by rw[Lu];decide)
  | cons d ds=>
   have hn:=congrArg List.length hr;rw[Lu,List.length_cons]at hn;exact qiV ha2 hb2 (by omega)
 have d1:Bn (Nat.gcd a b:Nat):=⟨by omega,vt (Nat.le_trans (show ((Nat.gcd a b:Nat):Int).natAbs≤2 ^ 64 by omega) (by decide))⟩;have m1:Jj ((a / Nat.gcd a b:Nat):Int) (b:Int):=Uw (Nat.le_trans (show ((a / Nat.gcd a b:Nat):Int).natAbs≤2 ^ 64 from by have:=Nat.div_le_self a (Nat.gcd a b);rw[Int.natAbs_natCast];omega) (by decide)) (Nat.le_trans (show (b:Int).natAbs≤2 ^ 64 by omega) (by decide));have e2:(a:Int).fdiv ((Nat.gcd a b:Nat):Int)=((a / Nat.gcd a b:Nat):Int):=by rw[Int.fdiv_eq_ediv_of_nonneg _ (by omega)];rfl
 have e3:a / Nat.gcd a b*b=Nat.lcm a b:=by
  rw[Nat.lcm,Nat.mul_comm a b,Nat.mul_div_assoc _ (Nat.gcd_dvd_left a b),Nat.mul_comm]
 have e4:((a / Nat.gcd a b:Nat):Int)*(b:Int)=((Nat.lcm a b:Nat):Int):=by rw[← e3];exact (Int.natCast_mul ..).symm
 rw[← e2]at m1 e4;unfold Qt We;simp[e,d1,m1,e4]
structure Nm where
 d:Nat
 m:Nat
 w:Nat
 h:Nat
 u:Nat
abbrev nmT (n:Nm):D:=.tup [.int n.d,.int n.m,.int n.w,.int n.h,.int n.u]
abbrev nmI (n:Nm):D:=.ins "Numbers" [("divisor",.int n.d),("modulus",.int n.m),("spread",.int n.w),("stride",.int n.h),("reach",.int n.u)]
def nC (b:Nat) (n:Nm):Nm:=⟨n.d,n.m,n.w+b,n.h,n.u+2*n.h*(n.w+b+1)⟩
def nE (k:Nat) (n:Nm):Nm:=⟨n.d*k,Nat.lcm n.m (n.d*k),(n.w+2*k-2) / k,n.h*k,n.u+2*n.h*(k-1)⟩
def nB (k:Nat) (n:Nm):Nm:=⟨n.d*k,Nat.lcm n.m (n.d*k),n.w+1,n.h,n.u+2*n.h*(n.w+2)⟩
def nS:Sm→Nm→Nm
 | .same,n=>n
 | .turn,n=>n
 | .each k _,n=>nE k n
 | .block k _,n=>nB k n
 | .front b,n=>nC b n
 | .rest b,n=>nC b n
 | .last b,n=>nC b n
 | .but b,n=>nC b n
def nJ (a b:Nm):Nm:=⟨Nat.lcm a.d b.d,Nat.lcm a.m b.m,a.w+b.w,Nat.lcm a.h b.h,a.u+b.u⟩
def nP:Ps→Nm→Nm
 | .nil,n=>n
 | .sm s t,n=>nP t (nS s n)
 | .both l r t,n=>nP t (nJ (nP l n) (nP r n))
def kSm:Sm→Nat
 | .each k _=>k
 | .block k _=>k
 | _=>1
def kP:Ps→Nat
 | .nil=>1
 | .sm s t=>kSm s*kP t
 | .both l r t=>kP l*kP r*kP t
structure NO (D Y:Nat) (n:Nm):Prop where
 D0:0<D
 d:n.d ∣ D
 m:n.m ∣ D
 h:n.h ∣ D
 w:n.w+1001≤Y
theorem NO.d1 {D Y:Nat} {n:Nm} (o:NO D Y n):0<n.d∧n.d≤D:=⟨Nat.pos_of_dvd_of_pos o.d o.D0,Nat.le_of_dvd o.D0 o.d⟩
theorem NO.m1 {D Y:Nat} {n:Nm} (o:NO D Y n):0<n.m∧n.m≤D:=⟨Nat.pos_of_dvd_of_pos o.m o.D0,Nat.le_of_dvd o.D0 o.m⟩
theorem NO.h1 {D Y:Nat} {n:Nm} (o:NO D Y n):0<n.h∧n.h≤D:=⟨Nat.pos_of_dvd_of_pos o.h o.D0,Nat.le_of_dvd o.D0 o.h⟩
theorem NO.mono {D Y D' Y':Nat} {n:Nm} (o:NO D Y n) (hd:D ∣ D') (h0:0<D') (hy:Y≤Y'):NO D' Y' n:=⟨h0,Nat.dvd_trans o.d hd,Nat.dvd_trans o.m hd,Nat.dvd_trans o.h hd,Nat.le_trans o.w hy⟩
theorem qgq {M W D Y:Nat} (hM:M≤1000) {s:Sm} (hs:s.ok M W) {n:Nm} (o:NO D Y n):NO (D*kSm s) (Y*2) (nS s n):=by
 have hw:=o.w;have cut:∀b,b≤M→NO (D*1) (Y*2) (nC b n):=fun b hb=>by
  rw[Nat.mul_one];exact⟨o.D0,o.d,o.m,o.h,by show n.w+b+1001≤_;omega⟩
 cases s with
 | same=>exact o.mono (Nat.dvd_mul_right ..) (by have:=o.D0;simp[kSm];omega) (by omega)
 | turn=>exact o.mono (Nat.dvd_mul_right ..) (by have:=o.D0;simp[kSm];omega) (by omega)
 | front b=>exact cut b hs
 | rest b=>exact cut b hs
 | last b=>exact cut b hs
 | but b=>exact cut b hs
 | each k i=>
  have hk:=hs.1;have hd:n.d*k ∣ D*k:=Nat.mul_dvd_mul_right o.d k;refine⟨Nat.mul_pos o.D0 hk,hd,Nat.lcm_dvd (Nat.dvd_trans o.m (Nat.dvd_mul_right ..)) hd,Nat.mul_dvd_mul_right o.h k,?_⟩;show (n.w+2*k-2) / k+1001≤Y*2;have:(n.w+2*k-2) / k≤n.w+2:=by
   refine Nat.div_le_of_le_mul ?_;rw[Nat.mul_add];have:n.w≤k*n.w:=Nat.le_mul_of_pos_left _ hk;omega
  omega
 | block k i=>
  have hk:=hs.1;have hd:n.d*k ∣ D*k:=Nat.mul_dvd_mul_right o.d k;exact⟨Nat.mul_pos o.D0 hk,hd,Nat.lcm_dvd (Nat.dvd_trans o.m (Nat.dvd_mul_right ..)) hd,Nat.dvd_trans o.h (Nat.dvd_mul_right ..),by show n.w+1+1001≤_;omega⟩
theorem qgr {D Y Z:Nat} {a b:Nm} (o:NO D Y a) (q:NO D Z b):NO D (Y+Z) (nJ a b):=⟨o.D0,Nat.lcm_dvd o.d q.d,Nat.lcm_dvd o.m q.m,Nat.lcm_dvd o.h q.h,by have:=o.w;have:=q.w;show a.w+b.w+1001≤_;omega⟩
theorem Nh {M W:Nat}:∀{p:Ps},p.wf M W→0<kP p
 | .nil,_=>Nat.one_pos
 | .sm s t,h=>Nat.mul_pos (by cases s<;>first | exact Nat.one_pos | exact h.1.1) (Nh h.2)
 | .both l r t,h=>Nat.mul_pos (Nat.mul_pos (Nh h.1) (Nh h.2.1)) (Nh h.2.2)
theorem E8 {M W:Nat} (hM:M≤1000):∀{p:Ps} {D Y:Nat} {n:Nm},p.wf M W→NO D Y n→NO (D*kP p) (Y*2 ^ p.np) (nP p n)
 | .nil,D,Y,n,_,o=>by
  show NO (D*1) (Y*1) n;rw[Nat.mul_one,Nat.mul_one];exact o
 | .sm s t,D,Y,n,h,o=>by
  have:=E8 hM h.2 (qgq hM h.1 o);show NO (D*(kSm s*kP t)) (Y*2 ^ (t.np+1)) (nP t (nS s n));rw[← Nat.mul_assoc,Nat.pow_succ,Nat.mul_comm (2 ^ t.np),← Nat.mul_assoc];exact this
 | .both l r t,D,Y,n,h,o=>by
  have ol:=E8 hM h.1 o;have or:=E8 hM h.2.1 o;have pl:=Nh h.1;have pr:=Nh h.2.1;have D1:0<D*(kP l*kP r):=Nat.mul_pos o.D0 (Nat.mul_pos pl pr);have ol':=ol.mono (D':=D*(kP l*kP r)) (Nat.mul_dvd_mul_left _ (Nat.dvd_mul_right ..)) D1 (Nat.le_refl _);have or':=or.mono (D':=D*(kP l*kP r)) (Nat.mul_dvd_mul_left _ (Nat.dvd_mul_left ..)) D1 (Nat.le_refl _);have oj:=(qgr ol' or').mono (Nat.dvd_refl _) D1 (show _≤Y*2 ^ (l.np+r.np+1) from by
   rw[← Nat.mul_add];refine Nat.mul_le_mul_left _ ?_;have e1:2 ^ l.np≤2 ^ (l.np+r.np):=Nat.pow_le_pow_right (by decide) (by omega);have e2:2 ^ r.np≤2 ^ (l.np+r.np):=Nat.pow_le_pow_right (by decide) (by omega);rw[Nat.pow_succ];omega)
  have:=E8 hM h.2.2 oj;show NO (D*(kP l*kP r*kP t)) (Y*2 ^ (l.np+r.np+t.np+1)) (nP t (nJ (nP l n) (nP r n)));rw[show l.np+r.np+t.np+1=(l.np+r.np+1)+t.np by omega,Nat.pow_add,← Nat.mul_assoc Y,← Nat.mul_assoc D (kP l*kP r)];exact this
theorem qcE {M W:Nat} (hW:1≤W):∀{p:Ps},p.wf M W→kP p≤W ^ p.np
 | .nil,_=>Nat.le_refl _
 | .sm s t,h=>by
  show kSm s*kP t≤W ^ (t.np+1);rw[Nat.pow_succ,Nat.mul_comm (W ^ t.np)];exact Nat.mul_le_mul (by cases s<;>first | exact hW | exact h.1.2.1) (qcE hW h.2)
 | .both l r t,h=>by
  show kP l*kP r*kP t≤W ^ (l.np+r.np+t.np+1);refine Nat.le_trans (Nat.mul_le_mul (Nat.mul_le_mul (qcE hW h.1) (qcE hW h.2.1)) (qcE hW h.2.2)) ?_;rw[← Nat.pow_add,← Nat.pow_add];exact Nat.pow_le_pow_right hW (by omega)
theorem Ba (a b c d e:Int):Qk [.r (.ins "Numbers" []),.d (.int a),.d (.int b),.d (.int c),.d (.int d),.d (.int e)]=.ok (.d .non) [.r (.ins "Numbers" [("divisor",.int a),("modulus",.int b),("spread",.int c),("stride",.int d),("reach",.int e)]),.d (.int a),.d (.int b),.d (.int c),.d (.int d),.d (.int e)]:=by
 unfold Qk Yu;simp
theorem l64 {a X:Nat} (h:a≤X) (hX:X≤10 ^ 18):((a:Nat):Int).natAbs<2 ^ 64:=by
 rw[Int.natAbs_natCast];exact Nat.lt_of_le_of_lt (Nat.le_trans h hX) (by decide)
theorem m61 {a X:Nat} (h:a≤X) (hX:X≤10 ^ 18):((a:Nat):Int).natAbs≤10 ^ 61:=by
 rw[Int.natAbs_natCast];exact Nat.le_trans (Nat.le_trans h hX) (by decide)
theorem qcy {a X:Nat} (h:a≤X) (hX:X≤10 ^ 18):a<18446744073709551616:=Nat.lt_of_le_of_lt (Nat.le_trans h hX) (by decide)
theorem mk2 (z:Int):Jj 2 z:=.inl (by decide)
theorem qhL {a b P:Nat} (h:P=a*b):(a:Int)*(b:Int)=(P:Int):=by rw[h];exact (Int.natCast_mul ..).symm
theorem Tc {u h k:Nat} {z:Int} (hz:z=(k:Int)):(u:Int)+2*(h:Int)*z=((u+2*h*k:Nat):Int):=by
 rw[hz,Int.natCast_add,Int.natCast_mul,Int.natCast_mul];rfl
theorem qdz {D Y k:Nat} (hk:1≤k) (hk2:k≤1000) {n:Nm} (o:NO D Y n) (hD:D*k≤10 ^ 18) (hY:Y≤10 ^ 18):Vm [.d (.int k),.d (nmI n)]=.ok (.d (nmI (nE k n))) [.d (.int k),.d (nmI n)]:=by
 have k0:(k:Int).natAbs≤10 ^ 61:=m61 (Nat.le_trans hk2 (by decide)) (Nat.le_refl _);have hDk:D≤D*k:=Nat.le_mul_of_pos_right _ hk;have hd:=o.d1;have hm:=o.m1;have hh:=o.h1;have m1:Jj (n.d:Int) (k:Int):=Uw (m61 (Nat.le_trans hd.2 hDk) hD) k0;have m2:Jj (n.h:Int) (k:Int):=Uw (m61 (Nat.le_trans hh.2 hDk) hD) k0;have d1:=ql1 hk (show k≤1000000 by omega);have l1:=qcy (Nat.le_trans hm.2 hDk) hD;have l2:=qcy (Nat.mul_le_mul_right k hd.2) hD;have m3:Jj (2*(n.h:Int)) ((k:Int)-1):=Uw (by have:=hh.2;omega) (by omega);have e2:((n.w:Int)+2*(k:Int)-2).fdiv k=(((n.w+2*k-2) / k:Nat):Int):=by
  rw[show (n.w:Int)+2*(k:Int)-2=((n.w+2*k-2:Nat):Int) by omega,Int.fdiv_eq_ediv_of_nonneg _ (by omega)];rfl
 have e3:=Tc (u:=n.u) (h:=n.h) (k:=k-1) (z:=(k:Int)-1) (by omega);unfold Vm U7 nE nmI;have ei:=Ba;simp only;rw[← e2,← e3];obtain⟨P,hP⟩:∃P,P=n.d*k:=⟨_,rfl⟩;obtain⟨Q,hQ⟩:∃Q,Q=n.h*k:=⟨_,rfl⟩;rw[← hP]at l2 ⊢;rw[← hQ];have eP:=qhL hP;have eQ:=qhL hQ;simp[m1,m2,d1,l1,l2,mk2,m3,ei,eP,eQ]
theorem qdB {D Y k:Nat} (hk:1≤k) (hk2:k≤1000) {n:Nm} (o:NO D Y n) (hD:D*k≤10 ^ 18) (hY:Y≤10 ^ 18):Yi [.d (.int k),.d (nmI n)]=.ok (.d (nmI (nB k n))) [.d (.int k),.d (nmI n)]:=by
 have k0:(k:Int).natAbs≤10 ^ 61:=m61 (Nat.le_trans hk2 (by decide)) (Nat.le_refl _);have hDk:D≤D*k:=Nat.le_mul_of_pos_right _ hk;have hd:=o.d1;have hm:=o.m1;have hh:=o.h1;have hw:=o.w;have m1:Jj (n.d:Int) (k:Int):=Uw (m61 (Nat.le_trans hd.2 hDk) hD) k0;have l1:=qcy (Nat.le_trans hm.2 hDk) hD;have l2:=qcy (Nat.mul_le_mul_right k hd.2) hD;have m3:Jj (2*(n.h:Int)) ((n.w:Int)+1+1):=Uw (by have:=hh.2;omega) (by omega);have e3:=Tc (u:=n.u) (h:=n.h) (k:=n.w+2) (z:=(n.w:Int)+1+1) (by omega);unfold Yi Ue nB nmI;have ei:=Ba;simp only;rw[← e3];obtain⟨P,hP⟩:∃P,P=n.d*k:=⟨_,rfl⟩;rw[← hP]at l2 ⊢;have eP:=qhL hP;simp[m1,l1,l2,mk2,m3,ei,eP]
theorem qdA {D Y b:Nat} (hb:b≤1000) {n:Nm} (o:NO D Y n) (hD:D≤10 ^ 18) (hY:Y≤10 ^ 18):Y1 [.d (.int b),.d (nmI n)]=.ok (.d (nmI (nC b n))) [.d (.int b),.d (nmI n)]:=by
 have hh:=o.h1;have hw:=o.w;have m3:Jj (2*(n.h:Int)) ((n.w:Int)+(b:Int)+1):=Uw (by have:=hh.2;omega) (by omega);have e3:=Tc (u:=n.u) (h:=n.h) (k:=n.w+b+1) (z:=(n.w:Int)+(b:Int)+1) (by omega);unfold Y1 Gz nC nmI;have ei:=Ba;simp only;rw[← e3];simp[mk2,m3,ei]
theorem qqd {D Y Z:Nat} {a b:Nm} (o:NO D Y a) (q:NO D Z b) (hD:D≤10 ^ 18):V7 [.d (nmI a),.d (nmI b)]=.ok (.d (nmI (nJ a b))) [.d (nmI a),.d (nmI b)]:=by
 have l1:=qcy o.d1.2 hD;have l2:=qcy o.m1.2 hD;have l3:=qcy o.h1.2 hD;have l4:=qcy q.d1.2 hD;have l5:=qcy q.m1.2 hD;have l6:=qcy q.h1.2 hD;unfold V7 Kb nJ nmI;have ei:=Ba;simp[l1,l2,l3,l4,l5,l6,ei,Mj]
theorem qcx {M W D Y:Nat} (hM:M≤1000) (hW:W≤1000) {s:Sm} (hs:s.ok M W) {n:Nm} (o:NO D Y n) (hD:D*kSm s≤10 ^ 18) (hY:Y≤10 ^ 18):Vp [.d s.d,.d (nmT n)]=.ok (.d (nmT (nS s n))) [.d s.d,.d (nmT n)]:=by
 have hd:=o.d1;have hm:=o.m1;have hh:=o.h1;have hw:=o.w;unfold Vp Hc;have cut:∀b,b≤M→D≤10 ^ 18→Jj (2*(n.h:Int)) ((n.w:Int)+(b:Int)+1)∧((n.u:Int)+2*(n.h:Int)*((n.w:Int)+(b:Int)+1)=((n.u+2*n.h*(n.w+b+1):Nat):Int)):=fun b hb hD=>
  ⟨Uw (by have:=hh.2;omega) (by omega),Tc (by omega)⟩
 cases s with
 | same=>simp[Sm.d,nS]
 | turn=>simp[Sm.d,nS]
 | front b=>
  obtain⟨m3,e3⟩:=cut b hs (by simp only[kSm]at hD;omega);simp only[nS,nC,nmT];rw[← e3];simp[Sm.d,mk2,m3]
 | rest b=>
  obtain⟨m3,e3⟩:=cut b hs (by simp only[kSm]at hD;omega);simp only[nS,nC,nmT];rw[← e3];simp[Sm.d,mk2,m3]
 | last b=>
  obtain⟨m3,e3⟩:=cut b hs (by simp only[kSm]at hD;omega);simp only[nS,nC,nmT];rw[← e3];simp[Sm.d,mk2,m3]
 | but b=>
  obtain⟨m3,e3⟩:=cut b hs (by simp only[kSm]at hD;omega);simp only[nS,nC,nmT];rw[← e3];simp[Sm.d,mk2,m3]
 | each k i=>
  have hk:=hs.1;have hk2:=hs.2.1;simp only[kSm]at hD;have k0:(k:Int).natAbs≤10 ^ 61:=m61 (show k≤1000 by omega) (by decide);have hDk:D≤D*k:=Nat.le_mul_of_pos_right _ hk;have m1:Jj (n.d:Int) (k:Int):=Uw (m61 (Nat.le_trans hd.2 hDk) hD) k0;have m2:Jj (n.h:Int) (k:Int):=Uw (m61 (Nat.le_trans hh.2 hDk) hD) k0;have d1:=ql1 hk (show k≤1000000 by omega);have m3:Jj (2*(n.h:Int)) ((k:Int)-1):=Uw (by have:=hh.2;omega) (by omega);have e2:((n.w:Int)+2*(k:Int)-2).fdiv k=(((n.w+2*k-2) / k:Nat):Int):=by
   rw[show (n.w:Int)+2*(k:Int)-2=((n.w+2*k-2:Nat):Int) by omega,Int.fdiv_eq_ediv_of_nonneg _ (by omega)];rfl
  have e3:=Tc (u:=n.u) (h:=n.h) (k:=k-1) (z:=(k:Int)-1) (by omega);have em:=Ko n.m (n.d*k) hm.1 (Nat.lt_of_le_of_lt (Nat.le_trans hm.2 (Nat.le_trans hDk hD)) (by decide)) (Nat.lt_of_le_of_lt (Nat.le_trans (Nat.mul_le_mul_right k hd.2) hD) (by decide));simp only[nS,nE,nmT];rw[← e2,← e3];obtain⟨P,hP⟩:∃P,P=n.d*k:=⟨_,rfl⟩;obtain⟨Q,hQ⟩:∃Q,Q=n.h*k:=⟨_,rfl⟩;rw[← hP]at em ⊢;rw[← hQ];have eP:=qhL hP;have eQ:=qhL hQ;simp[Sm.d,m1,m2,d1,mk2,m3,em,eP,eQ]
 | block k i=>
  have hk:=hs.1;have hk2:=hs.2.1;simp only[kSm]at hD;have k0:(k:Int).natAbs≤10 ^ 61:=m61 (show k≤1000 by omega) (by decide);have hDk:D≤D*k:=Nat.le_mul_of_pos_right _ hk;have m1:Jj (n.d:Int) (k:Int):=Uw (m61 (Nat.le_trans hd.2 hDk) hD) k0;have m3:Jj (2*(n.h:Int)) ((n.w:Int)+2):=Uw (by have:=hh.2;omega) (by omega);have e3:=Tc (u:=n.u) (h:=n.h) (k:=n.w+2) (z:=(n.w:Int)+2) (by omega);have em:=Ko n.m (n.d*k) hm.1 (Nat.lt_of_le_of_lt (Nat.le_trans hm.2 (Nat.le_trans hDk hD)) (by decide)) (Nat.lt_of_le_of_lt (Nat.le_trans (Nat.mul_le_mul_right k hd.2) hD) (by decide));simp only[nS,nB,nmT];rw[← e3];obtain⟨P,hP⟩:∃P,P=n.d*k:=⟨_,rfl⟩;rw[← hP]at em ⊢;have eP:=qhL hP;simp[Sm.d,m1,mk2,m3,em,eP]
theorem qhp {M W D Y:Nat} (hM:M≤1000) (hW:W≤1000) {s:Sm} (h:s.ok M W) {n:Nm} (o:NO D Y n) (hD:D*kSm s≤10 ^ 18) (hY:Y≤10 ^ 18) (m:Nat):(Qs (m+1)).1 [.d s.d,.d (nmI n)]=.ok (.d (nmI (nS s n))) [.d s.d,.d (nmI n)]:=by
 show Ze 2 (Xg (Qs m).1 (Qs m).2) _=_;unfold Xg;have cut:∀b,b≤M→D≤10 ^ 18→Y1 [.d (.int b),.d (nmI n)]=.ok (.d (nmI (nC b n))) [.d (.int b),.d (nmI n)]:=fun b hb hD=>qdA (Nat.le_trans hb hM) o hD hY;cases s with
 | same=>simp[Sm.d,nS]
 | turn=>simp[Sm.d,nS]
 | each k i=>
  have e:=qdz h.1 (Nat.le_trans h.2.1 hW) o hD hY;unfold nS Sm.d;unfold nmI at e ⊢;simp[e]
 | block k i=>
  have e:=qdB h.1 (Nat.le_trans h.2.1 hW) o hD hY;unfold nS Sm.d;unfold nmI at e ⊢;simp[e]
 | front b=>
  have e:=cut b h (by simp only[kSm]at hD;omega);unfold nS Sm.d;unfold nmI at e ⊢;simp[e]
 | rest b=>
  have e:=cut b h (by simp only[kSm]at hD;omega);unfold nS Sm.d;unfold nmI at e ⊢;simp[e]
 | last b=>
  have e:=cut b h (by simp only[kSm]at hD;omega);unfold nS Sm.d;unfold nmI at e ⊢;simp[e]
 | but b=>
  have e:=cut b h (by simp only[kSm]at hD;omega);unfold nS Sm.d;unfold nmI at e ⊢;simp[e]
theorem O4 {p:Ps} {m:Nat} {n:Nm} (h:∀P,Z9 (Qg 2) (Jt (Qs m).1 (Qs m).2) p.ds [P,some (.d (nmI n)),none]=.ok .nx [P,some (.d (nmI (nP p n))),none]) :
  (Qs (m+1)).2 [.d (.tup p.ds),.d (nmI n)]=.ok (.d (nmI (nP p n))) [.d (.tup p.ds),.d (nmI n)]:=by
 show Ze 3 (Yn (Qs m).1 (Qs m).2) _=_;unfold Yn;have e:=h (some (.d (.tup p.ds)));simp only[F5];generalize nmI (nP p n)=z at e ⊢;generalize nmI n=y at e ⊢;simp[e]
theorem qdw {M W D Y:Nat} (hM:M≤1000) {l r t:Ps} {n:Nm} (h:(Ps.both l r t).wf M W) (o:NO D Y n) :
  NO (D*(kP l*kP r)) (Y*2 ^ l.np) (nP l n)∧NO (D*(kP l*kP r)) (Y*2 ^ r.np) (nP r n)∧NO (D*(kP l*kP r)) (Y*2 ^ (l.np+r.np+1)) (nJ (nP l n) (nP r n)):=by
 have ol:=E8 hM h.1 o;have or:=E8 hM h.2.1 o;have pl:=Nh h.1;have pr:=Nh h.2.1;have D1:0<D*(kP l*kP r):=Nat.mul_pos o.D0 (Nat.mul_pos pl pr);have ol':=ol.mono (D':=D*(kP l*kP r)) (Nat.mul_dvd_mul_left _ (Nat.dvd_mul_right ..)) D1 (Nat.le_refl _);have or':=or.mono (D':=D*(kP l*kP r)) (Nat.mul_dvd_mul_left _ (Nat.dvd_mul_left ..)) D1 (Nat.le_refl _);refine⟨ol',or',(qgr ol' or').mono (Nat.dvd_refl _) D1 ?_⟩;rw[← Nat.mul_add];refine Nat.mul_le_mul_left _ ?_;have e1:2 ^ l.np≤2 ^ (l.np+r.np):=Nat.pow_le_pow_right (by decide) (by omega);have e2:2 ^ r.np≤2 ^ (l.np+r.np):=Nat.pow_le_pow_right (by decide) (by omega);rw[Nat.pow_succ];omega
theorem qdx {M W D Y:Nat} {l r t:Ps} (h:(Ps.both l r t).wf M W) (hD:D*kP (.both l r t)≤10 ^ 18) (hY:Y*2 ^ (Ps.both l r t).np≤10 ^ 18) :
  D*kP l≤10 ^ 18∧D*kP r≤10 ^ 18∧D*(kP l*kP r)≤10 ^ 18∧D*(kP l*kP r)*kP t≤10 ^ 18∧Y*2 ^ l.np≤10 ^ 18∧Y*2 ^ r.np≤10 ^ 18∧Y*2 ^ (l.np+r.np+1)*2 ^ t.np≤10 ^ 18:=by
 have pl:=Nh h.1;have pr:=Nh h.2.1;have pt:=Nh h.2.2;have a:D*(kP l*kP r)*kP t≤10 ^ 18:=by rw[Nat.mul_assoc];exact hD
 have b:D*(kP l*kP r)≤10 ^ 18:=Nat.le_trans (Nat.le_mul_of_pos_right _ pt) a;have hY':Y*2 ^ (l.np+r.np+t.np+1)≤10 ^ 18:=hY;have y:∀k,k≤l.np+r.np+t.np+1→Y*2 ^ k≤10 ^ 18:=fun k hk=>Nat.le_trans (Nat.mul_le_mul_left _ (Nat.pow_le_pow_right (by decide) hk)) hY';refine⟨Nat.le_trans (Nat.mul_le_mul_left _ (Nat.le_mul_of_pos_right _ pr)) b,Nat.le_trans (Nat.mul_le_mul_left _ (Nat.le_mul_of_pos_left _ pl)) b,b,a,y _ (by omega),y _ (by omega),?_⟩;rw[Nat.mul_assoc,← Nat.pow_add,show l.np+r.np+1+t.np=l.np+r.np+t.np+1 by omega];exact hY'
theorem qie {M W D Y:Nat} {s:Sm} {t:Ps} (h:(Ps.sm s t).wf M W) (hD:D*kP (.sm s t)≤10 ^ 18) (hY:Y*2 ^ (Ps.sm s t).np≤10 ^ 18) :
  D*kSm s≤10 ^ 18∧D*kSm s*kP t≤10 ^ 18∧Y≤10 ^ 18∧Y*2*2 ^ t.np≤10 ^ 18:=by
 have pt:=Nh h.2;have a:D*kSm s*kP t≤10 ^ 18:=by rw[Nat.mul_assoc];exact hD
 have b:Y*2*2 ^ t.np≤10 ^ 18:=by
  have:Y*2 ^ (t.np+1)≤10 ^ 18:=hY;rw[Nat.mul_assoc,Nat.mul_comm 2,← Nat.pow_succ];exact this
 have p2:1≤2 ^ t.np:=Nat.pos_of_ne_zero (by simp);have c:=Nat.le_trans (Nat.le_mul_of_pos_right (Y*2) p2) b;exact⟨Nat.le_trans (Nat.le_mul_of_pos_right _ pt) a,a,by omega,b⟩
theorem O5 {M W:Nat} (hM:M≤1000) (hW:W≤1000):∀(p:Ps) (m D Y:Nat) (n:Nm) (P:Option L),p.wf M W→NO D Y n→D*kP p≤10 ^ 18→Y*2 ^ p.np≤10 ^ 18→2*dp p+1≤m→
  Z9 (Qg 2) (Jt (Qs m).1 (Qs m).2) p.ds [P,some (.d (nmI n)),none]=.ok .nx [P,some (.d (nmI (nP p n))),none]
 | .nil,m,D,Y,n,P,_,_,_,_,_=>by simp[Ps.ds,nP]
 | .sm s t,m,D,Y,n,P,h,o,hD,hY,hm=>by
  obtain⟨m,rfl⟩:∃k,m=k+1:=⟨m-1,by omega⟩;obtain⟨a1,a2,a3,a4⟩:=qie h hD hY;have e:=qhp hM hW h.1 o a1 a3 m;have e2:bdE (Qg 2) (Jt (Qs (m+1)).1 (Qs (m+1)).2) s.d [P,some (.d (nmI n)),none]=.ok .nx [P,some (.d (nmI (nS s n))),none]:=by
   generalize nmI (nS s n)=z at e ⊢;generalize nmI n=y at e ⊢;simp[Jt,e]
  rw[Ps.ds,Q5 e2,O5 hM hW t (m+1) (D*kSm s) (Y*2) _ P h.2 (qgq hM h.1 o) a2 a4 hm];rfl
 | .both l r t,m,D,Y,n,P,h,o,hD,hY,hm=>by
  simp only[dp]at hm;obtain⟨m,rfl⟩:∃k,m=k+1+1:=⟨m-2,by omega⟩;obtain⟨a1,a2,a3,a4,a5,a6,a7⟩:=qdx h hD hY;obtain⟨ol,or,oj⟩:=qdw hM h o;have el:=O4 (p:=l) (m:=m) (n:=n) fun P=>O5 hM hW l m D Y n P h.1 o a1 a5 (by omega);have er:=O4 (p:=r) (m:=m) (n:=n) fun P=>O5 hM hW r m D Y n P h.2.1 o a2 a6 (by omega);have ej:=qqd ol or a3;have e:(Qs (m+1+1)).1 [.d (boD l r),.d (nmI n)]=.ok (.d (nmI (nJ (nP l n) (nP r n)))) [.d (boD l r),.d (nmI n)]:=by
   show Ze 2 (Xg (Qs (m+1)).1 (Qs (m+1)).2) _=_;unfold Xg;generalize nJ (nP l n) (nP r n)=z at ej ⊢;generalize nP l n=x at el ej ⊢;generalize nP r n=y at er ej ⊢;unfold nmI boD at *;simp[el,er,ej,K0]
  have e2:bdE (Qg 2) (Jt (Qs (m+1+1)).1 (Qs (m+1+1)).2) (boD l r) [P,some (.d (nmI n)),none]=.ok .nx [P,some (.d (nmI (nJ (nP l n) (nP r n)))),none]:=by
   generalize nmI (nJ (nP l n) (nP r n))=z at e ⊢;generalize nmI n=y at e ⊢;simp[Jt,e]
  rw[Ps.ds,Q5 e2,O5 hM hW t (m+1+1) _ _ _ P h.2.2 oj a4 a7 (by omega)];rfl
abbrev nm1:Nm:=⟨1,1,0,1,1⟩
theorem NO1:NO 1 1001 nm1:=⟨Nat.one_pos,Nat.dvd_refl _,Nat.dvd_refl _,Nat.dvd_refl _,Nat.le_refl _⟩
theorem L5 {M W:Nat} (hM:M≤1000) (hW:W≤1000) (p:Ps) (h:p.wf M W) (hd:dp p≤19) (hD:1*kP p≤10 ^ 18) (hY:1001*2 ^ p.np≤10 ^ 18):Xd [.d (Bl p)]=.ok (.d (nmI (nP p nm1))) [.d (Bl p)]:=by
 have e:=O4 (p:=p) (m:=39) (n:=nm1) fun P=>O5 hM hW p 39 1 1001 nm1 P h NO1 hD hY (by omega);have e:V0 [.d (.tup p.ds),.d (nmI nm1)]=_:=e;have ei:=Ba;unfold Xd Gy;have e0:nmI nm1=.ins "Numbers" [("divisor",.int 1),("modulus",.int 1),("spread",.int 0),("stride",.int 1),("reach",.int 1)]:=rfl;rw[e0]at e;generalize nmI (nP p nm1)=z at e ⊢;simp[e,ei,Ce,N9,G7]
abbrev qbV (C:Option L) (S:List D):DL.Env:=[C,some (.m (.lst S)),none,none,none]
section
variable {C:Option L} {S:List D} {n a b:Nm}
theorem qir (hS:S.length≤1000):bdE (Qg 2) Zs opD (qbV C (S++[nmT n]))=.ok .nx (qbV C (S++[nmT n]++[nmT n])):=by
 have z1:L2.atI (S++[nmT n]) (-1)=some (nmT n):=Rp;have z2:(S++[nmT n]).length≤100000:=by simp;omega
 generalize S++[nmT n]=Z at z1 z2 ⊢;generalize nmT n=y at z1 ⊢;simp[Zs,z1,z2]
theorem qis (hS:S.length≤1000):bdE (Qg 2) Zs Iz (qbV C (S++[nmT n]++[nmT a]))=.ok .nx (qbV C (S++[nmT n]++[nmT a]++[nmT n])):=by
 have z3:L2.atI (S++[nmT n]++[nmT a]) (-2)=some (nmT n):=by rw[List.append_assoc];exact qfw
 have z2:(S++[nmT n]++[nmT a]).length≤100000:=by simp;omega
 generalize S++[nmT n]++[nmT a]=Z at z2 z3 ⊢;generalize nmT n=y at z3 ⊢;simp[Zs,z2,z3]
theorem qiq {D Y Z:Nat} (o:NO D Y a) (q:NO D Z b) (hD:D≤10 ^ 18) (hS:S.length≤1000):bdE (Qg 2) Zs shD (qbV C (S++[nmT n]++[nmT a]++[nmT b]))=.ok .nx (qbV C (S++[nmT (nJ a b)])):=by
 have z3:(S++[nmT n]++[nmT a]++[nmT b]).getLast?=some (nmT b):=by simp
 have z4:(S++[nmT n]++[nmT a]++[nmT b]).dropLast=S++[nmT n]++[nmT a]:=by simp
 have y3:(S++[nmT n]++[nmT a]).getLast?=some (nmT a):=by simp
 have y4:(S++[nmT n]++[nmT a]).dropLast=S++[nmT n]:=by simp
 generalize S++[nmT n]++[nmT a]++[nmT b]=Z at z3 z4 ⊢;generalize S++[nmT n]++[nmT a]=Y at z4 y3 y4 ⊢;have lt:∀{x:Nat},x≤D→x<2 ^ 64:=fun h=>Nat.lt_of_le_of_lt (Nat.le_trans h hD) (by decide);have m1:=Ko b.d a.d q.d1.1 (lt q.d1.2) (lt o.d1.2);have m2:=Ko b.m a.m q.m1.1 (lt q.m1.2) (lt o.m1.2);have m3:=Ko b.h a.h q.h1.1 (lt q.h1.2) (lt o.h1.2);have e1:(b.w:Int)+(a.w:Int)=((a.w+b.w:Nat):Int):=by omega
 have e2:(b.u:Int)+(a.u:Int)=((a.u+b.u:Nat):Int):=by omega
 rw[Nat.lcm_comm]at m1 m2 m3;unfold nmT nJ at *;simp only;rw[← e1,← e2];simp[Zs,z3,z4,y3,y4,m1,m2,m3]
theorem qsE {M W D Y:Nat} (hM:M≤1000) (hW:W≤1000) {s:Sm} (h:s.ok M W) (o:NO D Y n) (hD:D*kSm s≤10 ^ 18) (hY:Y≤10 ^ 18):bdE (Qg 2) Zs s.d (qbV C (S++[nmT n]))=.ok .nx (qbV C (S++[nmT (nS s n)])):=by
 have e:=qcx hM hW h o hD hY;obtain⟨v,ds,hd,n1,n2,n3,n4⟩:=Ny s;have z1:L2.atI (S++[nmT n]) (-1)=some (nmT n):=Rp;rw[hd]at e ⊢;generalize nmT (nS s n)=Y at e ⊢;generalize nmT n=X at e z1 ⊢;simp[Zs,n1,n2,n3,z1,e]
end
theorem L4 {M W:Nat} (hM:M≤1000) (hW:W≤1000) {C:Option L}:∀(p:Ps) (E Y:Nat) (n:Nm) (S rest:List D),p.wf M W→NO E Y n→E*kP p≤10 ^ 18→Y*2 ^ p.np≤10 ^ 18→S.length+p.flat.length≤900→
  Z9 (Qg 2) Zs (p.flat++rest) (qbV C (S++[nmT n]))=Z9 (Qg 2) Zs rest (qbV C (S++[nmT (nP p n)]))
 | .nil,D,Y,n,S,rest,_,_,_,_,_=>rfl
 | .sm s t,D,Y,n,S,rest,h,o,hD,hY,hS=>by
  obtain⟨a1,a2,a3,a4⟩:=qie h hD hY;have e0:(Ps.sm s t).flat=s.d::t.flat:=rfl;rw[e0]at hS ⊢;simp only[List.length_cons]at hS;rw[List.cons_append,Q5 (qsE hM hW h.1 o a1 a3)];exact (L4 hM hW t (D*kSm s) (Y*2) (nS s n) S rest h.2 (qgq hM h.1 o) a2 a4 (by omega)).trans rfl
 | .both l r t,D,Y,n,S,rest,h,o,hD,hY,hS=>by
  obtain⟨a1,a2,a3,a4,a5,a6,a7⟩:=qdx h hD hY;obtain⟨ol,or,oj⟩:=qdw hM h o;rw[xi]at hS ⊢;simp only[List.length_cons,List.length_append]at hS;rw[List.cons_append,Q5 (qir (by omega)),List.append_assoc,List.cons_append,List.append_assoc,List.cons_append];rw[L4 hM hW l D Y n (S++[nmT n]) _ h.1 o a1 a5 (by simp;omega),Q5 (qis (by omega))];rw[L4 hM hW r D Y n (S++[nmT n]++[nmT (nP l n)]) _ h.2.1 o a2 a6 (by simp;omega),Q5 (qiq ol or a3 (by omega))];exact (L4 hM hW t _ _ _ S rest h.2.2 oj a4 a7 (by omega)).trans rfl
theorem qgB {M W:Nat} (hM:M≤1000) (hW:W≤1000) (p:Ps) (h:p.wf M W) (hD:1*kP p≤10 ^ 18) (hY:1001*2 ^ p.np≤10 ^ 18) (hn:p.np≤100):Yj [.d (.lst p.flat)]=.ok (.d (nmT (nP p nm1))) [.d (.lst p.flat)]:=by
 have hf:=Sy (p:=p);have e:=L4 hM hW (C:=some (.d (.lst p.flat))) p 1 1001 nm1 [] [] h NO1 hD hY (by simp;omega);simp only[List.append_nil,List.nil_append,xg]at e;unfold Yj Ug;have e0:nmT nm1=.tup [.int 1,.int 1,.int 0,.int 1,.int 1]:=rfl;rw[e0]at e;generalize nmT (nP p nm1)=z at e ⊢;have z0:L2.atI [z] 0=some z:=rfl;simp[qbV]at e;simp[e,z0]
abbrev Qy:=Int×Int
abbrev Qy.at' (q:Qy) (t:Nat):Int:=q.1+q.2*(t:Int)
abbrev kq (M n:Int) (q:Qy):Int:=q.1*M-q.2*n
structure Ln where
 b:Int
 bm:Int
 s:Int
 c:Int
 cm:Int
abbrev Ln.at' (l:Ln) (t:Nat):S3:=(l.b+l.bm*(t:Int),l.s,l.c+l.cm*(t:Int))
theorem steady {M n d g w:Int} (hM:M=d*g) (hg:0<g) (hd:0<d) (hw:0≤w) (hn:d*w+1≤n) {v mu:Int} (hm:g ∣ mu) (h1:v*M-mu*n≤w*M) (h2:-(w*M)≤v*M-mu*n) :
  (0≤mu∧0<v)∨mu=0∨(mu≤0∧v<0):=by
 obtain⟨z,rfl⟩:=hm;have hM0:0<M:=hM▸Int.mul_pos hd hg;rcases Int.lt_trichotomy z 0 with h | h | h
 ·right;right;have h3:0≤(-z-1)*(g*n):=Int.mul_nonneg (by omega) (Int.mul_nonneg (by omega) (by have:=Int.mul_nonneg (Int.le_of_lt hd) hw;omega));have h4:0≤g*(n-(d*w+1)):=Int.mul_nonneg (by omega) (by omega);have hv:v*M<0:=by subst hM;grind
  refine⟨?_,?_⟩
  ·have:0≤g*(-z):=Int.mul_nonneg (by omega) (by omega);have:g*(-z)=-(g*z):=by rw[Int.mul_neg]
   omega
  ·apply Int.lt_of_not_ge;intro hc;have:=Int.mul_nonneg hc (Int.le_of_lt hM0);omega
 ·right;left;subst h;simp
 ·left;have h3:0≤(z-1)*(g*n):=Int.mul_nonneg (by omega) (Int.mul_nonneg (by omega) (by have:=Int.mul_nonneg (Int.le_of_lt hd) hw;omega));have h4:0≤g*(n-(d*w+1)):=Int.mul_nonneg (by omega) (by omega);have hv:0<v*M:=by subst hM;grind
  refine⟨Int.mul_nonneg (by omega) (by omega),?_⟩;apply Int.lt_of_not_ge;intro hc;have:=Int.mul_nonneg (Int.neg_nonneg_of_nonpos hc) (Int.le_of_lt hM0);rw[Int.neg_mul]at this;omega
def Ste (x y:Qy):Prop:=∀t:Nat,(x.at' t≤y.at' t↔x.1≤y.1)
theorem Ste.of {x y:Qy} (h:(0≤y.2-x.2∧0<y.1-x.1)∨y.2-x.2=0∨(y.2-x.2≤0∧y.1-x.1<0)):Ste x y:=by
 intro t;have e:y.at' t-x.at' t=(y.1-x.1)+(y.2-x.2)*(t:Int):=by simp only[Qy.at',Int.sub_mul];omega
 rcases h with ⟨h1,h2⟩ | h | ⟨h1,h2⟩
 ·have:=Int.mul_nonneg h1 (Int.natCast_nonneg t);constructor<;>intro<;>omega
 ·rw[h,Int.zero_mul]at e;constructor<;>intro<;>omega
 ·have:=Int.mul_nonneg (Int.neg_nonneg_of_nonpos h1) (Int.natCast_nonneg t);rw[Int.neg_mul]at this;constructor<;>intro<;>omega
theorem qeD {x y:Qy} (h:(0≤y.2-x.2∧0<y.1-x.1)∨y.2-x.2=0∨(y.2-x.2≤0∧y.1-x.1<0)) (e:x.1=y.1):x=y:=by
 obtain⟨a,b⟩:=x;obtain⟨c,d⟩:=y;simp only at *;subst e;rw[show b=d by omega]
def qgS (β:Int→Int) (σ τ : Int):List S3→Int→List S3
 | [],_=>[]
 | x::r,a=>(if β a < β (a+x.2.2) then [(x.1+x.2.1*(σ * β a + τ - a),x.2.1 * σ,β (a+x.2.2) - β a)] else [])++qgS β σ τ r (a+x.2.2)
def bE (k i:Int) (x:Int):Int:=(x-i+k-1).fdiv k
def bC (lo hi:Int) (x:Int):Int:=min (max x lo) hi-lo
theorem qdm {lo hi:Int} (h:lo≤hi):∀(r:List S3) (a:Int),(∀x∈r,0≤x.2.2)→D2 r lo hi a=qgS (bC lo hi) 1 lo r a
 | [],_,_=>rfl
 | x::r,a,hr=>by
  have h0:=hr x List.mem_cons_self;rw[D2,qgS,qdm h r _ (fun y hy=>hr y (List.mem_cons_of_mem _ hy))];congr 1;by_cases q:max (lo-a) 0<min (hi-a) x.2.2
  ·have q2:bC lo hi a<bC lo hi (a+x.2.2):=by unfold bC;omega
   rw[if_pos q,if_pos q2,Int.mul_one,Int.one_mul];have e1:bC lo hi a+lo-a=max (lo-a) 0:=by unfold bC;omega
   have e2:bC lo hi (a+x.2.2)-bC lo hi a=min (hi-a) x.2.2-max (lo-a) 0:=by unfold bC;omega
   rw[e1,e2]
  ·have q2:¬bC lo hi a<bC lo hi (a+x.2.2):=by unfold bC;omega
   rw[if_neg q,if_neg q2]
theorem Mz {k:Int} (hk:0<k) (i x:Int):k*bE k i x≤x-i+k-1∧x-i+k-1<k*bE k i x+k:=by
 have h1:=Int.mul_fdiv_add_fmod (x-i+k-1) k;have h2:=Int.fmod_nonneg_of_pos (x-i+k-1) hk;have h3:=Int.fmod_lt_of_pos (x-i+k-1) hk;unfold bE;omega
theorem C0 {k a b:Int} (hk:0<k):k*a<k*b↔a<b:=⟨fun h=>Int.lt_of_mul_lt_mul_left h (Int.le_of_lt hk),fun h=>Int.mul_lt_mul_of_pos_left h hk⟩
theorem Ri {k x q:Int} (hk:0<k) (h1:k*q≤x) (h2:x<k*q+k):x.fdiv k=q:=by
 have e1:=Int.mul_fdiv_add_fmod x k;have e2:=Int.fmod_nonneg_of_pos x hk;have e3:=Int.fmod_lt_of_pos x hk;have a1:k*x.fdiv k<k*(q+1):=by rw[Int.mul_add];omega
 have a2:k*q<k*(x.fdiv k+1):=by rw[Int.mul_add];omega
 rw[C0 hk]at a1 a2;omega
theorem qaJ {k i:Int} (hk:0<k):∀(r:List S3) (a:Int),Pe r k i a=qgS (bE k i) k i r a
 | [],_=>rfl
 | x::r,a=>by
  rw[Pe,qgS,qaJ hk r];congr 1;obtain⟨h1,h2⟩:=Mz hk i a;obtain⟨h3,h4⟩:=Mz hk i (a+x.2.2);have e:(i-a).fmod k=k*bE k i a+i-a:=by
   have e1:=Int.mul_fdiv_add_fmod (i-a) k;have e2:(i-a).fdiv k=- bE k i a:=Ri hk (by rw[Int.mul_neg];omega) (by rw[Int.mul_neg];omega);rw[e2,Int.mul_neg]at e1;omega
  have ec:(x.2.2-(i-a).fmod k+k-1).fdiv k=bE k i (a+x.2.2)-bE k i a:=Ri hk (by rw[Int.mul_sub];omega) (by rw[Int.mul_sub];omega);rw[ec];by_cases q:bE k i a<bE k i (a+x.2.2)
  ·have q3:k*(bE k i a+1)≤k*bE k i (a+x.2.2):=Int.mul_le_mul_of_nonneg_left (by omega) (by omega);rw[Int.mul_add]at q3;have q2:¬x.2.2≤(i-a).fmod k:=by omega
   rw[if_neg q2,if_pos q,e]
  ·have q3:k*bE k i (a+x.2.2)≤k*bE k i a:=Int.mul_le_mul_of_nonneg_left (by omega) (by omega);have q2:x.2.2≤(i-a).fmod k:=by omega
   rw[if_pos q2,if_neg q]
abbrev Ft (x y:Qy):Qy:=(x.1+y.1,x.2+y.2)
def bds:List Ln→Qy→List Qy
 | [],a=>[a]
 | l::r,a=>a::bds r (a.1+l.c,a.2+l.cm)
def Q1:List Ln→Qy
 | []=>(0,0)
 | l::r=>(l.c+(Q1 r).1,l.cm+(Q1 r).2)
abbrev evL (r:List Ln) (t:Nat):List S3:=r.map fun l=>l.at' t
theorem K1 (t:Nat):∀r:List Ln,Zj (evL r t)=(Q1 r).at' t
 | []=>by simp[Zj,Q1,Qy.at']
 | l::r=>by
  have:=K1 t r;simp only[evL,List.map_cons,Zj,Q1,Qy.at']at this ⊢;rw[this,Int.add_mul];omega
theorem U0:∀(r:List Ln) (a:Qy),a∈bds r a
 | [],_=>List.mem_cons_self
 | _::_,_=>List.mem_cons_self
theorem Lf:∀(r:List Ln) (a:Qy),Ft a (Q1 r)∈bds r a
 | [],a=>by simp[bds,Q1,Ft]
 | l::r,a=>by
  have:=Lf r (a.1+l.c,a.2+l.cm);rw[bds];refine List.mem_cons_of_mem _ ?_;simp only[Ft,Q1]at this ⊢;rw[show a.1+(l.c+(Q1 r).1)=a.1+l.c+(Q1 r).1 by omega,show a.2+(l.cm+(Q1 r).2)=a.2+l.cm+(Q1 r).2 by omega];exact this
theorem qfv (r:List Ln) (a z:Qy):bds r (Ft a z)=(bds r z).map (Ft a):=by
 induction r generalizing z with
 | nil=>rfl
 | cons l r ih=>
  rw[bds,bds,List.map_cons];congr 1;rw[← ih];congr 1;simp only[Ft,Prod.mk.injEq];omega
theorem vv (r:List Ln):∀(l:List Ln) (a:Qy) (x:Qy),x∈bds (l++r) a→x∈bds l a∨x∈bds r (Ft a (Q1 l))
 | [],a,x,h=>by
  right;simpa [Q1,Ft] using h
 | l::ls,a,x,h=>by
  rw[List.cons_append,bds]at h;rcases List.mem_cons.mp h with rfl | h
  ·exact .inl List.mem_cons_self
  ·rcases vv r ls _ x h with h | h
   ·exact .inl (List.mem_cons_of_mem _ h)
   ·right;simp only[Ft,Q1]at h ⊢;rw[show a.1+(l.c+(Q1 ls).1)=a.1+l.c+(Q1 ls).1 by omega,show a.2+(l.cm+(Q1 ls).2)=a.2+l.cm+(Q1 ls).2 by omega];exact h
theorem z8 (r:List Ln):∀l:List Ln,Q1 (l++r)=Ft (Q1 l) (Q1 r)
 | []=>by simp[Q1,Ft]
 | l::ls=>by
  rw[List.cons_append,Q1,z8 r ls,Q1];simp only[Ft,Prod.mk.injEq];omega
abbrev qei (l:Ln):Qy:=(l.b+l.s*(l.c-1),l.bm+l.s*l.cm)
def vk (n M:Int) (r:List Ln):List Qy:=(0,0)::(n-1,M)::r.flatMap fun l=>[(l.b,l.bm),qei l]
theorem X8 {n M:Int} {r:List Ln} {x:Qy}:x∈vk n M r↔x=(0,0)∨x=(n-1,M)∨∃l∈r,x=(l.b,l.bm)∨x=qei l:=by
 simp[vk]
structure Iv (M n g w h u:Int) (r:List Ln):Prop where
 ps:∀l∈r,1≤l.c∧0≤l.cm
 mc:∀l∈r,g ∣ l.cm
 mb:∀l∈r,g ∣ l.bm
 st:∀l∈r,l.s ∣ h
 cl:∀x∈bds r (0,0),∀y∈bds r (0,0),kq M n x-kq M n y≤w*M
 en:∀x∈vk n M r,∀y∈vk n M r,kq M n x-kq M n y≤u*M
theorem Fh {g:Int}:∀{r:List Ln} {a:Qy},(∀l∈r,g ∣ l.cm)→g ∣ a.2→∀x∈bds r a,g ∣ x.2
 | [],a,_,ha,x,hx=>by
  rw[bds,List.mem_singleton]at hx;exact hx▸ha
 | l::r,a,h,ha,x,hx=>by
  rw[bds]at hx;rcases List.mem_cons.mp hx with rfl | hx
  ·exact ha
  ·exact Fh (fun y hy=>h y (List.mem_cons_of_mem _ hy)) (show g ∣ a.2+l.cm from Int.dvd_add ha (h l List.mem_cons_self)) x hx
theorem qaO:∀{r:List Ln} {a:Qy},(∀l∈r,1≤l.c∧0≤l.cm)→∀x∈bds r a,a.1≤x.1∧a.2≤x.2∧x.1≤a.1+(Q1 r).1∧x.2≤a.2+(Q1 r).2
 | [],a,_,x,hx=>by
  rw[bds,List.mem_singleton]at hx;subst hx;simp[Q1]
 | l::r,a,h,x,hx=>by
  have hl:=h l List.mem_cons_self;have hh:=fun y hy=>h y (List.mem_cons_of_mem _ hy);rw[bds]at hx;rcases List.mem_cons.mp hx with rfl | hx
  ·have:=qaO (a:=(x.1+l.c,x.2+l.cm)) hh _ (Lf r _);simp only[Q1]at this ⊢;omega
  ·have:=qaO hh x hx;simp only[Q1]at this ⊢;omega
def j3 (β:Qy→Qy) (σ:Int) (τ : Qy):List Ln→Qy→List Ln
 | [],_=>[]
 | l::r,a=>(if (β a).1<(β (a.1+l.c,a.2+l.cm)).1 then [⟨l.b+l.s*(σ * (β a).1 + τ.1-a.1),l.bm+l.s*(σ * (β a).2 + τ.2-a.2),l.s * σ,(β (a.1+l.c,a.2+l.cm)).1-(β a).1,(β (a.1+l.c,a.2+l.cm)).2-(β a).2⟩] else [])++j3 β σ τ r (a.1+l.c,a.2+l.cm)
structure Gen (M n g w f:Int) (β:Qy→Qy) (σ:Int) (τ : Qy) (βt:Nat→Int→Int) (qs:List Qy):Prop where
 ev:∀x∈qs,∀t:Nat,βt t (x.at' t)=(β x).at' t
 mo:∀(t:Nat) (x y:Int),x≤y→βt t x≤βt t y
 mv:∀x∈qs,g ∣ (β x).2
 mf:∀x∈qs,g ∣ σ * (β x).2 + τ.2-x.2
 cl:∀x∈qs,∀y∈qs,kq M n (β x)-kq M n (β y)≤w*M
 f1:∀x∈qs,kq M n (σ * (β x).1 + τ.1-x.1,σ * (β x).2 + τ.2-x.2)≤f*M∧-(f*M)≤kq M n (σ * (β x).1 + τ.1-x.1,σ * (β x).2 + τ.2-x.2)
 f2:∀x∈qs,kq M n (σ * (β x).1 + τ.1-x.1 - σ + 1,σ * (β x).2 + τ.2-x.2)≤f*M∧-(f*M)≤kq M n (σ * (β x).1 + τ.1-x.1 - σ + 1,σ * (β x).2 + τ.2-x.2)
theorem Gen.sub {M n g w f:Int} {β:Qy→Qy} {σ:Int} {τ : Qy} {βt:Nat→Int→Int} {qs qs':List Qy} (G:Gen M n g w f β σ τ βt qs) (h:∀x∈qs',x∈qs):Gen M n g w f β σ τ βt qs':=
 ⟨fun x hx=>G.ev x (h x hx),G.mo,fun x hx=>G.mv x (h x hx),fun x hx=>G.mf x (h x hx),fun x hx y hy=>G.cl x (h x hx) y (h y hy),fun x hx=>G.f1 x (h x hx),fun x hx=>G.f2 x (h x hx)⟩
theorem Gen.st {M n d g w f:Int} {β:Qy→Qy} {σ:Int} {τ : Qy} {βt:Nat→Int→Int} {qs:List Qy} (hM:M=d*g) (hg:0<g) (hd:0<d) (hw:0≤w) (hn:d*w+1≤n) (G:Gen M n g w f β σ τ βt qs) {x y:Qy} (hx:x∈qs) (hy:y∈qs) :
  (0≤(β y).2-(β x).2∧0<(β y).1-(β x).1)∨(β y).2-(β x).2=0∨((β y).2-(β x).2≤0∧(β y).1-(β x).1<0):=by
 have h1:=G.cl x hx y hy;have h2:=G.cl y hy x hx;refine steady hM hg hd hw hn (Int.dvd_sub (G.mv y hy) (G.mv x hx)) ?_ ?_<;>simp only[kq,Int.sub_mul]at h1 h2 ⊢<;>omega
theorem qcX {M n d g w f:Int} {β:Qy→Qy} {σ:Int} {τ : Qy} {βt:Nat→Int→Int} (hM:M=d*g) (hg:0<g) (hd:0<d) (hw:0≤w) (hn:d*w+1≤n) (t:Nat):∀(r:List Ln) (a:Qy),Gen M n g w f β σ τ βt (bds r a)→
  qgS (βt t) σ (τ.at' t) (evL r t) (a.at' t)=evL (j3 β σ τ r a) t
 | [],a,_=>rfl
 | l::r,a,G=>by
  have m1:a∈bds (l::r) a:=U0 _ _;have m2:(a.1+l.c,a.2+l.cm)∈bds (l::r) a:=by rw[bds];exact List.mem_cons_of_mem _ (U0 _ _)
  have e1:=G.ev a m1 t;have e2:=G.ev _ m2 t;have ih:=qcX (d:=d) hM hg hd hw hn t r (a.1+l.c,a.2+l.cm) (G.sub fun x hx=>by rw[bds];exact List.mem_cons_of_mem _ hx);have ea:Qy.at' (a.1+l.c,a.2+l.cm) t=a.at' t+(l.c+l.cm*(t:Int)):=by
   simp only[Qy.at',Int.add_mul];omega
  have S:=(Ste.of (G.st hM hg hd hw hn m2 m1)) t;rw[ea]at e2 ih;simp only[evL,List.map_cons]at ih ⊢;rw[qgS,j3,List.map_append,ih,e1,e2];congr 1;by_cases q:(β a).1<(β (a.1+l.c,a.2+l.cm)).1
  ·rw[if_pos q,if_pos (by omega)];simp only[List.map_cons,List.map_nil,Ln.at',Qy.at',List.cons.injEq,Prod.mk.injEq,and_true];refine⟨?_,trivial,?_⟩<;>grind
  ·rw[if_neg q,if_neg (by omega)];rfl
theorem qcW {M n d g w f:Int} {β:Qy→Qy} {σ:Int} {τ : Qy} {βt:Nat→Int→Int} (hM:M=d*g) (hg:0<g) (hd:0<d) (hw:0≤w) (hn:d*w+1≤n):∀(r:List Ln) (a:Qy),Gen M n g w f β σ τ βt (bds r a)→(∀l∈r,1≤l.c∧0≤l.cm)→
  ∀x∈bds (j3 β σ τ r a) (β a),∃y∈bds r a,x=β y
 | [],a,_,_,x,hx=>by
  rw[j3,bds,List.mem_singleton]at hx;exact⟨a,List.mem_cons_self,hx⟩
 | l::r,a,G,hp,x,hx=>by
  have m1:a∈bds (l::r) a:=U0 _ _;have m2:(a.1+l.c,a.2+l.cm)∈bds (l::r) a:=by rw[bds];exact List.mem_cons_of_mem _ (U0 _ _)
  have G':=G.sub (qs':=bds r (a.1+l.c,a.2+l.cm)) fun x hx=>by rw[bds];exact List.mem_cons_of_mem _ hx
  have ih:=qcW hM hg hd hw hn r _ G' (fun y hy=>hp y (List.mem_cons_of_mem _ hy));rw[j3]at hx;by_cases q:(β a).1<(β (a.1+l.c,a.2+l.cm)).1
  ·rw[if_pos q,List.singleton_append,bds]at hx;rcases List.mem_cons.mp hx with rfl | hx
   ·exact⟨a,m1,rfl⟩
   ·simp only[show ∀u v:Int,u+(v-u)=v from fun u v=>by omega]at hx;obtain⟨y,hy,e⟩:=ih x hx;exact⟨y,by rw[bds];exact List.mem_cons_of_mem _ hy,e⟩
  ·rw[if_neg q,List.nil_append]at hx;have e0:=G.ev a m1 0;have e1:=G.ev _ m2 0;have mo:=G.mo 0 (a.at' 0) (Qy.at' (a.1+l.c,a.2+l.cm) 0) (by have:=hp l List.mem_cons_self;simp[Qy.at'];omega);rw[e0,e1]at mo;simp only[Qy.at',Int.natCast_zero,Int.mul_zero,Int.add_zero]at mo;have e:β a=β (a.1+l.c,a.2+l.cm):=qeD (G.st hM hg hd hw hn m1 m2) (by omega);rw[e]at hx;obtain⟨y,hy,e⟩:=ih x hx;exact⟨y,by rw[bds];exact List.mem_cons_of_mem _ hy,e⟩
theorem Bi {β:Qy→Qy} {σ:Int} {τ : Qy}:∀{r:List Ln} {a:Qy} {x:Ln},x∈j3 β σ τ r a→∃l∈r,∃y∈bds r a,(y.1+l.c,y.2+l.cm)∈bds r a∧(β y).1<(β (y.1+l.c,y.2+l.cm)).1∧x=⟨l.b+l.s*(σ * (β y).1 + τ.1-y.1),l.bm+l.s*(σ * (β y).2 + τ.2-y.2),l.s * σ,(β (y.1+l.c,y.2+l.cm)).1-(β y).1,(β (y.1+l.c,y.2+l.cm)).2-(β y).2⟩
 | [],a,x,hx=>by rw[j3]at hx;exact nomatch hx
 | l::r,a,x,hx=>by
  rw[j3]at hx;rcases List.mem_append.mp hx with hx | hx
  ·by_cases q:(β a).1<(β (a.1+l.c,a.2+l.cm)).1
   ·rw[if_pos q,List.mem_singleton]at hx;exact⟨l,List.mem_cons_self,a,U0 _ _,by rw[bds];exact List.mem_cons_of_mem _ (U0 _ _),q,hx⟩
   ·rw[if_neg q]at hx;exact nomatch hx
  ·obtain⟨l',h1,y,h2,h3,h4⟩:=Bi hx;exact⟨l',List.mem_cons_of_mem _ h1,y,by rw[bds];exact List.mem_cons_of_mem _ h2,by rw[bds];exact List.mem_cons_of_mem _ h3,h4⟩
theorem qe0 {s h K e:Int} (hs:s ∣ h) (hh:0<h) (h1:K≤e) (h2:-e≤K):s*K≤h*e∧-(h*e)≤s*K:=by
 have a1:s≤h:=Int.le_of_dvd hh hs;have a2:-s≤h:=Int.le_of_dvd hh (Int.neg_dvd.mpr hs);have b1:=Int.mul_nonneg (show 0≤h-s by omega) (show 0≤e+K by omega);have b2:=Int.mul_nonneg (show 0≤h+s by omega) (show 0≤e-K by omega);have b3:=Int.mul_nonneg (show 0≤h-s by omega) (show 0≤e-K by omega);have b4:=Int.mul_nonneg (show 0≤h+s by omega) (show 0≤e+K by omega);constructor<;>grind
theorem Iv.gen {M n g w h u d' g' w' f h' u':Int} {r:List Ln} {β:Qy→Qy} {σ:Int} {τ : Qy} {βt:Nat→Int→Int} (I:Iv M n g w h u r) (hM:M=d'*g') (hg:0<g') (hd:0<d') (hw:0≤w') (hn:d'*w'+1≤n)
  (G:Gen M n g' w' f β σ τ βt (bds r (0,0))) (h0:β (0,0)=(0,0)) (hgg:g' ∣ g) (hh:0<h) (hh':h'=h * σ) (hu:u+2*h*f≤u') (hf:0≤f) :
  Iv M n g' w' h' u' (j3 β σ τ r (0,0)):=by
 have hM0:0<M:=hM▸Int.mul_pos hd hg;have near:∀x∈vk n M (j3 β σ τ r (0,0)),∃y∈vk n M r,kq M n x-kq M n y≤h*(f*M)∧-(h*(f*M))≤kq M n x-kq M n y:=by
  intro x hx;have hz:0≤h*(f*M):=Int.mul_nonneg (by omega) (Int.mul_nonneg hf (by omega));rcases X8.mp hx with e | e | ⟨l',hl',e⟩
  ·exact⟨(0,0),X8.mpr (.inl rfl),by subst e;simp only[kq];omega⟩
  ·exact⟨(n-1,M),X8.mpr (.inr (.inl rfl)),by subst e;simp only[kq];omega⟩
  ·obtain⟨l,h1,y,h2,h3,_,h4⟩:=Bi hl';have hs:=I.st l h1;rcases e with e | e
   ·refine⟨(l.b,l.bm),X8.mpr (.inr (.inr ⟨l,h1,.inl rfl⟩)),?_⟩;obtain⟨k1,k2⟩:=G.f1 y h2;have:=qe0 hs hh k1 k2;subst e h4;simp only[kq]at this ⊢;grind
   ·refine⟨qei l,X8.mpr (.inr (.inr ⟨l,h1,.inr rfl⟩)),?_⟩;obtain⟨k1,k2⟩:=G.f2 _ h3;have:=qe0 hs hh k1 k2;subst e h4;simp only[kq]at this ⊢;grind
 have sb:=qcW hM hg hd hw hn r (0,0) G I.ps;rw[h0]at sb;refine⟨fun x hx=>?_,fun x hx=>?_,fun x hx=>?_,fun x hx=>?_,fun x hx y hy=>?_,fun x hx y hy=>?_⟩
 ·obtain⟨l,h1,y,h2,h3,h4,h5⟩:=Bi hx;subst h5;have:=G.st hM hg hd hw hn h2 h3;simp only;omega
 ·obtain⟨l,h1,y,h2,h3,h4,h5⟩:=Bi hx;subst h5;exact Int.dvd_sub (G.mv _ h3) (G.mv _ h2)
 ·obtain⟨l,h1,y,h2,h3,h4,h5⟩:=Bi hx;subst h5;exact Int.dvd_add (Int.dvd_trans hgg (I.mb l h1)) (Int.dvd_trans (G.mf y h2) (Int.dvd_mul_left _ _))
 ·obtain⟨l,h1,y,h2,h3,h4,h5⟩:=Bi hx;subst h5 hh';exact Int.mul_dvd_mul (I.st l h1) (Int.dvd_refl _)
 ·obtain⟨x',hx',rfl⟩:=sb x hx;obtain⟨y',hy',rfl⟩:=sb y hy;exact G.cl x' hx' y' hy'
 ·obtain⟨x',hx',a1,a2⟩:=near x hx;obtain⟨y',hy',b1,b2⟩:=near y hy;have:=I.en x' hx' y' hy';have c:(u+2*h*f)*M≤u'*M:=Int.mul_le_mul_of_nonneg_right hu (by omega);have e:(u+2*h*f)*M=u*M+2*(h*(f*M)):=by grind
  omega
def Tr (r:List Ln):List Ln:=r.reverse.map fun l=>⟨l.b+l.s*(l.c-1),l.bm+l.s*l.cm,-l.s,l.c,l.cm⟩
theorem qfE (r:List Ln) (t:Nat):Fs (evL r t)=evL (Tr r) t:=by
 simp only[Fs,evL,Tr,← List.map_reverse,List.map_map];apply List.map_congr_left;intro l _;simp only[Function.comp,Ln.at',Prod.mk.injEq,and_true];grind
theorem qaU (r:List Ln):Q1 (Tr r)=Q1 r:=by
 induction r with
 | nil=>rfl
 | cons l r ih=>
  have:Tr (l::r)=Tr r++[⟨l.b+l.s*(l.c-1),l.bm+l.s*l.cm,-l.s,l.c,l.cm⟩]:=by simp[Tr]
  rw[this,z8,ih];simp only[Q1,Ft,Prod.mk.injEq];omega
theorem zo:∀(r:List Ln) (x:Qy),x∈bds (Tr r) (0,0)→∃y∈bds r (0,0),x=((Q1 r).1-y.1,(Q1 r).2-y.2)
 | [],x,h=>⟨(0,0),List.mem_cons_self,by simpa [Tr,bds,Q1] using h⟩
 | l::r,x,h=>by
  have e:Tr (l::r)=Tr r++[⟨l.b+l.s*(l.c-1),l.bm+l.s*l.cm,-l.s,l.c,l.cm⟩]:=by simp[Tr]
  rw[e]at h;rcases vv _ _ _ _ h with h | h
  ·obtain⟨y,hy,rfl⟩:=zo r x h;refine⟨Ft (l.c,l.cm) y,?_,?_⟩
   ·rw[bds];refine List.mem_cons_of_mem _ ?_;have:=qfv r (l.c,l.cm) (0,0);simp only[Ft,Int.add_zero,Int.zero_add]at this ⊢;rw[this];exact List.mem_map.mpr ⟨y,hy,rfl⟩
   ·simp only[Q1,Prod.mk.injEq];omega
  ·rw[qaU]at h;simp only[bds,Ft,List.mem_cons,List.not_mem_nil,or_false,Int.zero_add]at h;rcases h with rfl | rfl
   ·refine⟨(l.c,l.cm),?_,?_⟩
    ·rw[bds];refine List.mem_cons_of_mem _ ?_;simpa using U0 r (0+l.c,0+l.cm)
    ·simp only[Q1,Prod.mk.injEq];omega
   ·refine⟨(0,0),U0 _ _,?_⟩;simp only[Q1,Prod.mk.injEq];omega
theorem Iv.turn {M n g w h u:Int} {r:List Ln} (I:Iv M n g w h u r):Iv M n g w h u (Tr r):=by
 have mt:∀x,x∈Tr r→∃l∈r,x=⟨l.b+l.s*(l.c-1),l.bm+l.s*l.cm,-l.s,l.c,l.cm⟩:=by
  intro x hx;simp only[Tr,List.mem_map,List.mem_reverse]at hx;obtain⟨l,h1,h2⟩:=hx;exact⟨l,h1,h2.symm⟩
 have me:∀x,x∈vk n M (Tr r)→x∈vk n M r:=by
  intro x hx;rcases X8.mp hx with e | e | ⟨l',hl',e⟩
  ·exact X8.mpr (.inl e)
  ·exact X8.mpr (.inr (.inl e))
  ·obtain⟨l,h1,rfl⟩:=mt l' hl';rcases e with e | e
   ·exact X8.mpr (.inr (.inr ⟨l,h1,.inr e⟩))
   ·refine X8.mpr (.inr (.inr ⟨l,h1,.inl ?_⟩));rw[e];simp only[qei,Prod.mk.injEq];grind
 refine⟨fun x hx=>?_,fun x hx=>?_,fun x hx=>?_,fun x hx=>?_,fun x hx y hy=>?_,fun x hx y hy=>I.en x (me x hx) y (me y hy)⟩
 ·obtain⟨l,h1,rfl⟩:=mt x hx;exact I.ps l h1
 ·obtain⟨l,h1,rfl⟩:=mt x hx;exact I.mc l h1
 ·obtain⟨l,h1,rfl⟩:=mt x hx;exact Int.dvd_add (I.mb l h1) (Int.dvd_trans (I.mc l h1) (Int.dvd_mul_left _ _))
 ·obtain⟨l,h1,rfl⟩:=mt x hx;exact Int.neg_dvd.mpr (I.st l h1)
 ·obtain⟨x',hx',rfl⟩:=zo r x hx;obtain⟨y',hy',rfl⟩:=zo r y hy;have:=I.cl y' hy' x' hx';simp only[kq,Int.sub_mul]at this ⊢;omega
theorem Iv.app {M n g w h u ga wa ha ua gb wb hb ub:Int} {l r:List Ln} (A:Iv M n ga wa ha ua l) (B:Iv M n gb wb hb ub r) (h1:g ∣ ga) (h2:g ∣ gb) (h3:ha ∣ h) (h4:hb ∣ h) (hw:w=wa+wb) (hu:u=ua+ub) (hwa:0≤wa*M) (hwb:0≤wb*M) (hua:0≤ua*M) (hub:0≤ub*M):Iv M n g w h u (l++r):=by
 subst hw hu;refine⟨fun x hx=>?_,fun x hx=>?_,fun x hx=>?_,fun x hx=>?_,fun x hx y hy=>?_,fun x hx y hy=>?_⟩
 ·exact (List.mem_append.mp hx).elim (A.ps x) (B.ps x)
 ·exact (List.mem_append.mp hx).elim (fun k=>Int.dvd_trans h1 (A.mc x k)) (fun k=>Int.dvd_trans h2 (B.mc x k))
 ·exact (List.mem_append.mp hx).elim (fun k=>Int.dvd_trans h1 (A.mb x k)) (fun k=>Int.dvd_trans h2 (B.mb x k))
 ·exact (List.mem_append.mp hx).elim (fun k=>Int.dvd_trans (A.st x k) h3) (fun k=>Int.dvd_trans (B.st x k) h4)
 ·have key:∀x∈bds (l++r) (0,0),x∈bds l (0,0)∨∃z∈bds r (0,0),x=Ft (Q1 l) z:=by
   intro x hx;rcases vv r l _ x hx with hx | hx
   ·exact .inl hx
   ·right;have e:Ft (0,0) (Q1 l)=Ft (Q1 l) (0,0):=by simp[Ft]
    rw[e,qfv]at hx;obtain⟨z,hz,e⟩:=List.mem_map.mp hx;exact⟨z,hz,e.symm⟩
  have ms:Q1 l∈bds l (0,0):=by simpa [Ft] using Lf l (0,0)
  have m0:=U0 r (0,0);rw[Int.add_mul];rcases key x hx with hx | ⟨x',hx',rfl⟩<;>rcases key y hy with hy | ⟨y',hy',rfl⟩
  ·have:=A.cl x hx y hy;omega
  ·have:=A.cl x hx _ ms;have:=B.cl _ m0 y' hy';simp only[kq,Ft,Int.add_mul]at *;omega
  ·have:=A.cl _ ms y hy;have:=B.cl x' hx' _ m0;simp only[kq,Ft,Int.add_mul]at *;omega
  ·have:=B.cl x' hx' y' hy';simp only[kq,Ft,Int.add_mul]at *;omega
 ·have key:∀x∈vk n M (l++r),x∈vk n M l∨x∈vk n M r:=by
   intro x hx;rcases X8.mp hx with e | e | ⟨k,hk,e⟩
   ·exact .inl (X8.mpr (.inl e))
   ·exact .inl (X8.mpr (.inr (.inl e)))
   ·rcases List.mem_append.mp hk with hk | hk
    ·exact .inl (X8.mpr (.inr (.inr ⟨k,hk,e⟩)))
    ·exact .inr (X8.mpr (.inr (.inr ⟨k,hk,e⟩)))
  have a0:((0,0):Qy)∈vk n M l:=X8.mpr (.inl rfl);have b0:((0,0):Qy)∈vk n M r:=X8.mpr (.inl rfl);rw[Int.add_mul];rcases key x hx with hx | hx<;>rcases key y hy with hy | hy
  ·have:=A.en x hx y hy;omega
  ·have:=A.en x hx _ a0;have:=B.en _ b0 y hy;simp only[kq]at *;omega
  ·have:=B.en x hx _ b0;have:=A.en _ a0 y hy;simp only[kq]at *;omega
  ·have:=B.en x hx y hy;omega
def mxQ (x y:Qy):Qy:=if x.1≤y.1 then y else x
def mnQ (x y:Qy):Qy:=if x.1≤y.1 then x else y
theorem qna {x y:Qy} (h:Ste x y) (t:Nat):(mxQ x y).at' t=max (x.at' t) (y.at' t):=by
 have:=h t;unfold mxQ;split<;>omega
theorem qiX {x y:Qy} (h:Ste x y) (t:Nat):(mnQ x y).at' t=min (x.at' t) (y.at' t):=by
 have:=h t;unfold mnQ;split<;>omega
theorem qiS (x y:Qy):mxQ x y=x∨mxQ x y=y:=by unfold mxQ;split<;>simp
theorem qiW (x y:Qy):mnQ x y=x∨mnQ x y=y:=by unfold mnQ;split<;>simp
def clQ (lo hi x:Qy):Qy:=mnQ (mxQ x lo) hi
theorem qoV (lo hi x:Qy):clQ lo hi x=x∨clQ lo hi x=lo∨clQ lo hi x=hi:=by
 unfold clQ;rcases qiW (mxQ x lo) hi with e | e<;>rw[e]
 ·rcases qiS x lo with f | f<;>rw[f]<;>simp
 ·simp
structure Nr (M n g w:Int) (qs:List Qy):Prop where
 cl:∀x∈qs,∀y∈qs,kq M n x-kq M n y≤w*M
 mv:∀x∈qs,g ∣ x.2
theorem Nr.ste {M n d g w:Int} {qs:List Qy} (N:Nr M n g w qs) (hM:M=d*g) (hg:0<g) (hd:0<d) (hw:0≤w) (hn:d*w+1≤n) {x y:Qy} (hx:x∈qs) (hy:y∈qs):Ste x y:=by
 have h1:=N.cl x hx y hy;have h2:=N.cl y hy x hx;refine Ste.of (steady hM hg hd hw hn (Int.dvd_sub (N.mv y hy) (N.mv x hx)) ?_ ?_)<;>simp only[kq,Int.sub_mul]at h1 h2 ⊢<;>omega
theorem xk {M n d' g g' w w' h u u':Int} {r:List Ln} (I:Iv M n g w h u r) (hM:M=d'*g') (hg:0<g') (hd:0<d') (hw:0≤w') (hn:d'*w'+1≤n) (hgg:g' ∣ g) (hh:0<h) {lo hi:Qy} (N:Nr M n g' w' (lo::hi::bds r (0,0))) (h1:0≤lo.1) (h2:lo.1≤hi.1) (hu:u+2*h*w'≤u') :
  Iv M n g' w' h u' (j3 (fun x=>((clQ lo hi x).1-lo.1,(clQ lo hi x).2-lo.2)) 1 lo r (0,0))∧∀t:Nat,D2 (evL r t) (lo.at' t) (hi.at' t) 0=evL (j3 (fun x=>((clQ lo hi x).1-lo.1,(clQ lo hi x).2-lo.2)) 1 lo r (0,0)) t:=by
 have mlo:lo∈lo::hi::bds r (0,0):=by simp
 have mhi:hi∈lo::hi::bds r (0,0):=by simp
 have mr:∀x∈bds r (0,0),x∈lo::hi::bds r (0,0):=fun x hx=>by simp[hx]
 have m0:=mr _ (U0 r (0,0));have st:∀{x y},x∈lo::hi::bds r (0,0)→y∈lo::hi::bds r (0,0)→Ste x y:=fun hx hy=>N.ste hM hg hd hw hn hx hy;have mcl:∀x∈bds r (0,0),clQ lo hi x∈lo::hi::bds r (0,0):=by
  intro x hx;rcases qoV lo hi x with e | e | e<;>rw[e]
  ·exact mr x hx
  ·exact mlo
  ·exact mhi
 have lt:∀t:Nat,lo.at' t≤hi.at' t:=fun t=>(st mlo mhi t).mpr h2;have l0:∀t:Nat,0≤lo.at' t:=fun t=>by
  have:=(st m0 mlo t).mpr h1;simpa [Qy.at'] using this
 have ec:∀x∈bds r (0,0),∀t:Nat,(clQ lo hi x).at' t=min (max (x.at' t) (lo.at' t)) (hi.at' t):=by
  intro x hx t;have s1:=st (mr x hx) mlo;have mm:mxQ x lo∈lo::hi::bds r (0,0):=by
   rcases qiS x lo with e | e<;>rw[e]
   ·exact mr x hx
   ·exact mlo
  rw[clQ,qiX (st mm mhi),qna s1]
 have G:Gen M n g' w' w' (fun x=>((clQ lo hi x).1-lo.1,(clQ lo hi x).2-lo.2)) 1 lo (fun t=>bC (lo.at' t) (hi.at' t)) (bds r (0,0)):=by
  refine⟨fun x hx t=>?_,fun t x y hxy=>?_,fun x hx=>?_,fun x hx=>?_,fun x hx y hy=>?_,fun x hx=>?_,fun x hx=>?_⟩
  ·have e:=ec x hx t;simp only[bC];rw[← e];simp only[Qy.at',Int.sub_mul];omega
  ·simp only[bC];omega
  ·exact Int.dvd_sub (N.mv _ (mcl x hx)) (N.mv _ mlo)
  ·have e:1*((clQ lo hi x).2-lo.2)+lo.2-x.2=(clQ lo hi x).2-x.2:=by omega
   simp only[e];exact Int.dvd_sub (N.mv _ (mcl x hx)) (N.mv _ (mr x hx))
  ·have:=N.cl _ (mcl x hx) _ (mcl y hy);simp only[kq,Int.sub_mul]at this ⊢;omega
  ·have a1:=N.cl _ (mcl x hx) _ (mr x hx);have a2:=N.cl _ (mr x hx) _ (mcl x hx);simp only[kq,Int.sub_mul,Int.add_mul,Int.one_mul]at a1 a2 ⊢;omega
  ·have a1:=N.cl _ (mcl x hx) _ (mr x hx);have a2:=N.cl _ (mr x hx) _ (mcl x hx);simp only[kq,Int.sub_mul,Int.add_mul,Int.one_mul]at a1 a2 ⊢;omega
 have h0:((clQ lo hi (0,0)).1-lo.1,(clQ lo hi (0,0)).2-lo.2)=((0,0):Qy):=by
  have ea:∀t:Nat,(clQ lo hi (0,0)).at' t=lo.at' t:=fun t=>by
   rw[ec _ (U0 r (0,0)) t];have:=l0 t;have:=lt t;simp only[Qy.at']at *;omega
  have e0:=ea 0;have e1:=ea 1;simp only[Qy.at']at e0 e1;simp only[Prod.mk.injEq];omega
 refine⟨I.gen hM hg hd hw hn G h0 hgg hh (by omega) hu hw,fun t=>?_⟩;have ge:=qcX hM hg hd hw hn t r (0,0) G;have e0:Qy.at' (0,0) t=0:=by simp[Qy.at']
 rw[e0]at ge;have hp:∀x∈evL r t,0≤x.2.2:=by
  intro x hx;obtain⟨l,hl,rfl⟩:=List.mem_map.mp hx;have:=I.ps l hl;have:=Int.mul_nonneg this.2 (Int.natCast_nonneg t);simp only;omega
 rw[qdm (lt t) _ _ hp,ge]
theorem qbl {M n d' g g' w w' h u u' k i:Int} {r:List Ln} (I:Iv M n g w h u r) (hk:0<k) (h0i:0≤i) (hik:i<k) (hM:M=d'*g') (hg:0<g') (hd:0<d') (hw:0≤w') (hn:d'*w'+1≤n) (hgg:g=k*g') (hh:0<h) (hw':w+k-1≤k*w') (hu:u+2*h*(k-1)≤u') :
  Iv M n g' w' (h*k) u' (j3 (fun x=>(bE k i x.1,x.2 / k)) k (i,0) r (0,0))∧∀t:Nat,Pe (evL r t) k i 0=evL (j3 (fun x=>(bE k i x.1,x.2 / k)) k (i,0) r (0,0)) t:=by
 have hM0:0<M:=hM▸Int.mul_pos hd hg;have mv:∀x∈bds r (0,0),∃z,x.2=k*(g'*z)∧x.2 / k=g'*z:=by
  intro x hx;obtain⟨z,hz⟩:=Fh I.mc (Int.dvd_zero g) x hx;refine⟨z,by rw[hz,hgg,Int.mul_assoc],?_⟩;rw[hz,hgg,Int.mul_assoc,Int.mul_ediv_cancel_left _ (by omega)]
 have bm:∀{x y:Int},x≤y→bE k i x≤bE k i y:=by
  intro x y hxy;obtain⟨a1,a2⟩:=Mz hk i x;obtain⟨a3,a4⟩:=Mz hk i y;have:k*bE k i x<k*(bE k i y+1):=by rw[Int.mul_add];omega
  rw[C0 hk]at this;omega
 have G:Gen M n g' w' (k-1) (fun x=>(bE k i x.1,x.2 / k)) k (i,0) (fun _=>bE k i) (bds r (0,0)):=by
  refine⟨fun x hx t=>?_,fun t x y hxy=>bm hxy,fun x hx=>?_,fun x hx=>?_,fun x hx y hy=>?_,fun x hx=>?_,fun x hx=>?_⟩
  ·obtain⟨z,e1,e2⟩:=mv x hx;obtain⟨a1,a2⟩:=Mz hk i x.1;simp only[Qy.at',e2];unfold bE at a1 a2 ⊢;rw[e1];apply Ri hk<;>grind
  ·obtain⟨z,e1,e2⟩:=mv x hx;simp only[e2];exact Int.dvd_mul_right _ _
  ·obtain⟨z,e1,e2⟩:=mv x hx;simp only[e2];rw[e1];simp
  ·obtain⟨z,e1,e2⟩:=mv x hx;obtain⟨z',e3,e4⟩:=mv y hy;obtain⟨a1,a2⟩:=Mz hk i x.1;obtain⟨b1,b2⟩:=Mz hk i y.1;have c:=I.cl x hx y hy;simp only[kq,e2,e4]at c ⊢;rw[e1,e3]at c;apply Int.le_of_mul_le_mul_left _ hk;have d1:0≤((x.1-i+k-1)-k*bE k i x.1)*M:=Int.mul_nonneg (by omega) (by omega);have d2:0≤(k-1-((y.1-i+k-1)-k*bE k i y.1))*M:=Int.mul_nonneg (by omega) (by omega);have d3:(w+k-1)*M≤(k*w')*M:=Int.mul_le_mul_of_nonneg_right hw' (by omega);grind
  ·obtain⟨z,e1,e2⟩:=mv x hx;obtain⟨a1,a2⟩:=Mz hk i x.1;simp only[kq,e2];rw[e1];have d1:0≤(k*bE k i x.1+i-x.1)*M:=Int.mul_nonneg (by omega) (by omega);have d2:0≤(k-1-(k*bE k i x.1+i-x.1))*M:=Int.mul_nonneg (by omega) (by omega);constructor<;>grind
  ·obtain⟨z,e1,e2⟩:=mv x hx;obtain⟨a1,a2⟩:=Mz hk i x.1;simp only[kq,e2];rw[e1];have d1:0≤(-(k*bE k i x.1+i-x.1-k+1))*M:=Int.mul_nonneg (by omega) (by omega);have d2:0≤(k-1+(k*bE k i x.1+i-x.1-k+1))*M:=Int.mul_nonneg (by omega) (by omega);constructor<;>grind
 have h0:((bE k i 0,0 / k):Qy)=(0,0):=by
  have:bE k i 0=0:=Ri hk (by omega) (by omega);simp[this]
 refine⟨I.gen hM hg hd hw hn G h0 ⟨k,by rw[hgg,Int.mul_comm]⟩ hh rfl hu (by omega),fun t=>?_⟩;have ge:=qcX hM hg hd hw hn t r (0,0) G;have e0:Qy.at' (0,0) t=0:=by simp[Qy.at']
 have e1:Qy.at' (i,0) t=i:=by simp[Qy.at']
 rw[e0,e1]at ge;rw[qaJ hk,ge]
def IvN (Mo:Nat) (n:Int) (a:Nm) (r:List Ln):Prop:=Iv Mo n ((Mo:Int) / a.d) a.w a.h a.u r
theorem qlT {Mo d:Nat} (hM:0<Mo) (h:d ∣ Mo):(Mo:Int)=d*((Mo:Int) / d)∧0<(Mo:Int) / d∧0<(d:Int):=by
 have e:(Mo:Int)=d*((Mo:Int) / d):=(Int.mul_ediv_cancel' (Int.natCast_dvd_natCast.mpr h)).symm;have hd:0<d:=Nat.pos_of_dvd_of_pos h hM;refine⟨e,?_,by omega⟩;exact Int.ediv_pos_of_pos_of_dvd (by omega) (by omega) (Int.natCast_dvd_natCast.mpr h)
theorem qoj {Mo d k:Nat} (hk:0<k) (h:d*k ∣ Mo):(Mo:Int) / d=k*((Mo:Int) / (d*k:Nat)):=by
 obtain⟨z,rfl⟩:=h;by_cases hd:d=0
 ·subst hd;simp
 ·have e1:((d*k*z:Nat):Int)=(d:Int)*(k*z):=by push_cast;rw[Int.mul_assoc]
  have e2:((d*k*z:Nat):Int)=((d*k:Nat):Int)*z:=by push_cast;rfl
  rw[e1,Int.mul_ediv_cancel_left _ (by omega),← e1,e2,Int.mul_ediv_cancel_left _ (by have:=Nat.mul_pos (Nat.pos_of_ne_zero hd) hk;omega)]
theorem qrB {Mo d d':Nat} (hM:0<Mo) (h1:d ∣ d') (h2:d' ∣ Mo):((Mo:Int) / d') ∣ ((Mo:Int) / d):=by
 obtain⟨k,rfl⟩:=h1;have hk:0<k:=by
  apply Nat.pos_of_ne_zero;intro e;subst e;rw[Nat.mul_zero]at h2;have:=Nat.eq_zero_of_zero_dvd h2;omega
 rw[qoj hk h2];exact Int.dvd_mul_left _ _
theorem xu (r:List Ln):Q1 r∈bds r (0,0):=by
 have:=Lf r (0,0);simpa [Ft] using this
structure NG (a b:Nm):Prop where
 d:a.d ∣ b.d
 m:a.m ∣ b.m
 dw:a.d*a.w≤b.d*b.w
structure NOk (a:Nm):Prop where
 d0:0<a.d
 h0:0<a.h
 m0:0<a.m
 dm:a.d ∣ a.m
theorem qqz {w k:Nat} (hk:0<k):w+k-1≤k*((w+2*k-2) / k):=by
 have h1:=Nat.div_add_mod (w+2*k-2) k;have h2:=Nat.mod_lt (w+2*k-2) hk;omega
theorem qch {M W:Nat} {s:Sm} (hs:s.ok M W) {a:Nm} (o:NOk a):NOk (nS s a)∧NG a (nS s a):=by
 have hc:∀b,NOk (nC b a)∧NG a (nC b a):=fun b=>⟨⟨o.d0,o.h0,o.m0,o.dm⟩,Nat.dvd_refl _,Nat.dvd_refl _,Nat.mul_le_mul_left _ (by simp[nC])⟩;cases s with
 | same=>exact⟨o,Nat.dvd_refl _,Nat.dvd_refl _,Nat.le_refl _⟩
 | turn=>exact⟨o,Nat.dvd_refl _,Nat.dvd_refl _,Nat.le_refl _⟩
 | front b=>exact hc b
 | rest b=>exact hc b
 | last b=>exact hc b
 | but b=>exact hc b
 | each k i=>
  have hk:0<k:=hs.1;refine⟨⟨Nat.mul_pos o.d0 hk,Nat.mul_pos o.h0 hk,Nat.lcm_pos o.m0 (Nat.mul_pos o.d0 hk),Nat.dvd_lcm_right _ _⟩,Nat.dvd_mul_right _ _,Nat.dvd_lcm_left _ _,?_⟩;show a.d*a.w≤a.d*k*((a.w+2*k-2) / k);rw[Nat.mul_assoc];have:=qqz (w:=a.w) hk;exact Nat.mul_le_mul_left _ (by omega)
 | block k i=>
  have hk:0<k:=hs.1;refine⟨⟨Nat.mul_pos o.d0 hk,o.h0,Nat.lcm_pos o.m0 (Nat.mul_pos o.d0 hk),Nat.dvd_lcm_right _ _⟩,Nat.dvd_mul_right _ _,Nat.dvd_lcm_left _ _,?_⟩;show a.d*a.w≤a.d*k*(a.w+1);rw[Nat.mul_assoc];refine Nat.mul_le_mul_left _ ?_;have:1*a.w≤k*(a.w+1):=Nat.mul_le_mul hk (Nat.le_succ a.w);omega
theorem qci {a b:Nm} (o:NOk a) (p:NOk b):NOk (nJ a b)∧NG a (nJ a b)∧NG b (nJ a b):=by
 refine⟨⟨Nat.lcm_pos o.d0 p.d0,Nat.lcm_pos o.h0 p.h0,Nat.lcm_pos o.m0 p.m0,?_⟩,⟨Nat.dvd_lcm_left _ _,Nat.dvd_lcm_left _ _,?_⟩,⟨Nat.dvd_lcm_right _ _,Nat.dvd_lcm_right _ _,?_⟩⟩
 ·exact Nat.lcm_dvd (Nat.dvd_trans o.dm (Nat.dvd_lcm_left _ _)) (Nat.dvd_trans p.dm (Nat.dvd_lcm_right _ _))
 ·exact Nat.mul_le_mul (Nat.le_of_dvd (Nat.lcm_pos o.d0 p.d0) (Nat.dvd_lcm_left _ _)) (by simp[nJ])
 ·exact Nat.mul_le_mul (Nat.le_of_dvd (Nat.lcm_pos o.d0 p.d0) (Nat.dvd_lcm_right _ _)) (by simp[nJ])
theorem NG.trans {a b c:Nm} (x:NG a b) (y:NG b c):NG a c:=⟨Nat.dvd_trans x.d y.d,Nat.dvd_trans x.m y.m,Nat.le_trans x.dw y.dw⟩
theorem NG.refl (a:Nm):NG a a:=⟨Nat.dvd_refl _,Nat.dvd_refl _,Nat.le_refl _⟩
theorem Mg {M W:Nat}:∀{p:Ps},p.wf M W→∀{a:Nm},NOk a→NOk (nP p a)∧NG a (nP p a)
 | .nil,_,a,o=>⟨o,NG.refl a⟩
 | .sm s t,h,a,o=>by
  obtain⟨o1,g1⟩:=qch h.1 o;obtain⟨o2,g2⟩:=Mg h.2 o1;exact⟨o2,g1.trans g2⟩
 | .both l r t,h,a,o=>by
  obtain⟨o1,g1⟩:=Mg h.1 o;obtain⟨o2,g2⟩:=Mg h.2.1 o;obtain⟨o3,g3,g4⟩:=qci o1 o2;obtain⟨o5,g5⟩:=Mg h.2.2 o3;exact⟨o5,(g1.trans g3).trans g5⟩
theorem Ld {Mo:Nat} {n:Int} {a:Nm} {r:List Ln} (hM:0<Mo) (o:NOk a) (hm:a.m ∣ Mo) (I:IvN Mo n a r) (b:Nat) (hn:a.d*(a.w+b:Nat)+1≤n) {c lo hi:Qy}
  (hc:c=mnQ ((b:Int),0) (Q1 r)∨c=((Q1 r).1-(mnQ ((b:Int),0) (Q1 r)).1,(Q1 r).2-(mnQ ((b:Int),0) (Q1 r)).2)) (hlo:lo=(0,0)∨lo=c) (hhi:hi=Q1 r∨hi=c)
  (h1:0≤lo.1) (h2:lo.1≤hi.1) :
  ∃r',IvN Mo n (nC b a) r'∧∀t:Nat,D2 (evL r t) (lo.at' t) (hi.at' t) 0=evL r' t:=by
 obtain⟨gM,gg,gd⟩:=qlT hM (Nat.dvd_trans o.dm hm);have hw:(0:Int)≤(a.w+b:Nat):=Int.natCast_nonneg _;have hb:0≤(b:Int)*Mo:=Int.mul_nonneg (Int.natCast_nonneg _) (Int.natCast_nonneg _);have N:Nr Mo n ((Mo:Int) / a.d) (a.w+b:Nat) (lo::hi::bds r (0,0)):=by
  have ms:=xu r;have m0:=U0 r (0,0);have c0:∀x∈bds r (0,0),∀y∈bds r (0,0),kq Mo n x-kq Mo n y≤a.w*Mo:=I.cl;have cn:mnQ ((b:Int),0) (Q1 r)=((b:Int),0)∨mnQ ((b:Int),0) (Q1 r)=Q1 r:=qiW _ _;have ez:((Q1 r).1-(Q1 r).1,(Q1 r).2-(Q1 r).2)=((0,0):Qy):=by simp
  have key:(∀x∈lo::hi::bds r (0,0),x∈bds r (0,0)∨x=((b:Int),0))∨(∀x∈lo::hi::bds r (0,0),x∈bds r (0,0)∨x=((Q1 r).1-b,(Q1 r).2)):=by
   rcases hc with hc | hc
   ·left;have kc:c∈bds r (0,0)∨c=((b:Int),0):=by
     rw[hc];rcases cn with e | e<;>rw[e]
     ·exact .inr rfl
     ·exact .inl ms
    intro x hx;simp only[List.mem_cons]at hx;rcases hx with rfl | rfl | hx
    ·rcases hlo with rfl | rfl
     ·exact .inl m0
     ·exact kc
    ·rcases hhi with rfl | rfl
     ·exact .inl ms
     ·exact kc
    ·exact .inl hx
   ·right;have kc:c∈bds r (0,0)∨c=((Q1 r).1-b,(Q1 r).2):=by
     rw[hc];rcases cn with e | e<;>rw[e]
     ·exact .inr (by simp)
     ·rw[ez];exact .inl m0
    intro x hx;simp only[List.mem_cons]at hx;rcases hx with rfl | rfl | hx
    ·rcases hlo with rfl | rfl
     ·exact .inl m0
     ·exact kc
    ·rcases hhi with rfl | rfl
     ·exact .inl ms
     ·exact kc
    ·exact .inl hx
  have c00:=c0 _ m0 _ m0;have ew:((a.w+b:Nat):Int)*Mo=a.w*Mo+b*Mo:=by push_cast;rw[Int.add_mul]
  rcases key with key | key
  ·refine⟨fun x hx y hy=>?_,fun x hx=>?_⟩
   ·rw[ew];rcases key x hx with kx | kx<;>rcases key y hy with ky | ky
    ·have:=c0 x kx y ky;omega
    ·have:=c0 x kx _ m0;subst ky;simp only[kq]at *;omega
    ·have:=c0 _ m0 y ky;subst kx;simp only[kq]at *;omega
    ·subst kx ky;simp only[kq]at *;omega
   ·rcases key x hx with kx | kx
    ·exact Fh I.mc (Int.dvd_zero _) x kx
    ·subst kx;exact Int.dvd_zero _
  ·refine⟨fun x hx y hy=>?_,fun x hx=>?_⟩
   ·rw[ew];rcases key x hx with kx | kx<;>rcases key y hy with ky | ky
    ·have:=c0 x kx y ky;omega
    ·have:=c0 x kx _ ms;subst ky;simp only[kq,Int.sub_mul]at *;omega
    ·have:=c0 _ ms y ky;subst kx;simp only[kq,Int.sub_mul]at *;omega
    ·subst kx ky;simp only[kq]at *;omega
   ·rcases key x hx with kx | kx
    ·exact Fh I.mc (Int.dvd_zero _) x kx
    ·subst kx;have:=Fh I.mc (Int.dvd_zero _) _ ms;simpa using this
 have hu:(a.u:Int)+2*a.h*(a.w+b:Nat)≤((nC b a).u:Nat):=by
  simp only[nC];push_cast;have:(2*a.h*(a.w+b+1):Int)=2*a.h*(a.w+b)+2*a.h:=by rw[Int.mul_add];omega
  omega
 obtain⟨r1,r2⟩:=xk I gM gg gd hw hn (Int.dvd_refl _) (by have:=o.h0;omega) N h1 h2 hu;exact⟨_,r1,r2⟩
theorem qh4 {M n g w h u:Int} {r:List Ln} (I:Iv M n g w h u r):0≤(Q1 r).1∧0≤(Q1 r).2:=by
 have:=qaO I.ps _ (xu r);simp only at this;omega
theorem qbw {Mo:Nat} {n:Int} {a:Nm} {r:List Ln} {k i:Nat} (hk:1≤k) (hi:i<k) (hM:0<Mo) (o:NOk a) (hm:a.d*k ∣ Mo) (I:IvN Mo n a r) (hn:(a.d*k:Nat)*(a.w+1:Nat)+1≤n) :
  ∃r',IvN Mo n (nB k a) r'∧∀t:Nat,D2 (evL r t) (((i:Int)*Zj (evL r t)).fdiv k) ((((i:Int)+1)*Zj (evL r t)).fdiv k) 0=evL r' t:=by
 obtain⟨gM,gg,gd⟩:=qlT hM hm;have eg:=qoj hk hm;have ms:=xu r;have m0:=U0 r (0,0);have k0:(0:Int)<k:=by omega
 have snn:=qh4 I;obtain⟨z,hz⟩:=Fh I.mc (Int.dvd_zero _) _ ms;rw[eg,Int.mul_assoc]at hz;generalize hg':(Mo:Int) / (a.d*k:Nat)=g' at *;let qv:Int→Qy:=fun j=>((j*(Q1 r).1).fdiv k,j*(g'*z))
 have qs:∀j:Int,k*(qv j).1≤j*(Q1 r).1∧j*(Q1 r).1<k*(qv j).1+k:=by
  intro j;have e1:=Int.mul_fdiv_add_fmod (j*(Q1 r).1) k;have e2:=Int.fmod_nonneg_of_pos (j*(Q1 r).1) k0;have e3:=Int.fmod_lt_of_pos (j*(Q1 r).1) k0;show k*(j*(Q1 r).1).fdiv k≤_∧_<k*(j*(Q1 r).1).fdiv k+k;omega
 have qat:∀(j:Int) (t:Nat),(j*Zj (evL r t)).fdiv k=(qv j).at' t:=by
  intro j t;obtain⟨b1,b2⟩:=qs j;rw[K1];simp only[Qy.at'];rw[hz];have e2:(qv j).2=j*(g'*z):=rfl;rw[e2];apply Ri k0<;>grind
 have qk:∀j:Int,k*kq Mo n (qv j)≤j*kq Mo n (Q1 r)∧j*kq Mo n (Q1 r)≤k*kq Mo n (qv j)+(k-1)*Mo:=by
  intro j;obtain⟨b1,b2⟩:=qs j;have e2:(qv j).2=j*(g'*z):=rfl;simp only[kq];rw[hz,e2];have d1:0≤(j*(Q1 r).1-k*(qv j).1)*Mo:=Int.mul_nonneg (by omega) (by omega);have d2:0≤(k-1-(j*(Q1 r).1-k*(qv j).1))*Mo:=Int.mul_nonneg (by omega) (by omega);constructor<;>grind
 have c0:∀x∈bds r (0,0),∀y∈bds r (0,0),kq Mo n x-kq Mo n y≤a.w*Mo:=I.cl;have kz:kq (Mo:Int) n (0,0)=0:=by simp[kq]
 have far:∀j:Int,0≤j→j≤k→∀y∈bds r (0,0),kq Mo n (qv j)-kq Mo n y≤(a.w+1)*Mo∧kq Mo n y-kq Mo n (qv j)≤(a.w+1)*Mo:=by
  intro j h1 h2 y hy;obtain⟨q1,q2⟩:=qk j;have a1:=Int.mul_le_mul_of_nonneg_left (c0 _ ms y hy) h1;have a2:=Int.mul_le_mul_of_nonneg_left (c0 _ m0 y hy) (show 0≤(k:Int)-j by omega);have a3:=Int.mul_le_mul_of_nonneg_left (c0 _ hy _ ms) h1;have a4:=Int.mul_le_mul_of_nonneg_left (c0 _ hy _ m0) (show 0≤(k:Int)-j by omega);rw[kz]at a2 a4;have hM':(0:Int)≤Mo:=by omega
  constructor
  ·apply Int.le_of_mul_le_mul_left _ k0;grind
  ·apply Int.le_of_mul_le_mul_left _ k0;grind
 have both:∀j j':Int,(j'=j+1∨j=j'+1∨j=j')→kq Mo n (qv j)-kq Mo n (qv j')≤(a.w+1)*Mo:=by
  intro j j' hj;obtain⟨q1,q2⟩:=qk j;obtain⟨q3,q4⟩:=qk j';have a1:=c0 _ ms _ m0;have a2:=c0 _ m0 _ ms;rw[kz]at a1 a2;have hM':(0:Int)≤Mo:=by omega
  have a0:(0:Int)≤a.w*Mo:=Int.mul_nonneg (by omega) hM';have a5:(1:Int)*(a.w*Mo)≤k*(a.w*Mo):=Int.mul_le_mul_of_nonneg_right (by omega) a0;apply Int.le_of_mul_le_mul_left _ k0;rcases hj with rfl | rfl | rfl
  ·grind
  ·grind
  ·have:0≤(k:Int)*((a.w+1)*Mo):=Int.mul_nonneg (by omega) (Int.mul_nonneg (by omega) hM');simpa using this
 have N:Nr Mo n g' (a.w+1:Nat) (qv i::qv (i+1)::bds r (0,0)):=by
  refine⟨fun x hx y hy=>?_,fun x hx=>?_⟩
  ·push_cast;simp only[List.mem_cons]at hx hy;rcases hx with rfl | rfl | hx<;>rcases hy with rfl | rfl | hy
   ·exact both _ _ (by omega)
   ·exact both _ _ (by omega)
   ·exact (far _ (by omega) (by omega) y hy).1
   ·exact both _ _ (by omega)
   ·exact both _ _ (by omega)
   ·exact (far _ (by omega) (by omega) y hy).1
   ·exact (far _ (by omega) (by omega) x hx).2
   ·exact (far _ (by omega) (by omega) x hx).2
   ·have:=c0 x hx y hy;rw[Int.add_mul];omega
  ·simp only[List.mem_cons]at hx;rcases hx with rfl | rfl | hx
   ·exact⟨i*z,by show (i:Int)*(g'*z)=_;grind⟩
   ·exact⟨(i+1)*z,by show ((i:Int)+1)*(g'*z)=_;grind⟩
   ·have:=Fh I.mc (Int.dvd_zero _) x hx;rw[eg]at this;exact Int.dvd_trans (Int.dvd_mul_left _ _) this
 have l0:0≤(qv i).1:=by
  obtain⟨b1,b2⟩:=qs i;have:0≤(i:Int)*(Q1 r).1:=Int.mul_nonneg (by omega) snn.1;have:(k:Int)*0<k*((qv i).1+1):=by rw[Int.mul_add];omega
  rw[C0 k0]at this;omega
 have l1:(qv i).1≤(qv (i+1)).1:=by
  obtain⟨b1,b2⟩:=qs i;obtain⟨b3,b4⟩:=qs (i+1);rw[Int.add_mul]at b3 b4;have:(k:Int)*(qv i).1<k*((qv (i+1)).1+1):=by rw[Int.mul_add];omega
  rw[C0 k0]at this;omega
 have hu:(a.u:Int)+2*a.h*(a.w+1:Nat)≤((nB k a).u:Nat):=by
  simp only[nB];push_cast;grind
 obtain⟨r1,r2⟩:=xk I gM gg gd (Int.natCast_nonneg _) hn (by rw[eg];exact Int.dvd_mul_left _ _) (by have:=o.h0;omega) N l0 l1 hu;have r1':IvN Mo n (nB k a) (j3 (fun x=>((clQ (qv i) (qv (i+1)) x).1-(qv i).1,(clQ (qv i) (qv (i+1)) x).2-(qv i).2)) 1 (qv i) r (0,0)):=by
  have e:(Mo:Int) / ((nB k a).d:Nat)=g':=hg';unfold IvN;rw[e];exact r1
 exact⟨_,r1',fun t=>by rw[qat,qat,r2]⟩
theorem qa6 {M W Mo:Nat} {n:Int} {s:Sm} (hs:s.ok M W) {a:Nm} {r:List Ln} (hM:0<Mo) (o:NOk a) (hm:(nS s a).m ∣ Mo) (hn:((nS s a).d:Int)*(nS s a).w+1≤n) (I:IvN Mo n a r) :
  ∃r',IvN Mo n (nS s a) r'∧∀t:Nat,Cr s (evL r t)=evL r' t:=by
 have snn:=qh4 I;have e0:∀t:Nat,Qy.at' (0,0) t=0:=fun t=>by simp[Qy.at']
 have ms:=xu r;have m0:=U0 r (0,0);have cutc:∀b:Nat,a.m ∣ Mo→(a.d:Int)*(a.w+b:Nat)+1≤n→∀t:Nat,(mnQ ((b:Int),0) (Q1 r)).at' t=min (b:Int) (Zj (evL r t)):=by
  intro b hm hn t;obtain⟨gM,gg,gd⟩:=qlT hM (Nat.dvd_trans o.dm hm);have hS:Ste ((b:Int),0) (Q1 r):=by
   have c1:=I.cl _ ms _ m0;have c2:=I.cl _ m0 _ ms;have hb:0≤(b:Int)*Mo:=Int.mul_nonneg (Int.natCast_nonneg _) (Int.natCast_nonneg _);have mv:=Fh I.mc (Int.dvd_zero _) _ ms;have h1:(0:Int)≤(a.w+b:Nat):=Int.natCast_nonneg _;have ew:((a.w+b:Nat):Int)*Mo=a.w*Mo+b*Mo:=by push_cast;rw[Int.add_mul]
   refine Ste.of (steady gM gg gd h1 hn (by simpa using mv) ?_ ?_)<;>rw[ew]<;>simp only[kq,Int.sub_mul]at c1 c2 ⊢<;>omega
  rw[qiX hS,K1];simp[Qy.at']
 have mn1:∀b:Nat,0≤(mnQ ((b:Int),0) (Q1 r)).1∧(mnQ ((b:Int),0) (Q1 r)).1≤(Q1 r).1:=by
  intro b;unfold mnQ;split<;>(try simp only)<;>omega
 cases s with
 | same=>exact⟨r,I,fun t=>rfl⟩
 | turn=>exact⟨Tr r,I.turn,fun t=>qfE r t⟩
 | front b=>
  have hm':a.m ∣ Mo:=hm;have hn':(a.d:Int)*(a.w+b:Nat)+1≤n:=hn;obtain⟨r',h1,h2⟩:=Ld hM o hm' I b hn' (.inl rfl) (.inl rfl) (.inr rfl) (Int.le_refl _) (mn1 b).1;refine⟨r',h1,fun t=>?_⟩;have:=h2 t;rw[e0,cutc b hm' hn']at this;exact this
 | rest b=>
  have hm':a.m ∣ Mo:=hm;have hn':(a.d:Int)*(a.w+b:Nat)+1≤n:=hn;obtain⟨r',h1,h2⟩:=Ld hM o hm' I b hn' (.inl rfl) (.inr rfl) (.inl rfl) (mn1 b).1 (mn1 b).2;refine⟨r',h1,fun t=>?_⟩;have:=h2 t;rw[cutc b hm' hn',← K1]at this;exact this
 | last b=>
  have hm':a.m ∣ Mo:=hm;have hn':(a.d:Int)*(a.w+b:Nat)+1≤n:=hn;obtain⟨r',h1,h2⟩:=Ld hM o hm' I b hn' (.inr rfl) (.inr rfl) (.inl rfl) (by have:=mn1 b;simp only;omega) (by have:=mn1 b;simp only;omega);refine⟨r',h1,fun t=>?_⟩;have:=h2 t;have e:Qy.at' ((Q1 r).1-(mnQ ((b:Int),0) (Q1 r)).1,(Q1 r).2-(mnQ ((b:Int),0) (Q1 r)).2) t=Zj (evL r t)-min (b:Int) (Zj (evL r t)):=by
   rw[← cutc b hm' hn',K1];simp only[Qy.at',Int.sub_mul];omega
  rw[e,← K1]at this;exact this
 | but b=>
  have hm':a.m ∣ Mo:=hm;have hn':(a.d:Int)*(a.w+b:Nat)+1≤n:=hn;obtain⟨r',h1,h2⟩:=Ld hM o hm' I b hn' (.inr rfl) (.inl rfl) (.inr rfl) (Int.le_refl _) (by have:=mn1 b;simp only;omega);refine⟨r',h1,fun t=>?_⟩;have:=h2 t;have e:Qy.at' ((Q1 r).1-(mnQ ((b:Int),0) (Q1 r)).1,(Q1 r).2-(mnQ ((b:Int),0) (Q1 r)).2) t=Zj (evL r t)-min (b:Int) (Zj (evL r t)):=by
   rw[← cutc b hm' hn',K1];simp only[Qy.at',Int.sub_mul];omega
  rw[e,e0]at this;exact this
 | each k i=>
  have hk:0<k:=hs.1;have hm':a.d*k ∣ Mo:=Nat.dvd_trans (Nat.dvd_lcm_right _ _) hm;obtain⟨gM,gg,gd⟩:=qlT hM hm';have eg:=qoj hk hm';have hw:=qqz (w:=a.w) hk;have hu:(a.u:Int)+2*a.h*((k:Int)-1)≤((nE k a).u:Nat):=by
   simp only[nE];have:((k-1:Nat):Int)=(k:Int)-1:=by omega
   push_cast;rw[this];exact Int.le_refl _
  have hw':(a.w:Int)+k-1≤(k:Int)*((nE k a).w:Nat):=by
   simp only[nE];have h:=Int.ofNat_le.mpr hw;rw[Int.natCast_mul]at h;omega
  have hh:=o.h0;obtain⟨h1,h2⟩:=qbl (k:=(k:Int)) (i:=(i:Int)) (w':=((nE k a).w:Nat)) (u':=((nE k a).u:Nat)) I (by omega) (by omega) (by have:=hs.2.2;omega) gM gg gd (Int.natCast_nonneg _) hn eg (by omega) hw' hu;have h1':IvN Mo n (nE k a) (j3 (fun x=>(bE k i x.1,x.2 / k)) k ((i:Int),0) r (0,0)):=by
   unfold IvN;have e:(((nE k a).h:Nat):Int)=(a.h:Int)*k:=by simp[nE]
   rw[e];exact h1
  exact⟨_,h1',h2⟩
 | block k i=>
  have hm':a.d*k ∣ Mo:=Nat.dvd_trans (Nat.dvd_lcm_right _ _) hm;obtain⟨r',h1,h2⟩:=qbw (i:=i) hs.1 hs.2.2 hM o hm' I hn;exact⟨r',h1,h2⟩
theorem qg9 (l r:List Ln) (t:Nat):evL (l++r) t=evL l t++evL r t:=List.map_append
theorem qm2 {a b:Nm} (g:NG a b) {n:Int} (h:(b.d:Int)*b.w+1≤n):(a.d:Int)*a.w+1≤n:=by
 have:=Int.ofNat_le.mpr g.dw;rw[Int.natCast_mul,Int.natCast_mul]at this;omega
theorem C5 {M W Mo:Nat} {n:Int} (hM:0<Mo):∀{p:Ps} {a:Nm} {r:List Ln},p.wf M W→NOk a→(nP p a).m ∣ Mo→((nP p a).d:Int)*(nP p a).w+1≤n→IvN Mo n a r→
  ∃r',IvN Mo n (nP p a) r'∧∀t:Nat,Jf p (evL r t)=evL r' t
 | .nil,a,r,_,_,_,_,I=>⟨r,I,fun t=>rfl⟩
 | .sm s t,a,r,hp,o,hm,hn,I=>by
  obtain⟨o1,g1⟩:=qch hp.1 o;obtain⟨o2,g2⟩:=Mg hp.2 o1;obtain⟨r1,I1,e1⟩:=qa6 hp.1 hM o (Nat.dvd_trans g2.m hm) (qm2 g2 hn) I;obtain⟨r2,I2,e2⟩:=C5 hM hp.2 o1 hm hn I1;exact⟨r2,I2,fun t=>by rw[Jf,e1,e2]⟩
 | .both l q t,a,r,hp,o,hm,hn,I=>by
  obtain⟨o1,g1⟩:=Mg hp.1 o;obtain⟨o2,g2⟩:=Mg hp.2.1 o;obtain⟨o3,g3,g4⟩:=qci o1 o2;obtain⟨o5,g5⟩:=Mg hp.2.2 o3;obtain⟨r1,I1,e1⟩:=C5 hM hp.1 o (Nat.dvd_trans (g3.trans g5).m hm) (qm2 (g3.trans g5) hn) I;obtain⟨r2,I2,e2⟩:=C5 hM hp.2.1 o (Nat.dvd_trans (g4.trans g5).m hm) (qm2 (g4.trans g5) hn) I;have hz:(0:Int)≤Mo:=by omega
  have nn:∀x:Nat,0≤(x:Int)*Mo:=fun x=>Int.mul_nonneg (by omega) hz;have I3:IvN Mo n (nJ (nP l a) (nP q a)) (r1++r2):=by
   refine Iv.app I1 I2 ?_ ?_ ?_ ?_ ?_ ?_ (nn _) (nn _) (nn _) (nn _)
   ·exact qrB hM g3.d (Nat.dvd_trans o3.dm (Nat.dvd_trans g5.m hm))
   ·exact qrB hM g4.d (Nat.dvd_trans o3.dm (Nat.dvd_trans g5.m hm))
   ·exact Int.natCast_dvd_natCast.mpr (Nat.dvd_lcm_left _ _)
   ·exact Int.natCast_dvd_natCast.mpr (Nat.dvd_lcm_right _ _)
   ·simp[nJ]
   ·simp[nJ]
  obtain⟨r3,I4,e3⟩:=C5 hM hp.2.2 o3 hm hn I3;exact⟨r3,I4,fun t=>by rw[Jf,e1,e2,← qg9,e3]⟩
theorem qbj {M W Mo n:Nat} (hM:0<Mo) {p:Ps} (hp:p.wf M W) (hm:(nP p nm1).m ∣ Mo) (hn:(nP p nm1).d*(nP p nm1).w+1≤n) :
  ∃r,IvN Mo n (nP p nm1) r∧∀t:Nat,Jf p (Xp (n+Mo*t))=evL r t:=by
 have hn':((nP p nm1).d:Int)*(nP p nm1).w+1≤(n:Int):=by
  have:=Int.ofNat_le.mpr hn;push_cast at this;exact this
 have I:IvN Mo n nm1 [⟨0,0,1,n,Mo⟩]:=by
  have hz:(0:Int)<Mo:=by omega
  have e:(Mo:Int) / ((nm1.d:Nat):Int)=Mo:=by simp[nm1]
  unfold IvN;rw[e];refine⟨fun x hx=>?_,fun x hx=>?_,fun x hx=>?_,fun x hx=>?_,fun x hx y hy=>?_,fun x hx y hy=>?_⟩
  ·rw[List.mem_singleton]at hx;subst hx;simp only;omega
  ·rw[List.mem_singleton]at hx;subst hx;exact Int.dvd_refl _
  ·rw[List.mem_singleton]at hx;subst hx;exact Int.dvd_zero _
  ·rw[List.mem_singleton]at hx;subst hx;exact Int.dvd_refl _
  ·have:∀z∈bds [⟨0,0,1,n,Mo⟩] (0,0),kq Mo n z=0:=by
    intro z hz;simp only[bds,List.mem_cons,List.not_mem_nil,or_false]at hz;rcases hz with rfl | rfl<;>simp[kq,Int.mul_comm]
   rw[this x hx,this y hy];simp[nm1]
  ·have:∀z∈vk n Mo [⟨0,0,1,n,Mo⟩],kq Mo n z=0∨kq Mo n z=-Mo:=by
    intro z hz;rcases X8.mp hz with rfl | rfl | ⟨l,hl,e⟩
    ·left;simp[kq]
    ·right;simp only[kq];grind
    ·rw[List.mem_singleton]at hl;subst hl;rcases e with rfl | rfl
     ·left;simp[kq]
     ·right;simp only[kq];grind
   have h1:((nm1.u:Nat):Int)*Mo=Mo:=by simp[nm1]
   rw[h1];rcases this x hx with e | e<;>rcases this y hy with e' | e'<;>rw[e,e']<;>omega
 obtain⟨r,h1,h2⟩:=C5 hM hp ⟨by decide,by decide,by decide,by decide⟩ hm hn' I;refine⟨r,h1,fun t=>?_⟩;rw[← h2 t];congr 1;unfold Xp;rw[if_neg (by omega)];simp[evL,Ln.at']
abbrev qcR (C N:Option L) (S:List D):DL.Env:=[C,N,some (.m (.lst S)),none,none,none]
section
variable {C N:Option L} {S:List D} {u a b:List S3}
theorem qjN (hS:S.length≤1000):bdE (Qg 3) Jr opD (qcR C N (S++[Zv u]))=.ok .nx (qcR C N (S++[Zv u]++[Zv u])):=by
 have z1:L2.atI (S++[Zv u]) (-1)=some (Zv u):=Rp;have z2:(S++[Zv u]).length≤100000:=by simp;omega
 generalize S++[Zv u]=Z at z1 z2 ⊢;simp[Jr,z1,z2]
theorem qjO (hS:S.length≤1000):bdE (Qg 3) Jr Iz (qcR C N (S++[Zv u]++[Zv a]))=.ok .nx (qcR C N (S++[Zv u]++[Zv a]++[Zv u])):=by
 have z3:L2.atI (S++[Zv u]++[Zv a]) (-2)=some (Zv u):=by rw[List.append_assoc];exact qfw
 have z2:(S++[Zv u]++[Zv a]).length≤100000:=by simp;omega
 generalize S++[Zv u]++[Zv a]=Z at z2 z3 ⊢;simp[Jr,z2,z3]
theorem qjM (hS:S.length≤1000) (hab:(a++b).length≤900):bdE (Qg 3) Jr shD (qcR C N (S++[Zv u]++[Zv a]++[Zv b]))=.ok .nx (qcR C N (S++[Zv (a++b)])):=by
 have z2:(S++[Zv u]++[Zv a]++[Zv b]).length≤100000:=by simp;omega
 have z3:(S++[Zv u]++[Zv a]++[Zv b]).getLast?=some (Zv b):=by simp
 have z4:(S++[Zv u]++[Zv a]++[Zv b]).dropLast=S++[Zv u]++[Zv a]:=by simp
 have y3:(S++[Zv u]++[Zv a]).getLast?=some (Zv a):=by simp
 have y4:(S++[Zv u]++[Zv a]).dropLast=S++[Zv u]:=by simp
 generalize S++[Zv u]++[Zv a]++[Zv b]=Z at z2 z3 z4 ⊢;generalize S++[Zv u]++[Zv a]=Y at z4 y3 y4 ⊢;have hm:a.length+b.length≤mx:=qbd (by simp at hab;omega);have hm2:a.length+b.length≤100000:=by simp at hab;omega
 simp[Jr,z2,z3,z4,y3,y4,hm,hm2]
theorem qtq {M W Z:Nat} (hM:M≤1000) (hW:W≤9) {s:Sm} (h:s.ok M W) (ok:Js Z u) (hZ:Z≤10 ^ 60) (hu:u.length≤900):bdE (Qg 3) Jr s.d (qcR C N (S++[Zv u]))=.ok .nx (qcR C N (S++[Zv (Cr s u)])):=by
 have e:=qnr hM hW h ok hZ hu;obtain⟨v,ds,hd,n1,n2,n3,n4⟩:=Ny s;have z1:L2.atI (S++[Zv u]) (-1)=some (Zv u):=Rp;rw[hd]at e ⊢;generalize Zv (Cr s u)=Y at e ⊢;generalize Zv u=X at e z1 ⊢;simp[Jr,n1,n2,n3,z1,e]
end
theorem z9 {M W:Nat} (hM:M≤1000) (hW:W≤9) {C N:Option L}:∀(p:Ps) (u:List S3) (Z:Nat) (S rest:List D),Rf M W Z p u→S.length+p.flat.length≤900→
  Z9 (Qg 3) Jr (p.flat++rest) (qcR C N (S++[Zv u]))=Z9 (Qg 3) Jr rest (qcR C N (S++[Zv (Jf p u)]))
 | .nil,u,Z,S,rest,_,_=>rfl
 | .sm s t,u,Z,S,rest,h,hS=>by
  obtain⟨h1,h2⟩:=h.sm hW;have e0:(Ps.sm s t).flat=s.d::t.flat:=rfl;rw[e0]at hS ⊢;simp only[List.length_cons]at hS;rw[List.cons_append,Q5 (qtq hM hW h1 h.ok h.s1 h.l1)];exact (z9 hM hW t (Cr s u) _ S rest h2 (by omega)).trans rfl
 | .both l r t,u,Z,S,rest,h,hS=>by
  obtain⟨h1,h2,h3,h4⟩:=h.both hW;rw[xi]at hS ⊢;simp only[List.length_cons,List.length_append]at hS;rw[List.cons_append,Q5 (qjN (by omega)),List.append_assoc,List.cons_append,List.append_assoc,List.cons_append];rw[z9 hM hW l u _ (S++[Zv u]) _ h1 (by simp;omega),Q5 (qjO (by omega))];rw[z9 hM hW r u _ (S++[Zv u]++[Zv (Jf l u)]) _ h2 (by simp;omega),Q5 (qjM (by omega) h3)];exact (z9 hM hW t _ _ S rest h4 (by omega)).trans rfl
theorem qct {M:Nat} {p:Ps} (g:Fine M p) {n:Nat} (h:n≤10 ^ 58):Xs [.d (.lst p.flat),.d (.int n)]=.ok (.d (Zv (Jf p (Xp n)))) [.d (.lst p.flat),.d (.int n)]:=by
 have hf:=Sy (p:=p);have hn:=g.np;have e:=z9 g.M1 (Nat.le_refl 9) (C:=some (.d (.lst p.flat))) (N:=some (.d (.int n))) p (Xp n) 1 [] [] (g.rf h) (by simp;omega);simp only[List.append_nil,List.nil_append,xg,qcR]at e;unfold Xs Tj;unfold Xp at e ⊢;generalize Jf p (if n=0 then [] else [((0:Int),(1:Int),(n:Int))])=Y2 at e ⊢;have z0:L2.atI [Zv Y2] 0=some (Zv Y2):=L2.atI_nat (xs:=[Zv Y2]) (j:=0) rfl;generalize Zv Y2=Z2 at e z0 ⊢;by_cases h0:n=0
 ·subst h0;rw[if_pos rfl]at e;simp[Zv]at e;simp[e,z0]
 ·have h1:0<n:=by omega
  rw[if_neg h0]at e;simp[Zv]at e;simp[h1,e,z0]
theorem qgj (xs ys:List Int) (hx:xs.length≤100000) (hy:ys.length≤100000):Qw [.d (.lst (xs.map .int)),.d (.tup (ys.map .int))]=.ok (.d (.bl (decide (xs=ys)))) [.d (.lst (xs.map .int)),.d (.tup (ys.map .int))]:=by
 unfold Qw Jy;by_cases h:xs.length=ys.length
 ·have e:=qcg (a:=.d (.lst (xs.map .int))) (b:=.d (.tup (ys.map .int))) (xa:=_) (xb:=_) xs ys h hy _ rfl
   (fun ρ' hρ=>⟨by simp[hρ]<;>rfl,fun i hi=>⟨_,by simp[hρ]<;>rfl,by simpa using A8 xs i (by omega)⟩⟩)
   (fun ρ' hρ=>⟨by simp[hρ]<;>rfl,⟨_,by simp[hρ]<;>rfl,by simp⟩,fun i hi=>⟨_,by simp[hρ]<;>rfl,by simpa using A8 ys i (by omega)⟩⟩)
  simp[h,e,-List.length_eq_zero_iff];exact qbC h
 ·have h2:=lens h;have h3:¬(xs.length:Int)=ys.length:=by omega
  simp[h3,h2]
theorem Pw {n:Nm} (hd:n.d≤10 ^ 18):Zf [.d (nmI n),.d (nmT n)]=.ok (.d (.bl true)) [.d (nmI n),.d (nmT n)]:=by
 have e1:=qcf [(n.d:Int),n.m,n.w,n.h,n.u] [(n.d:Int),n.m,n.w,n.h,n.u] (by simp) (by simp);have e2:=qgj [(n.d:Int),n.m,n.w,n.h,n.u] [(n.d:Int),n.m,n.w,n.h,n.u] (by simp) (by simp);have e3:=qp ((n.d:Int)*n.w+1) ((n.d:Int)*n.w+1);have m1:Jj (n.d:Int) (n.w:Int):=.inl (l64 hd (Nat.le_refl _));simp at e1 e2 e3;unfold Zf Hb Nw Yb;simp[e1,e2,e3,m1,Uv,Ka,Xu,Jz]
theorem qfp (s:List Int):∃(a:Nm) (s':List Int),(0<a.d∧0<a.m∧0<a.h∧a.d≤12∧a.m≤12∧a.h≤12∧a.w≤9)∧Y6 [.r (.lst (s.map .int))]=.ok (.d (nmT a)) [.r (.lst (s'.map .int))]:=by
 obtain⟨k1,s1,h1,e1⟩:=dr s 12 (by decide);obtain⟨k2,s2,h2,e2⟩:=dr s1 12 (by decide);obtain⟨k3,s3,h3,e3⟩:=dr s2 9 (by decide);obtain⟨k4,s4,h4,e4⟩:=dr s3 12 (by decide);obtain⟨k5,s5,h5,e5⟩:=dr s4 9 (by decide);refine⟨⟨1+k1,1+k2,k3,1+k4,1+k5⟩,s5,by simp only;omega,?_⟩;unfold Y6 Ms;simp at e1 e2 e3 e4 e5;simp[e1,e2,e3,e4,e5,nmT]
theorem qi0 (s:List Int):∃s':List Int,W6 [.r (.lst (s.map .int))]=.ok (.d (.bl true)) [.r (.lst (s'.map .int))]:=by
 obtain⟨a,s1,⟨a1,a2,a3,a4,a5,a6,a7⟩,e1⟩:=qfp s;obtain⟨b,s2,⟨b1,b2,b3,b4,b5,b6,b7⟩,e2⟩:=qfp s1;refine⟨s2,?_⟩;have big:∀{x:Nat},x≤12→x<2 ^ 64:=fun h=>Nat.lt_of_le_of_lt h (by decide);have f1:=Ko a.d b.d a1 (big a4) (big b4);have f2:=Ko a.m b.m a2 (big a5) (big b5);have f3:=Ko a.h b.h a3 (big a6) (big b6);have g1:=Pw (n:=a) (Nat.le_trans a4 (by decide));have g2:=Pw (n:=b) (Nat.le_trans b4 (by decide));have g4:=Pw (n:=nm1) (by decide);have g5:=Pw (n:=⟨1,1,a.w,1,1⟩) (by simp);have oa:NO (a.d*b.d*(a.m*b.m)*(a.h*b.h)) (a.w+1001) a:=by
  refine⟨Nat.mul_pos (Nat.mul_pos (Nat.mul_pos a1 b1) (Nat.mul_pos a2 b2)) (Nat.mul_pos a3 b3),?_,?_,?_,Nat.le_refl _⟩
  ·exact Nat.dvd_trans (Nat.dvd_trans (Nat.dvd_mul_right _ _) (Nat.dvd_mul_right _ (a.m*b.m))) (Nat.dvd_mul_right _ _)
  ·exact Nat.dvd_trans (Nat.dvd_trans (Nat.dvd_mul_right a.m b.m) (Nat.dvd_mul_left _ _)) (Nat.dvd_mul_right _ _)
  ·exact Nat.dvd_trans (Nat.dvd_mul_right a.h b.h) (Nat.dvd_mul_left _ _)
 have ob:NO (a.d*b.d*(a.m*b.m)*(a.h*b.h)) (b.w+1001) b:=by
  refine⟨Nat.mul_pos (Nat.mul_pos (Nat.mul_pos a1 b1) (Nat.mul_pos a2 b2)) (Nat.mul_pos a3 b3),?_,?_,?_,Nat.le_refl _⟩
  ·exact Nat.dvd_trans (Nat.dvd_trans (Nat.dvd_mul_left _ _) (Nat.dvd_mul_right _ (a.m*b.m))) (Nat.dvd_mul_right _ _)
  ·exact Nat.dvd_trans (Nat.dvd_trans (Nat.dvd_mul_left b.m a.m) (Nat.dvd_mul_left _ _)) (Nat.dvd_mul_right _ _)
  ·exact Nat.dvd_trans (Nat.dvd_mul_left b.h a.h) (Nat.dvd_mul_left _ _)
 have hD:a.d*b.d*(a.m*b.m)*(a.h*b.h)≤10 ^ 18:=by
  refine Nat.le_trans (Nat.mul_le_mul (Nat.mul_le_mul (Nat.mul_le_mul a4 b4) (Nat.mul_le_mul a5 b5)) (Nat.mul_le_mul a6 b6)) (by decide)
 have hj:=qqd oa ob hD;have g3:=Pw (n:=nJ a b) (Nat.le_trans (qgr oa ob).d1.2 hD);have ei:=Ba;unfold W6 Mq K0;have ew:((a.w+b.w:Nat):Int)=(a.w:Int)+b.w:=by omega
 have eu:((a.u+b.u:Nat):Int)=(a.u:Int)+b.u:=by omega
 simp only[nmI,nmT,nJ,ew,eu]at e1 e2 hj g1 g2 g3 g4 g5;(try simp at g4)
 (try simp at g5)
 simp[e1,e2,f1,f2,f3,g1,g2,g3,g4,g5,hj,ei]
abbrev lnD (l:Ln) (a:Qy):D:=.ins "StrandLine" [("begin",.int l.b),("step",.int l.s),("count",.int l.c),("begin_move",.int l.bm),("count_move",.int l.cm),("place",.int a.1),("place_move",.int a.2)]
def Ts:List Ln→Qy→List D
 | [],_=>[]
 | l::r,a=>lnD l a::Ts r (a.1+l.c,a.2+l.cm)
theorem yw:∀(r:List Ln) (a:Qy),(Ts r a).length=r.length
 | [],_=>rfl
 | l::r,a=>by rw[Ts,List.length_cons,yw,List.length_cons]
abbrev ro0 (r:List Ln):List D:=r.map fun l=>tr l.b l.s l.c
abbrev ro1 (r:List Ln):List D:=r.map fun l=>tr (l.b+l.bm) l.s (l.c+l.cm)
theorem ev0 (r:List Ln):Zv (evL r 0)=.tup (ro0 r):=by simp[Zv,evL,Function.comp_def]
theorem ev1 (r:List Ln):Zv (evL r 1)=.tup (ro1 r):=by simp[Zv,evL,Function.comp_def]
theorem qfV (l:Ln) (p m:Int):Zw [.r (.ins "StrandLine" []),.d (tr l.b l.s l.c),.d (tr (l.b+l.bm) l.s (l.c+l.cm)),.d (.int p),.d (.int m)] =
  .ok (.d .non) [.r (lnD l (p,m)),.d (tr l.b l.s l.c),.d (tr (l.b+l.bm) l.s (l.c+l.cm)),.d (.int p),.d (.int m)]:=by
 have e1:l.b+l.bm-l.b=l.bm:=by omega
 have e2:l.c+l.cm-l.c=l.cm:=by omega
 unfold Zw Xi;simp[e1,e2]
abbrev qik (F N U:Option L) (A:List D) (a:Qy):DL.Env:=[F,N,U,some (.m (.lst A)),some (.d (.int a.1)),some (.d (.int (a.1+a.2))),none,none]
theorem qbO {F N U:Option L}:∀(r:List Ln) (A:List D) (a:Qy),A.length+r.length≤1000→
  Z9 (K7 2 (Q3 (Qg 6) (Q3 (Qg 7) Wl))) Kc (prT (ro0 r) (ro1 r)) (qik F N U A a)=.ok .nx (qik F N U (A++Ts r a) (a.1+(Q1 r).1,a.2+(Q1 r).2))
 | [],A,a,_=>by simp[prT,Ts,Q1]
 | l::r,A,a,h=>by
  rw[List.length_cons]at h;have hA:A.length≤100000:=by omega
  have ei:=qfV l a.1 a.2;have e0:a.1+a.2-a.1=a.2:=by omega
  have e1:a.1+a.2+(l.c+l.cm)=a.1+l.c+(a.2+l.cm):=by omega
  have e:bdE (K7 2 (Q3 (Qg 6) (Q3 (Qg 7) Wl))) Kc (.tup [tr l.b l.s l.c,tr (l.b+l.bm) l.s (l.c+l.cm)]) (qik F N U A a)=.ok .nx (qik F N U (A++[lnD l a]) (a.1+l.c,a.2+l.cm)):=by
   simp[Kc,hA,e0,ei,e1]
  show Z9 _ _ (prT (tr l.b l.s l.c::ro0 r) (tr (l.b+l.bm) l.s (l.c+l.cm)::ro1 r)) _=_;rw[prT,Q5 e,qbO r _ _ (by simp;omega),Ts,Q1];simp only[List.append_assoc,List.singleton_append,Int.add_assoc]
theorem qd1 {M:Nat} {p:Ps} (g:Fine M p) {n:Nat} {r:List Ln} (hr:r.length≤900) (hk:1*kP p≤10 ^ 18) (hY:1001*2 ^ p.np≤10 ^ 18) (hn:(nP p nm1).d*(nP p nm1).w+1≤n) (h58:n+(nP p nm1).m≤10 ^ 58)
  (r0:Jf p (Xp n)=evL r 0) (r1:Jf p (Xp (n+(nP p nm1).m))=evL r 1) :
  Jd [.d (Bl p),.d (.int n)]=.ok (.m (.lst (Ts r (0,0)))) [.d (Bl p),.d (.int n)]:=by
 have e1:=L5 (M:=M) (W:=9) g.M1 (by decide) p g.wf (by have:=g.dp;omega) hk hY;have e2:=g.strs (n:=n) (by omega);have e3:=g.strs (n:=n+(nP p nm1).m) h58;rw[r0,ev0]at e2;rw[r1,ev1]at e3;have e4:=qbO (F:=some (.d (Bl p))) (N:=some (.d (.int n))) (U:=some (.d (nmI (nP p nm1)))) r [] (0,0) (by simp;omega);have o:=E8 g.M1 g.wf NO1;have m1:Jj ((nP p nm1).d:Int) ((nP p nm1).w:Int):=.inl (l64 o.d1.2 hk);have h1:¬(n:Int)<((nP p nm1).d:Int)*((nP p nm1).w:Int)+1:=by
  have:=Int.ofNat_le.mpr hn;push_cast at this;omega
 have em:((n+(nP p nm1).m:Nat):Int)=(n:Int)+((nP p nm1).m:Nat):=by omega
 rw[em]at e3;unfold Jd V2 Yb X0;unfold ro0 ro1 at *;generalize r.map (fun l=>tr l.b l.s l.c)=R0 at *;generalize r.map (fun l=>tr (l.b+l.bm) l.s (l.c+l.cm))=R1 at *;generalize Ts r (0,0)=LN at *;unfold Bl at *;simp[qik]at e4;simp[e1,e2,e3,e4,m1,h1,Xu,Jz]
theorem qd0 {M:Nat} {p:Ps} (g:Fine M p) (z:Int) (hk:1*kP p≤10 ^ 18) (hY:1001*2 ^ p.np≤10 ^ 18) (hz:z<(nP p nm1).d*(nP p nm1).w+1) :
  Jd [.d (Bl p),.d (.int z)]=.ex ⟨"BadLength",some [("length",.int z)]⟩ [.d (Bl p),.d (.int z)]:=by
 have e1:=L5 (M:=M) (W:=9) g.M1 (by decide) p g.wf (by have:=g.dp;omega) hk hY;have o:=E8 g.M1 g.wf NO1;have m1:Jj ((nP p nm1).d:Int) ((nP p nm1).w:Int):=.inl (l64 o.d1.2 hk);unfold Jd V2 Yb;unfold Bl at *;simp[e1,m1,hz,Xu,Jz]
theorem qfH {f:D} {n:Int} {A:List D} (h:Jd [.d f,.d (.int n)]=.ok (.m (.lst A)) [.d f,.d (.int n)]):Xm [.d f,.d (.int n)]=.ok (.m (.lst [.non,.lst A])) [.d f,.d (.int n)]:=by
 unfold Xm H6;simp[h]
theorem qh0 {f:D} {n:Int} (h:Jd [.d f,.d (.int n)]=.ex ⟨"BadLength",some [("length",.int n)]⟩ [.d f,.d (.int n)]):Xm [.d f,.d (.int n)]=.ok (.m (.lst [.lst [.int n,.bl true,.bl true,.bl false],.non])) [.d f,.d (.int n)]:=by
 unfold Xm H6;simp[h]
def stI:List S3→Int→List Int
 | [],a=>[a]
 | x::r,a=>a::stI r (a+x.2.2)
theorem qbL {R:Option L}:∀(r:List S3) (B:List Int) (a:Int),B.length+r.length≤1000→
  Z9 (Qg 2) Wh (r.map fun x=>tr x.1 x.2.1 x.2.2) [R,some (.m (.lst ((B++[a]).map .int))),none]=.ok .nx [R,some (.m (.lst ((B++stI r a).map .int))),none]
 | [],B,a,_=>by simp[stI]
 | x::r,B,a,h=>by
  rw[List.length_cons]at h;have z:L2.atI ((B++[a]).map D.int) (-1)=some (.int a):=by rw[List.map_append];exact Rp
  have hl:((B++[a]).map D.int).length≤100000:=by simp;omega
  have e:bdE (Qg 2) Wh (tr x.1 x.2.1 x.2.2) [R,some (.m (.lst ((B++[a]).map .int))),none]=.ok .nx [R,some (.m (.lst (((B++[a])++[a+x.2.2]).map .int))),none]:=by
   rw[List.map_append (l₁:=B++[a])];generalize (B++[a]).map D.int=Z at z hl ⊢;simp[Wh,z,hl]
  rw[List.map_cons,Q5 e,qbL r (B++[a]) _ (by simp;omega),stI];simp
theorem En (r:List S3) (hr:r.length≤900):Je [.d (Zv r)]=.ok (.m (.lst ((stI r 0).map .int))) [.d (Zv r)]:=by
 have e:=qbL (R:=some (.d (Zv r))) r [] 0 (by simp;omega);simp only[List.nil_append]at e;unfold Je U9;unfold Zv at *;generalize r.map (fun x=>tr x.1 x.2.1 x.2.2)=X at *;simp at e;simp[e]
theorem qi4 (l:Ln) (a:Qy):Yk [.d (lnD l a),.d (tr l.b l.s l.c),.d (tr (l.b+l.bm) l.s (l.c+l.cm)),.d (.int a.1),.d (.int a.2)]=.ok (.d (.bl true)) [.d (lnD l a),.d (tr l.b l.s l.c),.d (tr (l.b+l.bm) l.s (l.c+l.cm)),.d (.int a.1),.d (.int a.2)]:=by
 have e1:l.b+l.bm-l.b=l.bm:=by omega
 have e2:l.c+l.cm-l.c=l.cm:=by omega
 have e:=qgk [l.b,l.s,l.c,a.1,l.bm,l.cm,a.2] [l.b,l.s,l.c,a.1,l.bm,l.cm,a.2] (by simp) (by simp);simp at e;unfold Yk Uh;simp[e1,e2,e]
theorem qmy (l:Ln) (a:Qy) (t:Nat) (m1:Jj l.bm t) (m2:Jj l.cm t):J6 [.d (lnD l a),.d (.int t)]=.ok (.d (tr (l.b+l.bm*t) l.s (l.c+l.cm*t))) [.d (lnD l a),.d (.int t)]:=by
 unfold J6 J8;simp[m1,m2]
theorem qmW (l:Ln) (a:Qy) (t:Nat) (m1:Jj a.2 t):Xe [.d (lnD l a),.d (.int t)]=.ok (.d (.int (a.1+a.2*t))) [.d (lnD l a),.d (.int t)]:=by
 unfold Xe Xh;simp[m1]
theorem qo9:∀(r:List Ln) (b:Qy) (i:Nat),i<r.length→∃l∈r,∃a∈bds r b,(Ts r b)[i]?=some (lnD l a)∧∀t:Nat,(evL r t)[i]?=some (l.at' t)∧(stI (evL r t) (b.at' t))[i]?=some (a.at' t)
 | [],_,_,h=>by cases h
 | l::r,b,0,_=>⟨l,List.mem_cons_self,b,U0 _ _,rfl,fun t=>⟨rfl,rfl⟩⟩
 | l::r,b,i+1,h=>by
  obtain⟨l',h1,a,h2,h3,h4⟩:=qo9 r (b.1+l.c,b.2+l.cm) i (by simpa using h);refine⟨l',List.mem_cons_of_mem _ h1,a,by rw[bds];exact List.mem_cons_of_mem _ h2,by rw[Ts];simpa using h3,fun t=>⟨?_,?_⟩⟩
  ·simpa using (h4 t).1
  ·have:=(h4 t).2;have e:Qy.at' (b.1+l.c,b.2+l.cm) t=b.at' t+(l.c+l.cm*(t:Int)):=by simp only[Qy.at',Int.add_mul];omega
   rw[e]at this;simpa [stI] using this
structure LB (r:List Ln):Prop where
 len:r.length≤900
 b:∀l∈r,l.b.natAbs≤10 ^ 61∧l.bm.natAbs≤10 ^ 61∧l.s.natAbs≤10 ^ 61∧l.c.natAbs≤10 ^ 61∧l.cm.natAbs≤10 ^ 61∧(l.c-1).natAbs≤10 ^ 61
 e:∀l∈r,(l.bm+l.s*l.cm).natAbs≤10 ^ 61
 p:∀a∈bds r (0,0),a.1.natAbs≤10 ^ 61∧a.2.natAbs≤10 ^ 61
abbrev qdV (A C F T W S:Option L):DL.Env:=[A,C,F,T,W,S,none,none]
theorem qhY {M:Nat} {p:Ps} (g:Fine M p) {r:List Ln} (B:LB r) {f t:Nat} (hf:f≤10 ^ 58) (ht:t≤10 ^ 61) (hr:Jf p (Xp f)=evL r t) :
  Y3 [.d (.lst (Ts r (0,0))),.d (.lst p.flat),.d (.int f),.d (.int t)]=.ok (.d (.bl true)) [.d (.lst (Ts r (0,0))),.d (.lst p.flat),.d (.int f),.d (.int t)]:=by
 have e1:=qct g hf;rw[hr]at e1;have hl:(evL r t).length=r.length:=List.length_map _;have e2:=En (evL r t) (by rw[hl];exact B.len);have hn:=yw r (0,0);have tn:(t:Int).natAbs≤10 ^ 61:=by rw[Int.natAbs_natCast];exact ht
 have lp:Z9 (Qg 6) Mx (Xa 0 r.length) (qdV (some (.d (.lst (Ts r (0,0))))) (some (.d (.lst p.flat))) (some (.d (.int f))) (some (.d (.int t))) (some (.d (Zv (evL r t)))) (some (.d (.lst ((stI (evL r t) 0).map .int))))) =
   .ok .nx (qdV (some (.d (.lst (Ts r (0,0))))) (some (.d (.lst p.flat))) (some (.d (.int f))) (some (.d (.int t))) (some (.d (Zv (evL r t)))) (some (.d (.lst ((stI (evL r t) 0).map .int))))):=by
  refine qfk (fun _=>qdV (some (.d (.lst (Ts r (0,0))))) (some (.d (.lst p.flat))) (some (.d (.int f))) (some (.d (.int t))) (some (.d (Zv (evL r t)))) (some (.d (.lst ((stI (evL r t) 0).map .int))))) fun i hi=>?_;obtain⟨l,h1,a,h2,h3,h4⟩:=qo9 r (0,0) i hi;obtain⟨h5,h6⟩:=h4 t;obtain⟨_,q2,_,_,q5,_⟩:=B.b l h1;obtain⟨_,q8⟩:=B.p a h2;have z1:L2.atI (Ts r (0,0)) (i:Int)=some (lnD l a):=L2.atI_nat h3;have z2:L2.atI ((evL r t).map fun x=>tr x.1 x.2.1 x.2.2) (i:Int)=some (tr (l.b+l.bm*t) l.s (l.c+l.cm*t)):=L2.atI_nat (by rw[List.getElem?_map,h5];rfl);have z3:L2.atI ((stI (evL r t) 0).map D.int) (i:Int)=some (.int (a.1+a.2*t)):=L2.atI_nat (by
   have e0:Qy.at' (0,0) t=0:=by simp[Qy.at']
   rw[e0]at h6;rw[List.getElem?_map,h6];rfl)
  have s1:=qmy l a t (Uw q2 tn) (Uw q5 tn);have s2:=qmW l a t (Uw q8 tn);have n1:=qcf [l.b+l.bm*t,l.s,l.c+l.cm*t] [l.b+l.bm*t,l.s,l.c+l.cm*t] (by simp) (by simp);have n2:=qp (a.1+a.2*t) (a.1+a.2*t);simp at n1 n2;generalize Ts r (0,0)=A1 at *;unfold Zv;generalize (evL r t).map (fun x=>tr x.1 x.2.1 x.2.2)=A2 at *;generalize (stI (evL r t) 0).map D.int=A3 at *;unfold lnD at *;simp[Mx,Uk,Ht,z1,z2,z3,s1,s2,n1,n2]
 unfold Y3 Mn;have hd:((evL r t).map fun x=>tr x.1 x.2.1 x.2.2).length=r.length:=by rw[List.length_map,hl]
 unfold Zv at *;generalize Ts r (0,0)=A1 at *;generalize (evL r t).map (fun x=>tr x.1 x.2.1 x.2.2)=A2 at *;generalize (stI (evL r t) 0).map D.int=A3 at *;have hm:qdO 0 (r.length:Int):=by have:=B.len;unfold qdO;omega
 simp[qdV]at lp;simp[e1,e2,hn,hd,lp,hm]
abbrev qyD (q:Qy):D:=.tup [.int q.1,.int q.2]
theorem qeZ (q:Qy) (qs:List Qy) (n M w:Int) (hl:qs.length≤5000) (hm:∀x∈q::qs,Jj x.1 M∧Jj x.2 n) (hw:Jj w M) (h:∀x∈q::qs,∀y∈q::qs,kq M n x-kq M n y≤w*M) :
  Y4 [.d (.lst ((q::qs).map qyD)),.d (.int n),.d (.int M),.d (.int w)]=.ok (.d (.bl true)) [.d (.lst ((q::qs).map qyD)),.d (.int n),.d (.int M),.d (.int w)]:=by
 have el:∀o4:Option L,fLc (C4 (Qi 0)) [5,6] (K7 2 (Q3 (Qg 5) (Q3 (Qg 6) Wl))) jw (eOp Gi (eOp Kz (Qi 5) (Qi 2)) (eOp Kz (Qi 6) (Qi 1))) [some (.d (.lst ((q::qs).map qyD))),some (.d (.int n)),some (.d (.int M)),some (.d (.int w)),o4,none,none] =
   .ok (.lst ((q::qs).map fun x=>D.int (kq M n x))) [some (.d (.lst ((q::qs).map qyD))),some (.d (.int n)),some (.d (.int M)),some (.d (.int w)),o4,none,none]:=fun o4=>by
  refine qcw (xs:=q::qs) qyD (fun x=>D.int (kq M n x)) (by simp) (by simp) (qbd (by simp;omega)) fun x hx=>?_;obtain⟨m1,m2⟩:=hm x hx;simp[m1,m2,kq]
 obtain⟨a1,a2,a3⟩:=L8 (qs.map (kq M n)) (kq M n q);obtain⟨b1,b2,b3⟩:=L7 (qs.map (kq M n)) (kq M n q);have mm:∀{z:Int},(z=kq M n q∨z∈qs.map (kq M n))→∃x∈q::qs,z=kq M n x:=by
  rintro z (rfl | hz)
  ·exact⟨q,List.mem_cons_self,rfl⟩
  ·obtain⟨x,hx,e⟩:=List.mem_map.mp hz;exact⟨x,List.mem_cons_of_mem _ hx,e.symm⟩
 obtain⟨x,hx,ex⟩:=mm a1;obtain⟨y,hy,ey⟩:=mm b1;have hxy:=h x hx y hy;rw[← ex,← ey]at hxy;have e1:maxD [.lst ((q::qs).map fun x=>D.int (kq M n x))]=some (.int (qcr (kq M n q) (qs.map (kq M n)))):=by
  have hi:=Og ((q::qs).map (kq M n));rw[List.map_map]at hi;have hi:Aj ((q::qs).map fun x=>D.int (kq M n x))=_:=hi;generalize (q::qs).map (fun x=>D.int (kq M n x))=Y at *;unfold maxD;simp[hi,qnh]
 have e2:minD [.lst ((q::qs).map fun x=>D.int (kq M n x))]=some (.int (qco (kq M n q) (qs.map (kq M n)))):=by
  have hi:=Og ((q::qs).map (kq M n));rw[List.map_map]at hi;have hi:Aj ((q::qs).map fun x=>D.int (kq M n x))=_:=hi;generalize (q::qs).map (fun x=>D.int (kq M n x))=Y at *;unfold minD;simp[hi,qqK]
 unfold Y4 Mp;generalize (q::qs).map (fun x=>D.int (kq M n x))=Y at *;generalize (q::qs).map qyD=Z at *;generalize qcr (kq M n q) (qs.map (kq M n))=u at *;generalize qco (kq M n q) (qs.map (kq M n))=v at *;simp[el,e1,e2,hw,hxy]
def enQ (r:List Ln):List Qy:=r.flatMap fun l=>[(l.b,l.bm),qei l]
def plQ:List Ln→Qy→List Qy
 | [],_=>[]
 | l::r,a=>a::plQ r (a.1+l.c,a.2+l.cm)
theorem qb2:∀{r:List Ln} {a x:Qy},x∈plQ r a→x∈bds r a
 | [],_,_,h=>by cases h
 | l::r,a,x,h=>by
  rw[plQ]at h;rw[bds];rcases List.mem_cons.mp h with rfl | h
  ·exact List.mem_cons_self
  ·exact List.mem_cons_of_mem _ (qb2 h)
theorem qb1:∀{r:List Ln} {a:Qy},(plQ r a).length=r.length
 | [],_=>rfl
 | l::r,a=>by rw[plQ,List.length_cons,qb1,List.length_cons]
theorem qdd:∀{r:List Ln},(enQ r).length=2*r.length
 | []=>rfl
 | l::r=>by
  have:=qdd (r:=r);unfold enQ at *;rw[List.flatMap_cons,List.length_append,this];simp;omega
abbrev qbv (A N U S V H W:Option L) (m d:Nat) (w:Option L) (E P:List Qy):DL.Env:=[A,N,U,S,V,some (.d (.int d)),some (.d (.int m)),w,H,W,some (.m (.lst (E.map qyD))),some (.m (.lst (P.map qyD))),none,none,none]
theorem qdy {A N U S V H W w:Option L} {m d:Nat} (hd:d ∣ m) (hm:0<m) (hb:m≤10 ^ 18):∀(r:List Ln) (a:Qy) (E P:List Qy),(∀l∈r,l.s.natAbs≤10 ^ 61∧l.cm.natAbs≤10 ^ 61∧(l.c-1).natAbs≤10 ^ 61)→(∀l∈r,((m:Int) / d) ∣ l.bm∧((m:Int) / d) ∣ l.cm)→E.length+2*r.length≤5000→P.length+r.length≤5000→
  Z9 (Qg 12) Kd (Ts r a) (qbv A N U S V H W m d w E P)=.ok .nx (qbv A N U S V H W m d w (E++enQ r) (P++plQ r a))
 | [],a,E,P,_,_,_,_=>by simp[Ts,enQ,plQ]
 | l::r,a,E,P,hB,hG,hE,hP=>by
  rw[List.length_cons]at hE hP;obtain⟨q1,q2,q3⟩:=hB l List.mem_cons_self;obtain⟨g1,g2⟩:=hG l List.mem_cons_self;have d0:0<d:=Nat.pos_of_dvd_of_pos hd hm;have ih:=qdy (A:=A) (N:=N) (U:=U) (S:=S) (V:=V) (H:=H) (W:=W) (w:=w) hd hm hb r (a.1+l.c,a.2+l.cm) (E++[(l.b,l.bm),qei l]) (P++[a]) (fun x hx=>hB x (List.mem_cons_of_mem _ hx)) (fun x hx=>hG x (List.mem_cons_of_mem _ hx)) (by simp;omega) (by simp;omega);have m1:Jj l.s (l.c-1):=Uw q1 q3;have m2:Jj l.s l.cm:=Uw q1 q2;have dk:Bn (d:Int):=⟨by omega,vt (by rw[Int.natAbs_natCast];exact Nat.le_trans (Nat.le_of_dvd hm hd) (Nat.le_trans hb (by decide)))⟩;have eg:((m:Int)).fdiv (d:Int)=(m:Int) / d:=Int.fdiv_eq_ediv_of_nonneg _ (by omega);have gp:0<(m:Int) / d:=Int.ediv_pos_of_pos_of_dvd (by omega) (by omega) (Int.natCast_dvd_natCast.mpr hd);generalize (m:Int) / d=g at *;have f1:l.bm.fmod g=0:=Int.fmod_eq_zero_of_dvd g1;have f2:(l.bm+l.s*l.cm).fmod g=0:=Int.fmod_eq_zero_of_dvd (Int.dvd_add g1 (Int.dvd_trans g2 (Int.dvd_mul_left _ _)));have g0:g≠0:=by omega
  have l1:(E.map qyD).length≤100000:=by simp;omega
  have l2:(E.map qyD++[qyD (l.b,l.bm)]).length≤100000:=by simp;omega
  have l3:(P.map qyD).length≤100000:=by simp;omega
  have e:bdE (Qg 12) Kd (lnD l a) (qbv A N U S V H W m d w E P)=.ok .nx (qbv A N U S V H W m d w (E++[(l.b,l.bm),qei l]) (P++[a])):=by
   have x1:(E++[(l.b,l.bm),qei l]).map qyD=E.map qyD++[qyD (l.b,l.bm)]++[qyD (qei l)]:=by simp
   have x2:(P++[a]).map qyD=P.map qyD++[qyD a]:=by simp
   unfold qbv;rw[x1,x2];generalize E.map qyD=E' at *;generalize P.map qyD=P' at *;simp at l1 l2 l3;simp[Kd,m1,m2,dk,eg,f1,f2,g0,l1,l2,l3]
  rw[Ts,Q5 e,ih];simp[enQ,plQ]
theorem qdv {r:List Ln} (B:LB r) {n:Nat} {a:Nm} (hn:n≤10 ^ 58) (hm:0<a.m) (hb:a.m≤10 ^ 18) (hd:a.d ∣ a.m) (I:IvN a.m n a r) :
  Yl [.d (.lst (Ts r (0,0))),.d (.int n),.d (nmT a),.d (.int (Q1 r).1),.d (.int (Q1 r).2)]=.ok (.d (.bl true)) [.d (.lst (Ts r (0,0))),.d (.int n),.d (nmT a),.d (.int (Q1 r).1),.d (.int (Q1 r).2)]:=by
 have hl:=B.len;have em:=@qcy a.m (10 ^ 18) hb (Nat.le_refl _);have ma:∀z:Int,Jj z (a.m:Int):=fun z=>.inr (.inl (l64 hb (Nat.le_refl _)));have nb:(n:Int).natAbs≤10 ^ 61:=by rw[Int.natAbs_natCast];exact Nat.le_trans hn (by decide)
 have mbig:((a.m:Nat):Int).natAbs≤10 ^ 61:=m61 hb (Nat.le_refl _);have lp:=qdy (A:=some (.d (.lst (Ts r (0,0))))) (N:=some (.d (.int n))) (U:=some (.d (nmT a))) (S:=some (.d (.int (Q1 r).1))) (V:=some (.d (.int (Q1 r).2))) (H:=some (.d (.int a.h))) (W:=some (.d (.int a.u))) (w:=some (.d (.int a.w)))
  hd hm hb r (0,0) [(0,0),((n:Int)-1,(a.m:Int))] [(0,0),((Q1 r).1,(Q1 r).2)] (fun l h=>by obtain⟨_,_,q3,_,q5,q6⟩:=B.b l h;exact⟨q3,q5,q6⟩) (fun l h=>⟨I.mb l h,I.mc l h⟩) (by simp;omega) (by simp;omega)
 have n1:=qeZ (0,0) (((n:Int)-1,(a.m:Int))::enQ r) n a.m a.u (by simp[qdd];omega) (fun x hx=>⟨ma _,by
   have:x∈vk n a.m r:=hx;rcases X8.mp this with rfl | rfl | ⟨l,h1,rfl | rfl⟩
   ·exact .inl (by simp)
   ·exact Uw mbig nb
   ·obtain⟨_,q2,_⟩:=B.b l h1;exact Uw q2 nb
   ·exact Uw (B.e l h1) nb⟩) (ma _) I.en
 have mem:∀x∈(0,0)::((Q1 r).1,(Q1 r).2)::plQ r (0,0),x∈bds r (0,0):=by
  intro x hx;simp only[List.mem_cons]at hx;rcases hx with rfl | rfl | hx
  ·exact U0 _ _
  ·exact xu r
  ·exact qb2 hx
 have n2:=qeZ (0,0) (((Q1 r).1,(Q1 r).2)::plQ r (0,0)) n a.m a.w (by simp[qb1];omega) (fun x hx=>⟨ma _,Uw (B.p x (mem x hx)).2 nb⟩) (ma _) (fun x hx y hy=>I.cl x (mem x hx) y (mem y hy));unfold Yl Ui;have x1:([(0,0),((n:Int)-1,(a.m:Int))]++enQ r).map qyD=((0,0)::((n:Int)-1,(a.m:Int))::enQ r).map qyD:=rfl;have x2:([(0,0),((Q1 r).1,(Q1 r).2)]++plQ r (0,0)).map qyD=((0,0)::((Q1 r).1,(Q1 r).2)::plQ r (0,0)).map qyD:=rfl;simp only[qbv,x1,x2]at lp;generalize ((0,0)::((n:Int)-1,(a.m:Int))::enQ r).map qyD=E' at *;generalize ((0,0)::((Q1 r).1,(Q1 r).2)::plQ r (0,0)).map qyD=P' at *;generalize Ts r (0,0)=A' at *;simp[nmT]at lp;simp[lp,n1,n2,nmT]
theorem qnD {M:Nat} {p:Ps} (g:Fine M p) {r:List Ln} {n m:Nat} (hn:n≤10 ^ 58) (hm:n+m≤10 ^ 58) (r0:Jf p (Xp n)=evL r 0) (r1:Jf p (Xp (n+m))=evL r 1) (ps:∀l∈r,1≤l.c∧0≤l.cm):LB r:=by
 have k0:=g.rows hn;have k1:=g.rows hm;have pw:1*9 ^ p.np≤10 ^ 60:=g.pw;have hs:∀{k:Nat},k≤10 ^ 58→Zj (Jf p (Xp k))=szQ p k:=fun {k} hk=>by
  rw[z7 (g.rows hk),g.rword hk,g.wlen]
 have s0:=hs hn;have s1:=hs hm;have z0:=g.szle (n:=n);have z1:=g.szle (n:=n+m);rw[r0,K1]at s0;rw[r1,K1]at s1;rw[r0]at k0;rw[r1]at k1;have e58:(10:Nat) ^ 58=10000000000000000000000000000000000000000000000000000000000:=by decide
 have e60:(10:Nat) ^ 60=1000000000000000000000000000000000000000000000000000000000000:=by decide
 have e61:(10:Nat) ^ 61=10000000000000000000000000000000000000000000000000000000000000:=by decide
 rw[e58]at hn hm;rw[e60]at pw;simp only[Qy.at',Int.natCast_zero,Int.mul_zero,Int.add_zero,Int.natCast_one,Int.mul_one]at s0 s1;have key:∀l∈r,St (1*9 ^ p.np) l.b l.s l.c∧St (1*9 ^ p.np) (l.b+l.bm) l.s (l.c+l.cm):=by
  intro l hl;have a0:=k0 (l.at' 0) (List.mem_map.mpr ⟨l,hl,rfl⟩);have a1:=k1 (l.at' 1) (List.mem_map.mpr ⟨l,hl,rfl⟩);simp only[Ln.at',Int.natCast_zero,Int.mul_zero,Int.add_zero,Int.natCast_one,Int.mul_one]at a0 a1;exact⟨a0,a1⟩
 refine⟨?_,fun l hl=>?_,fun l hl=>?_,fun a ha=>?_⟩
 ·have:(evL r 0).length=r.length:=List.length_map _;rw[← this,← r0];exact Nat.le_trans K4 (Nat.le_trans (Nat.mul_le_mul g.lv Lh) (by decide))
 ·obtain⟨a0,a1⟩:=key l hl;have h1:=a0.b0;have h2:=a0.bB;have h3:=a0.c1;have h4:=a0.cB;have h5:=a0.sB;have h6:=a1.b0;have h7:=a1.bB;have h8:=a1.c1;have h9:=a1.cB;rw[e61];omega
 ·obtain⟨a0,a1⟩:=key l hl;have h1:=a0.e0;have h2:=a0.eB;have h3:=a1.e0;have h4:=a1.eB;have e:l.b+l.bm+l.s*(l.c+l.cm-1)=l.b+l.s*(l.c-1)+(l.bm+l.s*l.cm):=by
   rw[show l.c+l.cm-1=(l.c-1)+l.cm by omega,Int.mul_add];omega
  rw[e]at h3 h4;rw[e61];omega
 ·have:=qaO ps a ha;simp only[Int.zero_add]at this;rw[e61];omega
section
variable {o0 o1 o2 o3 o4 o5 o6 o7 o8 o9 o10 o12 o13 o14 o15:Option L}
theorem qgx {r:List Ln} (hl:r.length≤900) :
  Z9 (Qg 16) vz (Xa 0 r.length) [o0,o1,o2,o3,o4,o5,o6,o7,o8,o9,o10,some (.d (.lst (Ts r (0,0)))),some (.d (Zv (evL r 0))),some (.d (Zv (evL r 1))),some (.d (.lst ((stI (evL r 0) 0).map .int))),some (.d (.lst ((stI (evL r 1) 0).map .int))),none,none,none] =
   .ok .nx [o0,o1,o2,o3,o4,o5,o6,o7,o8,o9,o10,some (.d (.lst (Ts r (0,0)))),some (.d (Zv (evL r 0))),some (.d (Zv (evL r 1))),some (.d (.lst ((stI (evL r 0) 0).map .int))),some (.d (.lst ((stI (evL r 1) 0).map .int))),none,none,none]:=by
 refine qfk (fun _=>[o0,o1,o2,o3,o4,o5,o6,o7,o8,o9,o10,some (.d (.lst (Ts r (0,0)))),some (.d (Zv (evL r 0))),some (.d (Zv (evL r 1))),some (.d (.lst ((stI (evL r 0) 0).map .int))),some (.d (.lst ((stI (evL r 1) 0).map .int))),none,none,none]) fun i hi=>?_;obtain⟨l,h1,a,h2,h3,h4⟩:=qo9 r (0,0) i hi;have e0:Qy.at' (0,0) 0=0:=by simp[Qy.at']
 have e1:Qy.at' (0,0) 1=0:=by simp[Qy.at']
 obtain⟨h5,h6⟩:=h4 0;obtain⟨h7,h8⟩:=h4 1;rw[e0]at h6;rw[e1]at h8;have z1:L2.atI (Ts r (0,0)) (i:Int)=some (lnD l a):=L2.atI_nat h3;have z2:L2.atI ((evL r 0).map fun x=>tr x.1 x.2.1 x.2.2) (i:Int)=some (tr l.b l.s l.c):=L2.atI_nat (by rw[List.getElem?_map,h5];simp);have z3:L2.atI ((evL r 1).map fun x=>tr x.1 x.2.1 x.2.2) (i:Int)=some (tr (l.b+l.bm) l.s (l.c+l.cm)):=L2.atI_nat (by rw[List.getElem?_map,h7];simp);have z4:L2.atI ((stI (evL r 0) 0).map D.int) (i:Int)=some (.int a.1):=L2.atI_nat (by rw[List.getElem?_map,h6];simp[Qy.at']);have z5:L2.atI ((stI (evL r 1) 0).map D.int) (i:Int)=some (.int (a.1+a.2)):=L2.atI_nat (by rw[List.getElem?_map,h8];simp[Qy.at']);have ea:a.1+a.2-a.1=a.2:=by omega
 have e:=qi4 l a;unfold Zv;generalize Ts r (0,0)=A1 at *;generalize (evL r 0).map (fun x=>tr x.1 x.2.1 x.2.2)=A2 at *;generalize (evL r 1).map (fun x=>tr x.1 x.2.1 x.2.2)=A3 at *;generalize (stI (evL r 0) 0).map D.int=A4 at *;generalize (stI (evL r 1) 0).map D.int=A5 at *;unfold lnD at *;simp[vz,z1,z2,z3,z4,z5,ea,e]
theorem qgy {p:Ps} {A:List D} {n:Nat} {a:Nm} {ts:List Nat} (hm:a.m≤10 ^ 18) (h:∀t∈ts,Y3 [.d (.lst A),.d (.lst p.flat),.d (.int (n+a.m*t:Nat)),.d (.int t)]=.ok (.d (.bl true)) [.d (.lst A),.d (.lst p.flat),.d (.int (n+a.m*t:Nat)),.d (.int t)]) :
  Z9 (Qg 18) v5 (ts.map fun (t:Nat)=>D.int (t:Int)) [o0,o1,o2,some (.d (.lst p.flat)),o4,some (.d (nmT a)),o6,some (.d (.int n)),o8,o9,o10,some (.d (.lst A)),o12,o13,o14,o15,none,none,none] =
   .ok .nx [o0,o1,o2,some (.d (.lst p.flat)),o4,some (.d (nmT a)),o6,some (.d (.int n)),o8,o9,o10,some (.d (.lst A)),o12,o13,o14,o15,none,none,none]:=by
 refine qg0 fun t ht=>?_;have e:=h t ht;have m1:Jj (a.m:Int) (t:Int):=.inl (l64 hm (Nat.le_refl _));have ec:((n+a.m*t:Nat):Int)=(n:Int)+a.m*t:=by push_cast;rfl
 rw[ec]at e;unfold nmT;simp[v5,m1,e]
end
theorem yd:∀(r:List S3) (a:Int),∃C,stI r a=C++[a+Zj r]
 | [],a=>⟨[],by simp[stI,Zj]⟩
 | x::r,a=>by
  obtain⟨C,hC⟩:=yd r (a+x.2.2);exact⟨a::C,by rw[stI,hC,Zj];simp[Int.add_assoc]⟩
theorem math (ns:List Int) (hns:ns.length≤63):∃bs,qd4 [.d (.ro (ns.map .int))]=.ok (.d (.bl true)) bs:=by
 obtain⟨s0,e0⟩:=qdX ns hns;obtain⟨a,s1,ha,e1⟩:=dr s0 2 (by decide);obtain⟨b,s2,hb,e2⟩:=dr s1 10 (by decide);obtain⟨c,s3,hc,e3⟩:=dr s2 5 (by decide);obtain⟨M,hM,hM2⟩:∃M:Nat,((M:Int)=if a=0 then 9 else 99)∧M≤1000:=by
  by_cases h:a=0
  ·exact⟨9,by simp[h],by decide⟩
  ·exact⟨99,by simp[h],by decide⟩
 obtain⟨p,s4,h1,h2,h3,h4,e4⟩:=qkA s3 (1+b) c M 9 (by omega) (by omega) (by omega) (by decide);have g:Good M p:=⟨hM2,h1,by omega,by omega⟩;have f:=g.fine;have hnp:p.np≤18:=by omega
 have kp:1*kP p≤10 ^ 18:=by
  rw[Nat.one_mul];exact Nat.le_trans (qcE (by decide) h1) (Nat.le_trans (Nat.pow_le_pow_right (by decide) hnp) (by decide))
 have kY:1001*2 ^ p.np≤10 ^ 18:=Nat.le_trans (Nat.mul_le_mul_left _ (Nat.pow_le_pow_right (by decide) hnp)) (by decide);have e5:=qga p (by omega);have e6:=qg5 p f.dp f.np f.lv;have e7:=qgB (show M≤1000 by omega) (show 9≤1000 by decide) p h1 kp kY (by omega);have e8:=L5 (show M≤1000 by omega) (show 9≤1000 by decide) p h1 (by have:=f.dp;omega) kp kY;obtain⟨k,s5,hk,e9⟩:=dr s4 100 (by decide);obtain⟨q,s6,hq,e10⟩:=dr s5 4 (by decide);obtain⟨z1,s7,hz1,qto,e11⟩:=qe2 s6 12 (by decide);obtain⟨x1,rfl⟩:∃j:Nat,z1=(j:Int):=⟨z1.toNat,by omega⟩;obtain⟨y,sy,hy,ey⟩:∃(y:Nat) (sy:List Int),y≤10 ^ 36∧((q=3∧y=x1∧sy=s7)∨(q≠3∧y=0∧sy=s6)):=by
  by_cases h:q=3
  ·refine⟨x1,s7,?_,.inl ⟨h,rfl,rfl⟩⟩;have:(x1:Int)<((1000 ^ 12:Nat):Int):=by exact_mod_cast qto
   have:x1<1000 ^ 12:=by exact_mod_cast this
   exact Nat.le_of_lt (Nat.lt_of_lt_of_le this (by decide))
  ·exact⟨0,s6,by decide,.inr ⟨h,rfl,rfl⟩⟩
 obtain⟨t1,s8,ht1,e12⟩:=dr sy 1000 (by decide);obtain⟨z2,s9,hz2,qtn,e13⟩:=qe2 s8 10 (by decide);obtain⟨t2,rfl⟩:∃j:Nat,z2=(j:Int):=⟨z2.toNat,by omega⟩;have ht2:t2≤10 ^ 30:=by
  have:(t2:Int)<((1000 ^ 10:Nat):Int):=by exact_mod_cast qtn
  have:t2<1000 ^ 10:=by exact_mod_cast this
  exact Nat.le_of_lt (Nat.lt_of_lt_of_le this (by decide))
 obtain⟨v,s10,hv,e14⟩:=dr s9 1000 (by decide);obtain⟨s11,e15⟩:=qi0 s10;have o:=E8 f.M1 h1 NO1;have hw:(nP p nm1).w≤10 ^ 18:=Nat.le_trans (by have:=o.w;omega) kY;have qog:(nP p nm1).d≤10 ^ 18:=Nat.le_trans o.d1.2 kp;have qoe:(nP p nm1).m≤10 ^ 18:=Nat.le_trans o.m1.2 kp;have hdw:(nP p nm1).d*(nP p nm1).w≤10 ^ 36:=Nat.le_trans (Nat.mul_le_mul qog hw) (by decide);obtain⟨ok,_⟩:=Mg (p:=p) h1 (a:=nm1) ⟨by decide,by decide,by decide,by decide⟩;have e16:=Pw qog;have e17:=qh0 (qd0 f (((nP p nm1).d*(nP p nm1).w:Nat)-(v:Int)) kp kY (by push_cast;omega));obtain⟨n,hn⟩:∃n,n=(nP p nm1).d*(nP p nm1).w+1+k+y:=⟨_,rfl⟩;obtain⟨r,I,hr⟩:=qbj o.m1.1 h1 (Nat.dvd_refl (nP p nm1).m) (show (nP p nm1).d*(nP p nm1).w+1≤n by omega);have p58:(10:Nat) ^ 36+1+100+10 ^ 36+10 ^ 18*10 ^ 30≤10 ^ 58:=by decide
 have far:∀t:Nat,t≤10 ^ 30→n+(nP p nm1).m*t≤10 ^ 58:=fun t ht=>by
  have:=Nat.mul_le_mul qoe ht;omega
 have h58:n≤10 ^ 58:=by have:=far 0 (by decide);omega
 have qoi:n+(nP p nm1).m≤10 ^ 58:=by have:=far 1 (by decide);omega
 have r0:Jf p (Xp n)=evL r 0:=by have:=hr 0;rwa [Nat.mul_zero,Nat.add_zero]at this
 have r1:Jf p (Xp (n+(nP p nm1).m))=evL r 1:=by have:=hr 1;rwa [Nat.mul_one]at this
 have B:=qnD f h58 qoi r0 r1 I.ps;have e18:=qfH (qd1 f B.len kp kY (by omega) qoi r0 r1);have e19:=qct f h58;have e20:=qct f qoi;rw[r0]at e19;rw[r1]at e20;have l0:(evL r 0).length=r.length:=List.length_map _;have l1:(evL r 1).length=r.length:=List.length_map _;have e21:=En (evL r 0) (by rw[l0];exact B.len);have e22:=En (evL r 1) (by rw[l1];exact B.len);have e23:=qdv B h58 o.m1.1 qoe ok.dm I;have e24:∀t∈[0,1,t1,t2],Y3 [.d (.lst (Ts r (0,0))),.d (.lst p.flat),.d (.int (n+(nP p nm1).m*t:Nat)),.d (.int t)]=.ok (.d (.bl true)) [.d (.lst (Ts r (0,0))),.d (.lst p.flat),.d (.int (n+(nP p nm1).m*t:Nat)),.d (.int t)]:=by
  intro t ht;have h30:t≤10 ^ 30:=by
   have:1000≤10 ^ 30:=by decide
   simp only[List.mem_cons,List.not_mem_nil,or_false]at ht;rcases ht with rfl | rfl | rfl | rfl<;>omega
  exact qhY f B (far t h30) (Nat.le_trans h30 (by decide)) (hr t)
 have m1:Jj ((nP p nm1).d:Int) ((nP p nm1).w:Int):=.inl (l64 qog (Nat.le_refl _));have z0:=K1 0 r;have z1:=K1 1 r;have a0:L2.atI ((stI (evL r 0) 0).map D.int) (-1)=some (.int (Q1 r).1):=by
  obtain⟨C,hC⟩:=yd (evL r 0) 0;rw[hC,z0,List.map_append];simp[Qy.at']
 have a1:L2.atI ((stI (evL r 1) 0).map D.int) (-1)=some (.int ((Q1 r).1+(Q1 r).2)):=by
  obtain⟨C,hC⟩:=yd (evL r 1) 0;rw[hC,z1,List.map_append];simp[Qy.at']
 have ez:(Q1 r).1+(Q1 r).2-(Q1 r).1=(Q1 r).2:=by omega
 have l2:=fun {u0 u1 u2 u3 u4 u5 u6 u7 u8 u9 u10:Option L}=>qgx (o0:=u0) (o1:=u1) (o2:=u2) (o3:=u3) (o4:=u4) (o5:=u5) (o6:=u6) (o7:=u7) (o8:=u8) (o9:=u9) (o10:=u10) B.len;have l3:=fun {u0 u1 u2 u4 u6 u8 u9 u10 u12 u13 u14 u15:Option L}=>qgy (o0:=u0) (o1:=u1) (o2:=u2) (o4:=u4) (o6:=u6) (o8:=u8) (o9:=u9) (o10:=u10) (o12:=u12) (o13:=u13) (o14:=u14) (o15:=u15) qoe e24;have hl0:((evL r 0).map fun x=>tr x.1 x.2.1 x.2.2).length=r.length:=by rw[List.length_map,l0]
 have hl1:((evL r 1).map fun x=>tr x.1 x.2.1 x.2.2).length=r.length:=by rw[List.length_map,l1]
 have hl2:=yw r (0,0);have hmr:qdO 0 (r.length:Int):=by have:=B.len;unfold qdO;omega
 have eM:L2.atI [D.int 9,D.int 99] (a:Int)=some (.int M):=by
  rw[hM];rcases (show a=0∨a=1 by omega) with rfl | rfl
  ·simp
  ·simp
 have en':((n+(nP p nm1).m:Nat):Int)=(n:Int)+(nP p nm1).m:=by push_cast;rfl
 have en:(n:Int)=(nP p nm1).d*(nP p nm1).w+1+k+y:=by rw[hn];push_cast;rfl
 have eb:(((nP p nm1).d*(nP p nm1).w:Nat):Int)-(v:Int)=(nP p nm1).d*(nP p nm1).w-v:=by push_cast;rfl
 rw[en']at e20;rw[eb]at e17;unfold Zv at *;clear e24 hr r0 r1 I z0 z1 B;generalize Ts r (0,0)=A1 at *;generalize (evL r 0).map (fun x=>tr x.1 x.2.1 x.2.2)=A2 at *;generalize (evL r 1).map (fun x=>tr x.1 x.2.1 x.2.2)=A3 at *;generalize (stI (evL r 0) 0).map D.int=A4 at *;generalize (stI (evL r 1) 0).map D.int=A5 at *;generalize Q1 r=z at *;generalize nP p nm1=N at *;generalize p.flat=F at *;unfold Bl at *;generalize p.ds=DS at *;generalize lv p=lp at *;generalize r.length=rl at *;refine⟨[.d (.ro (ns.map .int))],?_⟩;have et:((1+b:Nat):Int)=1+(b:Int):=by omega
 rw[et]at e4;simp only[Int.cast_ofNat_Int]at e1 e2 e3 e4 e9 e10 e11 e12 e13 e14;simp only[List.map_cons,List.map_nil,Int.natCast_zero,Int.natCast_one]at l3;unfold qd4 qeM;rcases ey with ⟨rfl,rfl,rfl⟩ | ⟨hq3,rfl,rfl⟩
 ·have en2:(N.d:Int)*N.w+1+k+y=n:=en.symm;simp[e0,e1,e2,e3,e4,e5,e6,e7,e8,e9,e10,e11,e12,e13,e14,e15,e16,e17,e18,e19,e20,e21,e22,e23,eM,m1,a0,a1,ez,l2,l3,hl0,hl1,hl2,hmr,en2]
 ·have en2:(N.d:Int)*N.w+1+k=n:=by rw[en];simp
  have hq4:¬(q:Int)=3:=by omega
  simp[e0,e1,e2,e3,e4,e5,e6,e7,e8,e9,e10,e12,e13,e14,e15,e16,e17,e18,e19,e20,e21,e22,e23,eM,m1,a0,a1,ez,l2,l3,hl0,hl1,hl2,hmr,en2,hq4]
end Law
set_option maxHeartbeats 0
open PySem PySem.W PySem.Calls PyProof.Rows
theorem PySem.Challenge.cw_unseenfolds_k13_straight_lines_holds : PySem.Challenge.rw_unseenfolds_k13_straight_lines.Holds := by
 w_on;o_law
 refine HandSHeadRun.head_imp (r:=OpenLaw.row PySem.Challenge.rw_unseenfolds_k13_straight_lines) (q:=view (OpenLaw.row PySem.Challenge.rw_unseenfolds_k13_straight_lines).prog [0,76]) (H:=Law.hk) (ob:=Law.ob) (M:=40000) (loose:=Law.loose) (d:=HandSHeadRun.topDef (OpenLaw.row PySem.Challenge.rw_unseenfolds_k13_straight_lines).prog 76) (kwd:=[]) Law.qmY
  Law.run (by kernel_rfl) (by kernel_rfl) (by kernel_rfl) (by rfl) (by first | assumption | decide +kernel) (by decide +kernel) ⟨rfl,rfl,rfl,rfl,rfl,by decide +kernel⟩ ?hw ?hc
 case hw=>w_witness2
 case hc=>exact DL.qdT (S:=DL.xy Law.fnL Law.msL Law.prL Law.ck) (l:=PySem.Challenge.rw_unseenfolds_k13_straight_lines) (n:=63) (k:=48) (sx:="_law_script") (nm:="law") rfl (by decide) (by kernel_rfl) ⟨rfl,by decide,by decide⟩ (by kernel_rfl) (fun w K mg h X G c=>Law.qkM Law.math (w:=w) X G c)
