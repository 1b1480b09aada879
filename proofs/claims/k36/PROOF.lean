import PyProof.Rows.All
import PySem.Challenge.RW_findlang_k36_merges
import Wide.All
import OpenK.AllK
import Wide.FinOn
import HandS.ForMost
import HandS.ForExc
import HandS.CallSlots
import HandS.ExcInit
import HandS.Wide
import HandS.IsInst
import HandS.Flow
import HandS.Lambda
import HandS.EndTab
import HandS.TupAny
import KE.KExcSuper
import KE.KDflt
import HandS.Style
import KE.KExcIs
import HandS.Property
import HandS.MakeKwOnly
import HandS.ClsMeth
import HandS.Nested
import HandS.HeadHook1
import HandS.Head2
import HandS.More
import HandS.SortRule
import HandS.Iter
import HandS.Deep
import HandS.DictComp
import KE.GoesEnum
import HandS.FStr
import HandS.SetTxt0
import HandS.SetFor
import HandS.SortOrd
import HandS.Strs
import HandS.Conv
import HandS.SortInts
import HandS.GenList
import HandS.Star
import HandS.OwnEq
import HandS.ListEq
import HandS.WordsDict
import HandS.NoneIn
import PyProof.RulesMatch
import HandS.WideBits
import HandS.EndBits
import HandS.RaiseMore
import HandS.Text
import KE.KUnpackStar
import KE.KOpsOwn
import PyProof.WalksMore
import HandS.ExcField
import PyProof.InstStoreFacts
import PyProof.ExcBaseAll.LookupError
import PyProof.ExcBaseAll.ArithmeticError
import HandS.Set
import PyProof.P3Eq
import KE.GoesZip
import KE.GoesMore
import HandS.ListItems
import HandS.Finally
import KE.KDictList
set_option Elab.async false
set_option linter.all false
set_option maxRecDepth 100000
set_option maxHeartbeats 4000000
noncomputable section
open PySem PySem.Spec PySem.W PySem.Calls PyProof.Rows in
set_option maxHeartbeats 0 in
theorem lawAt (h : (OpenLaw.row PySem.Challenge.rw_findlang_k36_merges).wellSaid = true → (OpenLaw.row PySem.Challenge.rw_findlang_k36_merges).Holds) : PySem.Challenge.rw_findlang_k36_merges.Holds := by
  w_on; o_law
  rename_i x
  exact h x
namespace FL
open PySem L2 LamX
abbrev Tx:=List Nat
def toS (x:Tx):Str:=⟨x.toArray⟩
def lit (s:String):Tx:=s.toList.map Char.toNat
inductive DK where
 | i (n:Int) | s (x:Tx)
 deriving DecidableEq
inductive FxM where
 | ro | rc | df
inductive D where
 | non | bl (b:Bool) | int (i:Int) | str (x:Tx)
 | lst (xs:List D) | tup (xs:List D)
 | fx (b:FxM) (ks:List DK) (vs:List D)
 | dct (ks:List DK) (vs:List D)
 | obj (k:Nat)
 | glo (x:String)
 | ty (n:String)
 | exn (c attr:String) (v:D)
 | ins (c:String) (ks:List String) (vs:List D)
 | unk
inductive Own where
 | lst (xs:List D)
 | dct (ks:List DK) (vs:List D)
 | tab (P:Addr) (q:Str)
 | ins (c:String) (kd:Nat) (ks:List String) (vs:List D)
 | idc (k:Nat)
 | tpk (ks:List (List DK))
 | fdc (ks:List DK) (vs:List D)
def Own.d:Own->D
 | .lst xs=>.lst xs
 | .dct ks vs=>.dct ks vs
 | .tab _ _=>.unk
 | .ins _ _ _ _=>.unk
 | .idc _=>.unk
 | .tpk _=>.unk
 | .fdc ks vs=>.dct ks vs
abbrev Mem:=List Own
end FL
namespace FL
open PySem L2
def look (μ:Mem):D->Option D
 | .obj k=>(μ[k]?).map Own.d
 | d=>some d
end FL
namespace FL
open PySem PySem.Spec PyProof.Rows L2
def Z_ (j:Nat):Stmt->Stmt
 | .ClassDef _ _ _ body _ _ _ _ _ _ _=>body.getD j (.Pass ⟨0,0,0,0⟩)
 | s=>s
end FL
namespace FL
open PySem PySem.Spec PyProof.Rows L2 LamX
abbrev QQ:Obj:={ cls:=.none,data:=.fields #[] }
end FL
namespace FL
open PySem PySem.Spec PyProof.Rows L2 LamX
structure Dsc where
 p:Str×Option Str
 x:Str
 qual:Str
 st:Stmt
 clo:List Str
 /-- it has no positional defaults -/
 nd:Bool:=true
def ZM (K:PySem.W.Frag) (p:Str×Option Str):Addr:=match PySem.W.recIn K (He.fAd K p) "property" with
 | some (.ref g :: _)=>g
 | _=>(match PySem.W.recIn K (He.fAd K p) "staticmethod" with
   | some (.ref g :: _)=>g
   | _=>He.fAd K p)
abbrev zt:Type:=Option (Str×Str×Arguments×FuncBody×Scope×Addr×List Str×Addr)
def BB (K:PySem.W.Frag) (p:Str×Option Str):zt:=match K.lookup (ZM K p) with
 | some ⟨_,_,.func fd,_⟩=>some (fd.name,fd.qualname,fd.params,fd.body,fd.scope,fd.globals,fd.closure.map (·.1),fd.builtins)
 | _=>none
def Dsc.val (d:Dsc):zt:=some (d.x,d.qual,defArgs d.st,.stmts (defBody d.st),defScope d.st,mainGlobals,d.clo,builtinsNs)
def Dsc.ok (K:PySem.W.Frag) (d:Dsc):Bool:=match K.lookup (ZM K d.p) with
 | some ⟨_,_,.func fd,_⟩=>PySem.W.codeIn K fd.code d.qual&&(!d.nd||decide (fd.defaults = .none))
 | _=>false
def BA (o:Obj):List Addr:=He.refsO o++match o.data with
 | .func fd=>fd.closure.map (·.2)++He.refV fd.kwdefaults
 | .cell (some v)=>He.refV v
 | _=>[]
def xW (p:Nat×List Addr):List Addr->Nat×List Addr
 | []=>p
 | a :: as=>xW (bif Nat.beq (Nat.mod (Nat.shiftRight p.1 a) 2) 1 then p else (Nat.lor p.1 (Nat.shiftLeft 1 a),a :: p.2)) as
def Ep (g:Addr->Option Obj):Nat->Nat->List Addr->List Addr
 | 0,_,new=>new
 | n+1,seen,new=>(fun p:Nat×List Addr=>new++Ep g n p.1 p.2.reverse) (xW (seen,[]) (new.flatMap fun a=>match g a with
   | some o=>BA o
   | none=>[]))
def tL (g:Addr->Option Obj) (n:Nat):List Addr:=(fun p:Nat×List Addr=>Ep g n p.1 p.2.reverse) (xW (Nat.shiftLeft 1 cStatics,[]) [mainGlobals])++[cStatics]
def Bz (o:Obj):Bool:=match o.cls,o.data with
 | .none,.fields _=>false
 | _,_=>true
def BI (g:Addr->Option Obj) (n:Nat):PySem.W.Frag:=He.frG g ((tL g n).filter fun a=>match g a with
 | some o=>Bz o
 | none=>false)
abbrev BH:Type:=Str×Option Str
def Y_ (K:PySem.W.Frag) (p:BH):Addr:=match K.lookup (ZM K p) with
 | some ⟨_,_,.func fd,_⟩=>(match fd.code with
   | .ref c=>c
   | _=>0)
 | _=>0
def W8 (K:PySem.W.Frag) (p:BH):Addr:=match K.lookup (Y_ K p) with
 | some ⟨_,_,.fields vs,_⟩=>(match (vs[11]?:Option Value) with
   | some (Value.ref P)=>P
   | _=>0)
 | _=>0
abbrev Ml:Type:=List (BH×Str)
def Eo (K:PySem.W.Frag) (ts:Ml):Bool:=(ts.all fun t=>PySem.W.codeHdIn K (Y_ K t.1) (W8 K t.1)&&(K.lookup (W8 K t.1)).isNone)&&decide (ts.map fun t=>W8 K t.1).Nodup
abbrev Em:Type:=Bool×List zt×List (Option Obj)
def OT (fs:List (PySem.W.Frag->Bool)) (ds:List Dsc) (ts:Ml) (g:Addr->Option Obj) (K:PySem.W.Frag):Em:=(((fs.all fun f=>f K)&&ds.all fun d=>d.ok K)&&Eo K ts,ds.map (fun d=>BB K d.p),ts.map fun t=>g (W8 K t.1))
def By (ds:List Dsc) (ts:Ml):Em:=(true,ds.map Dsc.val,ts.map fun _=>some QQ)
structure HkSays (fs:List (PySem.W.Frag->Bool)) (ds:List Dsc) (ts:Ml) (K:PySem.W.Frag):Prop where
 t:(((fs.all fun f=>f K)&&ds.all fun d=>d.ok K)&&Eo K ts)=true
 d:(ds.map fun d=>BB K d.p)=ds.map Dsc.val
def G5 (n:Nat) (fs:List (PySem.W.Frag->Bool)) (ds:List Dsc) (ts:Ml) (g:Addr->Option Obj):Em:=OT fs ds ts g (BI g n)
theorem DL {n:Nat} {h:Heap}:(BI h.get? n).In h:=fun _ _ e=>He.frG_at _ e
def UG (n:Nat) (fs:List (PySem.W.Frag->Bool)) (ds:List Dsc) (ts:Ml):PySem.W.Hook where
 α:=Em
 obs:=fun s=>G5 n fs ds ts s.heap.get?
 val:=fun _=>By ds ts
 says:=fun _ h => ∃ K:PySem.W.Frag,K.In h/\HkSays fs ds ts K/\∀ t∈ts,h.get? (W8 K t.1)=some QQ
 of:=fun _ s e=>⟨_,DL,⟨congrArg (fun z:Em=>z.1) e,congrArg (fun z:Em=>z.2.1) e⟩,fun t ht=>by
  have z:(ts.map fun t=>s.heap.get? (W8 (BI s.heap.get? n) t.1))=ts.map fun _=>some QQ:=congrArg (fun z:Em=>z.2.2) e;exact List.map_inj_left.mp z t ht⟩
 keeps:=fun _ _ _ ⟨K,hK,c,x⟩ k=>⟨K,PySem.W.Frag.In.keeps hK k,c,fun t ht=>k _ _ (x t ht)⟩
end FL
namespace FL
open PySem PySem.Spec PyProof.Rows L2 LamX
def tFld (c f:Str) (K:PySem.W.Frag):Bool:=(He.Fa.cls c).ok K&&(He.Fa.noat c f).ok K
def tCon (c f s:Str) (K:PySem.W.Frag):Bool:=(He.Fa.cls c).ok K&&(match PySem.W.findIn K (.ref (He.ga K c)) f with
 | some (some (.str y t))=>decide (y=s)&&(decide (PySem.W.specialIn K (.str y t) "__get__" = some none) && !PySem.W.copiedNames.contains f)
 | _=>false)
def Bw (c f:Str) (K:PySem.W.Frag):Bool:=(He.Fa.cls c).ok K&&(decide (PySem.W.findIn K (.ref (He.ga K c)) f=some (some (.ref (He.ma K (He.ga K c) f))))&&(decide (PySem.W.specialIn K (.ref (He.ma K (He.ga K c) f)) "__get__" = some (some (.builtin "property.__get__"))) &&
 (decide (PySem.W.takesIn K (.ref (He.ma K (He.ga K c) f))=some true)&&(match PySem.W.recIn K (He.ma K (He.ga K c) f) "property" with
   | some (.ref _ :: _)=>true
   | _=>false))))
def Mj (c f:Str) (K:PySem.W.Frag):Bool:=decide (ZM K (c,some f)=He.ma K (He.ga K c) f)
def Mi:List Value->List Str->Bool
 | [],[]=>true
 | .str y _ :: vs,x :: xs=>decide (y=x)&&Mi vs xs
 | _,_=>false
def tTup (x:Str) (xs:List Str) (K:PySem.W.Frag):Bool:=match PySem.W.nsIn K mainGlobals x with
 | some (some (.ref a))=>(match K.lookup a with
   | some ⟨.type T,_,.seq its _,_⟩=>decide (T = "tuple")&&(Mi its.toList xs&&decide (xs.length<=1000))
   | _=>false)
 | _=>false
def DJ (c D B f:Str) (K:PySem.W.Frag):Bool:=(match PySem.W.clsIn K (He.ga K c) with
 | some cd=>decide (PySem.W.alongIn K f ((cd.mro.dropWhile (· != .ref (He.ga K D))).drop 1)=some (some (.ref (ZM K (B,some f)))))
 | none=>false)&&((match K.lookup (ZM K (B,some f)) with
 | some ⟨.type T,_,_,_⟩=>decide (T = "function")
 | _=>false)&&(PySem.W.fnIn K (ZM K (B,some f))&&decide (PySem.W.mroIn K (He.ga K c) (.ref (He.ga K D))=some true)))
abbrev pM (c m:String):BH:=(Str.ofString c,some (Str.ofString m))
def G0 (K:PySem.W.Frag) (p:BH):Value:=match K.lookup (ZM K p) with
 | some ⟨_,_,.func fd,_⟩=>fd.kwdefaults
 | _=>.none
def UO (K:PySem.W.Frag) (p:BH):Addr:=match K.lookup (ZM K p) with
 | some ⟨_,_,.func fd,_⟩=>(match fd.closure with
   | [(_,c)]=>c
   | _=>0)
 | _=>0
def tCell (c m file:Str) (K:PySem.W.Frag):Bool:=(match K.lookup (UO K (c,some m)) with
 | some ⟨_,_,.cell (some v),_⟩=>decide (v = .ref (He.ga K c))
 | _=>false)&&((match K.lookup (Y_ K (c,some m)) with
 | some ⟨_,_,.fields vs,_⟩=>(match (vs[2]?:Option Value) with
   | some (Value.str f _)=>file == f
   | _=>false)
 | _=>false)&&((PySem.W.clsIn K (He.ga K c)).isSome&&decide (PySem.W.nsIn K cStatics "thirdparty.any" = some none)))
def Sr (x:Str) (K:PySem.W.Frag):Bool:=(He.Fa.glo x).ok K&&((He.Fa.keep x).ok K&&decide (ZM K (x,none)=He.ga K x))
def J9 (c at_:Str) (K:PySem.W.Frag):Bool:=(match K.lookup (He.ga K c) with
 | some ⟨.type T,_,.cls cd,sl⟩=>(match cd.mro,sl.toList with
   | .ref C' :: bm,[_,_,_,_,some (.builtin n),_]=>decide (T = "type")&&(C' == He.ga K c&&(n == "ValueError.__new__" && (!cd.hasDel&&(cd.hasDict&&PySem.HandSPX.refsVE bm))))
   | _,_=>false)
 | _=>false)&&(decide (PySem.W.findIn K (.ref (He.ga K c)) "__setattr__" = some (some (.builtin "object.__setattr__")))&&(decide (PySem.W.subIn K (.ref (He.ga K c)) (.type "BaseException")=some true) &&
 (decide (PySem.W.typeIn K (.ref (He.ga K c))=some (.type "type"))&&(PySem.W.keepIn K (.ref (He.ga K c))&&(decide (PySem.W.findIn K (.ref (He.ga K c)) "__init__" = some (some (.ref (ZM K (c,some "__init__")))))&&(decide (PySem.W.typeIn K (.ref (ZM K (c,some "__init__")))=some (.type "function")) &&
 (decide (PySem.W.mroIn K (He.ga K c) (.ref (He.ga K c))=some true)&&(decide (PySem.W.ks_superIn K (He.ga K c) (He.ga K c) "__init__" = some (some (.builtin "ValueError.__init__")))&&(decide (PySem.W.subIn K (.ref (He.ga K c)) (.type "ValueError")=some true) &&
 decide (PySem.W.findIn K (.ref (He.ga K c)) at_=some none))))))))))
abbrev Mh:Type:=List (String×String×Option String)
def J6 (e:String×String×Option String) (K:PySem.W.Frag):Bool:=(He.Fa.glo (Str.ofString e.1)).ok K&&match e.2.2 with
 | none=>tFld (Str.ofString e.1) (Str.ofString e.2.1) K
 | some s=>tCon (Str.ofString e.1) (Str.ofString e.2.1) (Str.ofString s) K
def J2 (t:Mh) (K:PySem.W.Frag):Bool:=t.all fun e=>J6 e K
abbrev RH:Type:=List (String×String×String)
def J1 (e:String×String×String) (K:PySem.W.Frag):Bool:=(He.Fa.glo (Str.ofString e.1)).ok K&&(Bw (Str.ofString e.1) (Str.ofString e.2.1) K&&decide (ZM K (Str.ofString e.1,some (Str.ofString e.2.1))=ZM K (Str.ofString e.2.2,some (Str.ofString e.2.1))))
def J0 (t:RH) (K:PySem.W.Frag):Bool:=t.all fun e=>J1 e K
abbrev OS:Type:=List (String×String×Bool)
end FL
namespace FL
open PySem L2
def Qz (cs:List String) (b f:Str) (K:PySem.W.Frag):Bool:=PySem.W.isFn K (.ref (ZM K (b,some f)))&&(PySem.W.keepIn K (.ref (ZM K (b,some f)))&&cs.all fun c=>(He.Fa.glo (Str.ofString c)).ok K&&((He.Fa.cls (Str.ofString c)).ok K &&
 decide (PySem.W.findIn K (.ref (He.ga K (Str.ofString c))) f=some (some (.ref (ZM K (b,some f)))))))
end FL
namespace FL
open PySem PySem.Spec PyProof.Rows L2 LamX
def DI (c d:Str) (b:Bool) (K:PySem.W.Frag):Bool:=(PySem.W.clsIn K (He.ga K c)).isSome&&(decide (PySem.W.findIn K (.ref (He.ga K c)) "__getattribute__" = some (some (.builtin "BaseException.__getattribute__")))&&(decide (PySem.W.findIn K (.ref (He.ga K c)) "__getattr__" = some none)&&(decide (PySem.W.subIn K (.ref (He.ga K c)) (.type "BaseException")=some true) &&
 (decide (PySem.W.findIn K (.ref (He.ga K c)) "__class__" = some (some (.builtin "object.__class__")))&&(decide (PySem.W.specialIn K (.builtin "object.__class__") "__get__" = some (some (.builtin "getset_descriptor.__get__"))) &&
 (decide (PySem.W.takesIn K (.builtin "object.__class__")=some true)&&(decide (PySem.W.mroIn K (He.ga K c) (.type "object")=some true)&&decide (PySem.W.kitOne K (.ref (He.ga K c)) (.ref (He.ga K d))=some b))))))))
def OQ (t:OS) (K:PySem.W.Frag):Bool:=t.all fun e=>(He.Fa.glo (Str.ofString e.1)).ok K&&((He.Fa.glo (Str.ofString e.2.1)).ok K&&DI (Str.ofString e.1) (Str.ofString e.2.1) e.2.2 K)
end FL
namespace FL
open PySem PySem.Spec PyProof.Rows L2 LamX
inductive Fm | look | arit
def Fm.B:Fm->String
 | .look => "LookupError"
 | .arit => "ArithmeticError"
def Fm.newId:Fm->String
 | .look => "LookupError.__new__"
 | .arit => "ArithmeticError.__new__"
def Fm.initId:Fm->String
 | .look => "LookupError.__init__"
 | .arit => "ArithmeticError.__init__"
def Fm.bm:Fm->List Value
 | .look=>[.type "LookupError",.type "Exception",.type "BaseException",.type "object"]
 | .arit=>[.type "ArithmeticError",.type "Exception",.type "BaseException",.type "object"]
def OP (f:Fm) (c at_:Str) (K:PySem.W.Frag):Bool:=PySem.W.excInitIn K (He.ga K c) f.bm f.newId&&(PySem.W.excOver K (He.ga K c) f.bm&&(PySem.W.hasDictIn K (He.ga K c) &&
 (decide (PySem.W.findIn K (.ref (He.ga K c)) "__setattr__" = some (some (.builtin "object.__setattr__")))&&(decide (PySem.W.subIn K (.ref (He.ga K c)) (.type "BaseException")=some true) &&
 (decide (PySem.W.typeIn K (.ref (He.ga K c))=some (.type "type"))&&(PySem.W.keepIn K (.ref (He.ga K c))&&(decide (PySem.W.findIn K (.ref (He.ga K c)) "__init__" = some (some (.ref (ZM K (c,some "__init__")))))&&(decide (PySem.W.typeIn K (.ref (ZM K (c,some "__init__")))=some (.type "function")) &&
 (decide (PySem.W.mroIn K (He.ga K c) (.ref (He.ga K c))=some true)&&(decide (PySem.W.ks_superIn K (He.ga K c) (He.ga K c) "__init__" = some (some (.builtin f.initId)))&&(decide (PySem.W.subIn K (.ref (He.ga K c)) (.type f.B)=some true) &&
 decide (PySem.W.findIn K (.ref (He.ga K c)) at_=some none))))))))))))
def Ln (cs:List String) (f:Str) (K:PySem.W.Frag):Bool:=cs.all fun c=>(He.Fa.glo (Str.ofString c)).ok K&&(decide (PySem.W.findIn K (.ref (He.ga K (Str.ofString c))) "__getattribute__" = some (some (.builtin "BaseException.__getattribute__")))&&(decide (PySem.W.findIn K (.ref (He.ga K (Str.ofString c))) "__getattr__" = some none) &&
 (decide (PySem.W.subIn K (.ref (He.ga K (Str.ofString c))) (.type "BaseException")=some true)&&(PySem.W.hasDictIn K (He.ga K (Str.ofString c))&&decide (PySem.W.findIn K (.ref (He.ga K (Str.ofString c))) f=some none)))))
def Nj (es:List String) (t:List (String×Bool)) (K:PySem.W.Frag):Bool:=t.all fun e=>(He.Fa.glo (Str.ofString e.1)).ok K&&decide (PySem.W.exmAny K (.ref (He.ga K (Str.ofString e.1))) (es.map fun x=>.ref (He.ga K (Str.ofString x)))=some e.2)
end FL
namespace L36
open PySem PySem.Spec PyProof.Rows L2 FL LamX
abbrev tp (i:Nat):Stmt:=PySem.Challenge.pw_findlang_k36_merges.main.body.getD i (.Pass ⟨0,0,0,0⟩)
def XG:List (String×Bool):=[("BadDocument",true),("BadKey",true),("BadNumber",true),("BadSchema",true),("NoDocument",true),("NoSegment",true),("TooMany",true)]
def DH:Mh:=[("Index","kept",none),("Index","pieces",none),("Index","schema",none),("Segment","added",none),("Segment","is_open",none),("Entry","field_words",none),("Entry","kept_document",none),("Entry","label",none)]
def GZ:RH:=[("Index","segments","Index")]
def GX:OS:=[("BadDocument","BadChange",false),("BadDocument","BadDocument",true),("BadDocument","BadField",false),("BadDocument","BadKey",false),("BadDocument","BadNumber",false),("BadDocument","BadQuery",false),("BadDocument","BadSchema",false),("BadDocument","NoDocument",false),("BadDocument","NoField",false),("BadDocument","NoSegment",false),("BadDocument","TooMany",false),("BadDocument","WrongKind",false),("BadKey","BadChange",false),("BadKey","BadDocument",false),("BadKey","BadField",false),("BadKey","BadKey",true),("BadKey","BadNumber",false),("BadKey","BadQuery",false),("BadKey","BadSchema",false),("BadKey","NoDocument",false),("BadKey","NoField",false),("BadKey","NoSegment",false),("BadKey","TooMany",false),("BadKey","WrongKind",false),("BadNumber","BadChange",false),("BadNumber","BadDocument",false),("BadNumber","BadField",false),("BadNumber","BadKey",false),("BadNumber","BadNumber",true),("BadNumber","BadQuery",false),("BadNumber","BadSchema",false),("BadNumber","NoDocument",false),("BadNumber","NoField",false),("BadNumber","NoSegment",false),("BadNumber","TooMany",false),("BadNumber","WrongKind",false),("BadSchema","BadChange",false),("BadSchema","BadDocument",false),("BadSchema","BadField",false),("BadSchema","BadKey",false),("BadSchema","BadNumber",false),("BadSchema","BadQuery",false),("BadSchema","BadSchema",true),("BadSchema","NoDocument",false),("BadSchema","NoField",false),("BadSchema","NoSegment",false),("BadSchema","TooMany",false),("BadSchema","WrongKind",false),("NoDocument","BadChange",false),("NoDocument","BadDocument",false),("NoDocument","BadField",false),("NoDocument","BadKey",false),("NoDocument","BadNumber",false),("NoDocument","BadQuery",false),("NoDocument","BadSchema",false),("NoDocument","NoDocument",true),("NoDocument","NoField",false),("NoDocument","NoSegment",false),("NoDocument","TooMany",false),("NoDocument","WrongKind",false),("NoSegment","BadChange",false),("NoSegment","BadDocument",false),("NoSegment","BadField",false),("NoSegment","BadKey",false),("NoSegment","BadNumber",false),("NoSegment","BadQuery",false),("NoSegment","BadSchema",false),("NoSegment","NoDocument",false),("NoSegment","NoField",false),("NoSegment","NoSegment",true),("NoSegment","TooMany",false),("NoSegment","WrongKind",false),("TooMany","BadChange",false),("TooMany","BadDocument",false),("TooMany","BadField",false),("TooMany","BadKey",false),("TooMany","BadNumber",false),("TooMany","BadQuery",false),("TooMany","BadSchema",false),("TooMany","NoDocument",false),("TooMany","NoField",false),("TooMany","NoSegment",false),("TooMany","TooMany",true),("TooMany","WrongKind",false)]
end L36
namespace FL
open PySem PySem.Spec PySem.W PySem.Calls PyProof.Rows HandSHeadRun
namespace Hs
abbrev n:Value:=.none
abbrev s (x:String) (t:Nat):Value:=.str (Str.ofString x) t
abbrev i (k:Int) (t:Nat):Value:=.int k t
abbrev r (a:Nat):Value:=.ref a
abbrev t (x:String):Value:=.type x
abbrev b (x:String):Value:=.builtin x
abbrev o (k:Bool):Value:=.bool k
def en (P:Params) (k v:Value):DictEntry:=⟨match k with
 | .str x _=>PyData.keyHash P x
 | _=>0,k,v⟩
def es (P:Params) (l:List (String×Nat×Value)):List DictEntry:=l.map fun p=>en P (s p.1 p.2.1) p.2.2
def D (P:Params) (c:Value) (l:List (String×Nat×Value)) (k:Nat):Obj:=⟨c,none,.dict ⟨es P l⟩ k,⟨[]⟩⟩
def T (l:List Value):Obj:=⟨t "tuple",none,.seq ⟨l⟩ 0,⟨[]⟩⟩
def G (c:Value) (l:List Value):Obj:=⟨c,none,.fields ⟨l⟩,⟨[]⟩⟩
def C (l:List Value):Obj:=G (t "code") l
def F (c:Value) (x q:String) (st:Stmt) (g:Nat) (cl:List (String×Nat)) (d k m:Value) (a:Option Nat) (cd ct:Value):Obj :=
 ⟨c,none,.func ⟨Str.ofString x,Str.ofString q,L2.defArgs st,.stmts (L2.defBody st),L2.defScope st,g,cl.map fun p=>(Str.ofString p.1,p.2),d,k,.none,m,a,cd,ct,0⟩,⟨[]⟩⟩
def V (v:Option Value):Obj:=⟨t "cell",none,.cell v,⟨[]⟩⟩
def Y (x:String) (bs ms:List Value) (ns:Nat) (q:String) (sub sl:List Value) (fl:List (Option Value)):Obj :=
 ⟨t "type",none,.cls { name:=Str.ofString x,bases:=bs,mro:=ms,ns:=ns,qualname:=Str.ofString q,hasDict:=true,slotNames:=[],subclasses:=sub,abstract:=false,collection:=none,hasDel:=false },⟨fl⟩⟩
def S (c:Value) (d:Option Nat) (fl:List (Option Value)):Obj:=⟨c,d,.plain,⟨fl⟩⟩
def bo (P:Params) (k:Nat):Obj:=(boot_heap P).objs.toList.getD k default
mutual
def ev {α:Type}:List α->List α
 | []=>[]
 | x :: l=>x :: od l
def od {α:Type}:List α->List α
 | []=>[]
 | _ :: l=>ev l
end
def tr:Nat->List Obj->BT
 | 0,_=>.nil
 | _+1,[]=>.nil
 | f+1,x :: l=>.node x (tr f (ev l)) (tr f (od l))
end Hs
section
variable (st : SharedT -> Thread -> Option (SharedT × Thread)) (n0 : Nat) (ann : Option Value)
def DG:Nat->SharedT->Thread->Option (SharedT×Thread)
 | 0,s,t=>some (s,t)
 | m+1,s,t=>match through t with
   | true=>none
   | false=>match stepOk n0 ann t with
     | false=>none
     | true=>match st s t with
       | some (s',t')=>frS s' fun s' => DG m s' t'
       | none=>none
def GW (m:Nat) (p:Program) (w:World) (os:OsState):Option (Nat×SharedT×Thread):=match putAll (boot_heap w.params).objs.toList .nil 0 with
 | some (t,n)=>frNat n fun n0=>match DG st n0 (bootAnn w) m (bootT w os (t,n0)) (topStub p) with
   | some r=>some (n0,r)
   | none=>none
 | none=>none
end
section
variable {st : SharedT -> Thread -> Option (SharedT × Thread)} {n0 : Nat} {ann : Option Value}
theorem Mg {M:Nat}:∀ {m:Nat} {s s':SharedT} {t t':Thread},DG st n0 ann m s t=some (s',t')->goF st n0 ann (m+M) s t=goF st n0 ann M s' t'
 | 0,s,s',t,t',h=>by
   cases h;rw [Nat.zero_add]
 | m+1,s,s',t,t',h=>by
   rw [show m+1+M=(m+M)+1 by omega];have h1:(match through t with
    | true=>none
    | false=>match stepOk n0 ann t with
      | false=>none
      | true=>match st s t with
        | some (s',t')=>frS s' fun s' => DG st n0 ann m s' t'
        | none=>none)=some (s',t'):=h
   show (match through t with
    | true=>some s
    | false=>match stepOk n0 ann t with
      | false=>none
      | true=>match st s t with
        | some (s',t')=>frS s' fun s' => goF st n0 ann (m+M) s' t'
        | none=>none)=_
   cases ht:through t with
   | true=>rw [ht] at h1; cases h1
   | false =>
     rw [ht] at h1;cases hk:stepOk n0 ann t with
     | false=>rw [hk] at h1; cases h1
     | true =>
       rw [hk] at h1;cases hs:st s t with
       | none=>rw [hs] at h1; cases h1
       | some r =>
         obtain ⟨s2,t2⟩:=r;rw [hs] at h1;have h3:(frS s2 fun s' => DG st n0 ann m s' t2)=some (s',t'):=h1;rw [frS_eq] at h3
         show (frS s2 fun s' => goF st n0 ann (m+M) s' t2)=_;rw [frS_eq];exact Mg h3
theorem JZ {m M:Nat} {p:Program} {w:World} {os:OsState} {n0:Nat} {s':SharedT} {t':Thread} (h:GW st m p w os=some (n0,s',t')):endF st (m+M) p w os=goF st n0 (bootAnn w) M s' t':=by
 unfold GW at h;unfold endF;cases e:putAll (boot_heap w.params).objs.toList .nil 0 with
 | none=>rw [e] at h; cases h
 | some r =>
   obtain ⟨t,n⟩:=r;rw [e] at h;have h1:(frNat n fun n0=>match DG st n0 (bootAnn w) m (bootT w os (t,n0)) (topStub p) with
    | some r=>some (n0,r)
    | none=>none)=some (n0,s',t'):=h
   show (frNat n fun n0=>goF st n0 (bootAnn w) (m+M) (bootT w os (t,n0)) (topStub p))=_;rw [frNat_eq] at h1 ⊢;cases e2:DG st n (bootAnn w) m (bootT w os (t,n)) (topStub p) with
   | none=>rw [e2] at h1; cases h1
   | some r =>
     rw [e2] at h1;cases h1;exact Mg e2
end
def Bv (rest:List Stmt) (env:Env) (c:Code) (p:Pos) (B:List Frame):Thread:=⟨denQ tabQ (Code.body rest env),c,p,B⟩
theorem Mf {r:OpenRow} {q:Program} {H:Hook} {ob:SharedT->H.α} {m M:Nat} {loose:List Str} {w:World} {n0:Nat} {s':OsState->SharedT} {t':Thread}
  (h1:∀ os,GW (stepQ (denQ tabQ) r.prog w) m r.prog w os=some (n0,s' os,t'))
  (h2:∀ os,(goF (stepQ (denQ tabQ) r.prog w) n0 (bootAnn w) M (s' os) t').map (fun s=>(looksF r.prog (boot_heap w.params) s.abs,seenQ q loose (importedModules r.prog.main.body) (fun s=>xlAt q [] s&&recOk r.toRowW.records s) s.abs,ob s))=some (true,openGood q loose,H.val w)) :
  RunEq r q H ob (m+M) loose w:=fun os=>by
 rw [JZ (h1 os)];exact h2 os
end FL
namespace L36.Md
open PySem PySem.Spec PySem.W PySem.Calls PyProof.Rows HandSHeadRun FL FL.Hs
abbrev pw:Program:=(OpenLaw.row PySem.Challenge.rw_findlang_k36_merges).prog
def cA (A B:String) (x:Nat) (l a b c:Int) (q m:Nat):Obj:=C [s A x,s B (x+1),s "/claim/cut.py" (x+2),i l 0,i a 0,i 0 0,i b 0,i c 0,r q,o true,i 181 0,r (q+1),n,r (q+2),r (q+3),r (q+4),i m 0,i l 0,s "/claim/cut.py" (m+1)]
def cB (A B:String) (x:Nat) (l a b c:Int) (q m:Nat):Obj:=C [s A x,s B (x+1),s "/claim/cut.py" (x+2),i l 0,i a 0,i 0 0,i b 0,i c 0,r q,o false,i 181 0,r (q+1),n,n,n,n,i m 0,i l 0,s "/claim/cut.py" (m+1)]
def cC (A B:String) (x:Nat) (l a b c:Int) (q m:Nat):Obj:=C [s A x,s B (x+1),s "/claim/cut.py" (x+2),i l 0,i a 0,i 0 0,i b 0,i c 0,r q,o true,i 181 0,r (q+1),n,n,n,r (q+2),i m 0,i l 0,s "/claim/cut.py" (m+1)]
def fA (A B:String) (p:Stmt):Obj:=F n A B p 0 [] n n n none n n
def fB:=F (t "function")
def dA (P:Params):=D P (t "dict")
def gA:=G (t "builtin_function_or_method")
def sA (x y z:Nat) (v:Value):Obj:=S (t "frame") none [some (r x),some (r y),some (r z),none,some v,none,some (r 0)]
def kL (a:Nat) (l:Int):String×Nat×Value:=("__firstlineno__",a,i l (a - 1))
def kQ (a:Nat) (x:String):String×Nat×Value:=("__qualname__",a,s x (a - 1))
def kS (a b:Nat):String×Nat×Value:=("__static_attributes__",a,r b)
def kI (a b:Nat):String×Nat×Value:=("__init__",a,r b)
def kM (a:Nat) (v:Value):String×Nat×Value:=("__module__",a,v)
def kD (a:Nat):String×Nat×Value:=("__doc__",a,n)
def WZ:Value:=s "findlang.indexes" 969
def Zm:Value:=s "findlang.errors" 194
def JY:Value:=s "findlang.kinds" 584
def Tu:Value:=s "findlang.entries" 640
def Wq:Value:=s "findlang.views" 746
def Ni:Value:=s "findlang.readers" 916
def h0 (P:Params):List Obj:=[
 bo P 0,
 bo P 1,
 D P n [("type.__subclasses__.ArithmeticError.0",545,i 288 0),("type.__subclasses__.ArithmeticError.n",546,i 1 0)] 2,
 dA P [("__name__",165,WZ),kD 166,("__package__",167,n),("__loader__",168,b "__main__.__loader__#opaque"),("__spec__",169,n),("__annotations__",170,r 6),("__builtins__",171,r 4),("__file__",173,s "/claim/cut.py" 172),("__cached__",174,n),("_wall",193,r 21),("Invalid",213,r 31),("BadKey",240,r 53),("BadField",267,r 74),("BadSchema",294,r 95),("BadDocument",321,r 116),("BadQuery",348,r 137),("BadNumber",375,r 158),("BadChange",402,r 179),("Unfit",420,r 191),("NoField",447,r 213),("WrongKind",474,r 234),("NoDocument",501,r 255),("NoSegment",528,r 276),("Excess",548,r 288),("TooMany",575,r 310),("MAX_TEXT",577,i 400 576),("MAX_WORD",579,i 20 578),("MAX_FIELDS",581,i 6 580),("MAX_DOCUMENTS",583,i 500 582),("MAX_NAME",587,i 12 586),("LETTERS",589,s "abcdefghijklmnopqrstuvwxyz" 588),("WORD_SIGNS",591,s "abcdefghijklmnopqrstuvwxyz0123456789" 590),("is_integer",600,r 319),("is_made_of",606,r 324),("is_text",613,r 331),("is_key",620,r 338),("is_field_name",627,r 345),("split_words",639,r 352),("Entry",699,r 390),("Segment",730,r 411),("live_entries",736,r 420),("segment_row",745,r 427),("FIELD_KINDS",750,r 428),("GREATEST",754,i 1000000000 753),("is_field_row",761,r 435),("need_schema",767,r 440),("kind_of_field",775,r 447),("need_key",782,r 454),("is_value_for",790,r 461),("need_document",796,r 466),("View",915,r 562),("Reader",968,r 606),("is_change",977,r 615),("Batch",1025,r 646),("Index",1147,r 743)] 55,
 bo P 4,
 bo P 5,
 bo P 6,
 bo P 7,
 bo P 8,
 bo P 9,
 bo P 10,
 T [],
 G n [i 1 0,i 0 0,r 20,i 5 0,i 0 0,r 27,i 7 0,i 0 0,r 41,i 12 0,i 0 0,r 62,i 17 0,i 0 0,r 83,i 22 0,i 0 0,r 104,i 27 0,i 0 0,r 125,i 32 0,i 0 0,r 146,i 37 0,i 0 0,r 167,i 42 0,i 0 0,r 187,i 44 0,i 0 0,r 201,i 49 0,i 0 0,r 222,i 54 0,i 0 0,r 243,i 59 0,i 0 0,r 264,i 64 0,i 0 0,r 284,i 66 0,i 0 0,r 298,i 79 0,i 0 0,r 318,i 83 0,i 0 0,r 323,i 85 0,i 0 0,r 330,i 87 0,i 0 0,r 337,i 89 0,i 0 0,r 344,i 92 0,i 0 0,r 351,i 102 0,i 0 0,r 358,i 120 0,i 0 0,r 400,i 125 0,i 0 0,r 419,i 127 0,i 0 0,r 426,i 133 0,i 0 0,r 434,i 137 0,i 0 0,r 439,i 144 0,i 0 0,r 446,i 146 0,i 0 0,r 453,i 149 0,i 0 0,r 460,i 153 0,i 0 0,r 465,i 158 0,i 0 0,r 472,i 205 0,i 0 0,r 573,i 221 0,i 0 0,r 614,i 225 0,i 0 0,r 621,i 241 0,i 0 0,r 657],
 cB "<module>" "<module>" 182 1 0 0 0 11 185,
 sA 13 3 3 (s "__main__" 164),
 T [],
 G n [],
 T [s "k" 190],
 T [],
 fA "_wall" "_wall" (tp 0),
 cA "_wall" "_wall" 187 1 1 0 3 15 191,
 fB "_wall" "_wall" (tp 0) 3 [] n n (s "__main__" 164) none (r 20) n,
 T [t "ValueError"],
 gA [b "type.__prepare__",t "type"],
 dA P [kM 203 Zm,kQ 205 "Invalid",kL 207 5,kS 208 29] 4,
 T [],
 G n [],
 cB "Invalid" "Invalid" 198 5 0 0 0 25 201,
 sA 27 3 24 Zm,
 T [],
 dA P [kM 203 Zm,kL 207 5,kS 208 29,("__weakref__",210,r 32),kD 211] 3,
 Y "Invalid" [t "ValueError"] [r 31,t "ValueError",t "Exception",t "BaseException",t "object"] 30 "Invalid" [r 53,r 74,r 95,r 116,r 137,r 158,r 179] [] [some (r 22),none,some (s "Invalid" 196),some (s "Invalid" 204),some (b "ValueError.__new__"),some (o true)],
 G (t "getset_descriptor") [s "__weakref__" 209,r 31,b "ExceptionGroup.__weakref__",n],
 G (t "super") [r 31,r 31,r 31],
 gA [b "object.__init_subclass__",r 31],
 T [r 31],
 gA [b "type.__prepare__",t "type"],
 dA P [kM 221 Zm,kQ 223 "BadKey",kL 225 7,kI 234 50,kS 236 51,("__classcell__",237,r 38)] 6,
 V (some (r 53)),
 T []]
def h1 (P:Params):List Obj:=[
 G n [i 9 0,i 4 0,r 49],
 cB "BadKey" "BadKey" 216 7 0 0 0 39 219,
 sA 41 3 37 Zm,
 T [r 38],
 T [s "__class__" 229],
 G n [],
 T [s "self" 230,s "reason" 231],
 T [],
 fA "__init__" "BadKey.__init__" (Z_ 0 (tp 3)),
 cA "__init__" "BadKey.__init__" 226 9 2 0 3 44 232,
 fB "__init__" "BadKey.__init__" (Z_ 0 (tp 3)) 3 [("__class__",38)] n n Zm none (r 49) (r 43),
 T [s "reason" 235],
 dA P [kM 221 Zm,kL 225 7,kI 234 50,kS 236 51,kD 238] 3,
 Y "BadKey" [r 31] [r 53,r 31,t "ValueError",t "Exception",t "BaseException",t "object"] 52 "BadKey" [] [] [some (r 35),none,some (s "BadKey" 214),some (s "BadKey" 222),some (b "ValueError.__new__"),some (o true)],
 G (t "super") [r 53,r 53,r 53],
 gA [b "object.__init_subclass__",r 53],
 T [r 31],
 gA [b "type.__prepare__",t "type"],
 dA P [kM 248 Zm,kQ 250 "BadField",kL 252 12,kI 261 71,kS 263 72,("__classcell__",264,r 59)] 6,
 V (some (r 74)),
 T [],
 G n [i 14 0,i 4 0,r 70],
 cB "BadField" "BadField" 243 12 0 0 0 60 246,
 sA 62 3 58 Zm,
 T [r 59],
 T [s "__class__" 256],
 G n [],
 T [s "self" 257,s "reason" 258],
 T [],
 fA "__init__" "BadField.__init__" (Z_ 0 (tp 4)),
 cA "__init__" "BadField.__init__" 253 14 2 0 3 65 259,
 fB "__init__" "BadField.__init__" (Z_ 0 (tp 4)) 3 [("__class__",59)] n n Zm none (r 70) (r 64),
 T [s "reason" 262],
 dA P [kM 248 Zm,kL 252 12,kI 261 71,kS 263 72,kD 265] 3,
 Y "BadField" [r 31] [r 74,r 31,t "ValueError",t "Exception",t "BaseException",t "object"] 73 "BadField" [] [] [some (r 56),none,some (s "BadField" 241),some (s "BadField" 249),some (b "ValueError.__new__"),some (o true)],
 G (t "super") [r 74,r 74,r 74],
 gA [b "object.__init_subclass__",r 74],
 T [r 31],
 gA [b "type.__prepare__",t "type"],
 dA P [kM 275 Zm,kQ 277 "BadSchema",kL 279 17,kI 288 92,kS 290 93,("__classcell__",291,r 80)] 6]
def h2 (P:Params):List Obj:=[
 V (some (r 95)),
 T [],
 G n [i 19 0,i 4 0,r 91],
 cB "BadSchema" "BadSchema" 270 17 0 0 0 81 273,
 sA 83 3 79 Zm,
 T [r 80],
 T [s "__class__" 283],
 G n [],
 T [s "self" 284,s "reason" 285],
 T [],
 fA "__init__" "BadSchema.__init__" (Z_ 0 (tp 5)),
 cA "__init__" "BadSchema.__init__" 280 19 2 0 3 86 286,
 fB "__init__" "BadSchema.__init__" (Z_ 0 (tp 5)) 3 [("__class__",80)] n n Zm none (r 91) (r 85),
 T [s "reason" 289],
 dA P [kM 275 Zm,kL 279 17,kI 288 92,kS 290 93,kD 292] 3,
 Y "BadSchema" [r 31] [r 95,r 31,t "ValueError",t "Exception",t "BaseException",t "object"] 94 "BadSchema" [] [] [some (r 77),none,some (s "BadSchema" 268),some (s "BadSchema" 276),some (b "ValueError.__new__"),some (o true)],
 G (t "super") [r 95,r 95,r 95],
 gA [b "object.__init_subclass__",r 95],
 T [r 31],
 gA [b "type.__prepare__",t "type"],
 dA P [kM 302 Zm,kQ 304 "BadDocument",kL 306 22,kI 315 113,kS 317 114,("__classcell__",318,r 101)] 6,
 V (some (r 116)),
 T [],
 G n [i 24 0,i 4 0,r 112],
 cB "BadDocument" "BadDocument" 297 22 0 0 0 102 300,
 sA 104 3 100 Zm,
 T [r 101],
 T [s "__class__" 310],
 G n [],
 T [s "self" 311,s "reason" 312],
 T [],
 fA "__init__" "BadDocument.__init__" (Z_ 0 (tp 6)),
 cA "__init__" "BadDocument.__init__" 307 24 2 0 3 107 313,
 fB "__init__" "BadDocument.__init__" (Z_ 0 (tp 6)) 3 [("__class__",101)] n n Zm none (r 112) (r 106),
 T [s "reason" 316],
 dA P [kM 302 Zm,kL 306 22,kI 315 113,kS 317 114,kD 319] 3,
 Y "BadDocument" [r 31] [r 116,r 31,t "ValueError",t "Exception",t "BaseException",t "object"] 115 "BadDocument" [] [] [some (r 98),none,some (s "BadDocument" 295),some (s "BadDocument" 303),some (b "ValueError.__new__"),some (o true)],
 G (t "super") [r 116,r 116,r 116],
 gA [b "object.__init_subclass__",r 116],
 T [r 31]]
def h3 (P:Params):List Obj:=[
 gA [b "type.__prepare__",t "type"],
 dA P [kM 329 Zm,kQ 331 "BadQuery",kL 333 27,kI 342 134,kS 344 135,("__classcell__",345,r 122)] 6,
 V (some (r 137)),
 T [],
 G n [i 29 0,i 4 0,r 133],
 cB "BadQuery" "BadQuery" 324 27 0 0 0 123 327,
 sA 125 3 121 Zm,
 T [r 122],
 T [s "__class__" 337],
 G n [],
 T [s "self" 338,s "reason" 339],
 T [],
 fA "__init__" "BadQuery.__init__" (Z_ 0 (tp 7)),
 cA "__init__" "BadQuery.__init__" 334 29 2 0 3 128 340,
 fB "__init__" "BadQuery.__init__" (Z_ 0 (tp 7)) 3 [("__class__",122)] n n Zm none (r 133) (r 127),
 T [s "reason" 343],
 dA P [kM 329 Zm,kL 333 27,kI 342 134,kS 344 135,kD 346] 3,
 Y "BadQuery" [r 31] [r 137,r 31,t "ValueError",t "Exception",t "BaseException",t "object"] 136 "BadQuery" [] [] [some (r 119),none,some (s "BadQuery" 322),some (s "BadQuery" 330),some (b "ValueError.__new__"),some (o true)],
 G (t "super") [r 137,r 137,r 137],
 gA [b "object.__init_subclass__",r 137],
 T [r 31],
 gA [b "type.__prepare__",t "type"],
 dA P [kM 356 Zm,kQ 358 "BadNumber",kL 360 32,kI 369 155,kS 371 156,("__classcell__",372,r 143)] 6,
 V (some (r 158)),
 T [],
 G n [i 34 0,i 4 0,r 154],
 cB "BadNumber" "BadNumber" 351 32 0 0 0 144 354,
 sA 146 3 142 Zm,
 T [r 143],
 T [s "__class__" 364],
 G n [],
 T [s "self" 365,s "reason" 366],
 T [],
 fA "__init__" "BadNumber.__init__" (Z_ 0 (tp 8)),
 cA "__init__" "BadNumber.__init__" 361 34 2 0 3 149 367,
 fB "__init__" "BadNumber.__init__" (Z_ 0 (tp 8)) 3 [("__class__",143)] n n Zm none (r 154) (r 148),
 T [s "reason" 370],
 dA P [kM 356 Zm,kL 360 32,kI 369 155,kS 371 156,kD 373] 3,
 Y "BadNumber" [r 31] [r 158,r 31,t "ValueError",t "Exception",t "BaseException",t "object"] 157 "BadNumber" [] [] [some (r 140),none,some (s "BadNumber" 349),some (s "BadNumber" 357),some (b "ValueError.__new__"),some (o true)],
 G (t "super") [r 158,r 158,r 158]]
def h4 (P:Params):List Obj:=[
 gA [b "object.__init_subclass__",r 158],
 T [r 31],
 gA [b "type.__prepare__",t "type"],
 dA P [kM 383 Zm,kQ 385 "BadChange",kL 387 37,kI 396 176,kS 398 177,("__classcell__",399,r 164)] 6,
 V (some (r 179)),
 T [],
 G n [i 39 0,i 4 0,r 175],
 cB "BadChange" "BadChange" 378 37 0 0 0 165 381,
 sA 167 3 163 Zm,
 T [r 164],
 T [s "__class__" 391],
 G n [],
 T [s "self" 392,s "reason" 393],
 T [],
 fA "__init__" "BadChange.__init__" (Z_ 0 (tp 9)),
 cA "__init__" "BadChange.__init__" 388 39 2 0 3 170 394,
 fB "__init__" "BadChange.__init__" (Z_ 0 (tp 9)) 3 [("__class__",164)] n n Zm none (r 175) (r 169),
 T [s "reason" 397],
 dA P [kM 383 Zm,kL 387 37,kI 396 176,kS 398 177,kD 400] 3,
 Y "BadChange" [r 31] [r 179,r 31,t "ValueError",t "Exception",t "BaseException",t "object"] 178 "BadChange" [] [] [some (r 161),none,some (s "BadChange" 376),some (s "BadChange" 384),some (b "ValueError.__new__"),some (o true)],
 G (t "super") [r 179,r 179,r 179],
 gA [b "object.__init_subclass__",r 179],
 T [t "LookupError"],
 gA [b "type.__prepare__",t "type"],
 dA P [kM 410 Zm,kQ 412 "Unfit",kL 414 42,kS 415 189] 4,
 T [],
 G n [],
 cB "Unfit" "Unfit" 405 42 0 0 0 185 408,
 sA 187 3 184 Zm,
 T [],
 dA P [kM 410 Zm,kL 414 42,kS 415 189,("__weakref__",417,r 192),kD 418] 3,
 Y "Unfit" [t "LookupError"] [r 191,t "LookupError",t "Exception",t "BaseException",t "object"] 190 "Unfit" [r 213,r 234,r 255,r 276] [] [some (r 182),none,some (s "Unfit" 403),some (s "Unfit" 411),some (b "LookupError.__new__"),some (o true)],
 G (t "getset_descriptor") [s "__weakref__" 416,r 191,b "ExceptionGroup.__weakref__",n],
 G (t "super") [r 191,r 191,r 191],
 gA [b "object.__init_subclass__",r 191],
 T [r 191],
 gA [b "type.__prepare__",t "type"],
 dA P [kM 428 Zm,kQ 430 "NoField",kL 432 44,kI 441 210,kS 443 211,("__classcell__",444,r 198)] 6,
 V (some (r 213)),
 T []]
def h5 (P:Params):List Obj:=[
 G n [i 46 0,i 4 0,r 209],
 cB "NoField" "NoField" 423 44 0 0 0 199 426,
 sA 201 3 197 Zm,
 T [r 198],
 T [s "__class__" 436],
 G n [],
 T [s "self" 437,s "missing" 438],
 T [],
 fA "__init__" "NoField.__init__" (Z_ 0 (tp 11)),
 cA "__init__" "NoField.__init__" 433 46 2 0 3 204 439,
 fB "__init__" "NoField.__init__" (Z_ 0 (tp 11)) 3 [("__class__",198)] n n Zm none (r 209) (r 203),
 T [s "missing" 442],
 dA P [kM 428 Zm,kL 432 44,kI 441 210,kS 443 211,kD 445] 3,
 Y "NoField" [r 191] [r 213,r 191,t "LookupError",t "Exception",t "BaseException",t "object"] 212 "NoField" [] [] [some (r 195),none,some (s "NoField" 421),some (s "NoField" 429),some (b "LookupError.__new__"),some (o true)],
 G (t "super") [r 213,r 213,r 213],
 gA [b "object.__init_subclass__",r 213],
 T [r 191],
 gA [b "type.__prepare__",t "type"],
 dA P [kM 455 Zm,kQ 457 "WrongKind",kL 459 49,kI 468 231,kS 470 232,("__classcell__",471,r 219)] 6,
 V (some (r 234)),
 T [],
 G n [i 51 0,i 4 0,r 230],
 cB "WrongKind" "WrongKind" 450 49 0 0 0 220 453,
 sA 222 3 218 Zm,
 T [r 219],
 T [s "__class__" 463],
 G n [],
 T [s "self" 464,s "mistaken" 465],
 T [],
 fA "__init__" "WrongKind.__init__" (Z_ 0 (tp 12)),
 cA "__init__" "WrongKind.__init__" 460 51 2 0 3 225 466,
 fB "__init__" "WrongKind.__init__" (Z_ 0 (tp 12)) 3 [("__class__",219)] n n Zm none (r 230) (r 224),
 T [s "mistaken" 469],
 dA P [kM 455 Zm,kL 459 49,kI 468 231,kS 470 232,kD 472] 3,
 Y "WrongKind" [r 191] [r 234,r 191,t "LookupError",t "Exception",t "BaseException",t "object"] 233 "WrongKind" [] [] [some (r 216),none,some (s "WrongKind" 448),some (s "WrongKind" 456),some (b "LookupError.__new__"),some (o true)],
 G (t "super") [r 234,r 234,r 234],
 gA [b "object.__init_subclass__",r 234],
 T [r 191],
 gA [b "type.__prepare__",t "type"],
 dA P [kM 482 Zm,kQ 484 "NoDocument",kL 486 54,kI 495 252,kS 497 253,("__classcell__",498,r 240)] 6]
def h6 (P:Params):List Obj:=[
 V (some (r 255)),
 T [],
 G n [i 56 0,i 4 0,r 251],
 cB "NoDocument" "NoDocument" 477 54 0 0 0 241 480,
 sA 243 3 239 Zm,
 T [r 240],
 T [s "__class__" 490],
 G n [],
 T [s "self" 491,s "absent" 492],
 T [],
 fA "__init__" "NoDocument.__init__" (Z_ 0 (tp 13)),
 cA "__init__" "NoDocument.__init__" 487 56 2 0 3 246 493,
 fB "__init__" "NoDocument.__init__" (Z_ 0 (tp 13)) 3 [("__class__",240)] n n Zm none (r 251) (r 245),
 T [s "absent" 496],
 dA P [kM 482 Zm,kL 486 54,kI 495 252,kS 497 253,kD 499] 3,
 Y "NoDocument" [r 191] [r 255,r 191,t "LookupError",t "Exception",t "BaseException",t "object"] 254 "NoDocument" [] [] [some (r 237),none,some (s "NoDocument" 475),some (s "NoDocument" 483),some (b "LookupError.__new__"),some (o true)],
 G (t "super") [r 255,r 255,r 255],
 gA [b "object.__init_subclass__",r 255],
 T [r 191],
 gA [b "type.__prepare__",t "type"],
 dA P [kM 509 Zm,kQ 511 "NoSegment",kL 513 59,kI 522 273,kS 524 274,("__classcell__",525,r 261)] 6,
 V (some (r 276)),
 T [],
 G n [i 61 0,i 4 0,r 272],
 cB "NoSegment" "NoSegment" 504 59 0 0 0 262 507,
 sA 264 3 260 Zm,
 T [r 261],
 T [s "__class__" 517],
 G n [],
 T [s "self" 518,s "reason" 519],
 T [],
 fA "__init__" "NoSegment.__init__" (Z_ 0 (tp 14)),
 cA "__init__" "NoSegment.__init__" 514 61 2 0 3 267 520,
 fB "__init__" "NoSegment.__init__" (Z_ 0 (tp 14)) 3 [("__class__",261)] n n Zm none (r 272) (r 266),
 T [s "reason" 523],
 dA P [kM 509 Zm,kL 513 59,kI 522 273,kS 524 274,kD 526] 3,
 Y "NoSegment" [r 191] [r 276,r 191,t "LookupError",t "Exception",t "BaseException",t "object"] 275 "NoSegment" [] [] [some (r 258),none,some (s "NoSegment" 502),some (s "NoSegment" 510),some (b "LookupError.__new__"),some (o true)],
 G (t "super") [r 276,r 276,r 276],
 gA [b "object.__init_subclass__",r 276],
 T [t "ArithmeticError"]]
def h7 (P:Params):List Obj:=[
 gA [b "type.__prepare__",t "type"],
 dA P [kM 536 Zm,kQ 538 "Excess",kL 540 64,kS 541 286] 4,
 T [],
 G n [],
 cB "Excess" "Excess" 531 64 0 0 0 282 534,
 sA 284 3 281 Zm,
 T [],
 dA P [kM 536 Zm,kL 540 64,kS 541 286,("__weakref__",543,r 289),kD 544] 3,
 Y "Excess" [t "ArithmeticError"] [r 288,t "ArithmeticError",t "Exception",t "BaseException",t "object"] 287 "Excess" [r 310] [] [some (r 279),none,some (s "Excess" 529),some (s "Excess" 537),some (b "ArithmeticError.__new__"),some (o true)],
 G (t "getset_descriptor") [s "__weakref__" 542,r 288,b "ExceptionGroup.__weakref__",n],
 G (t "super") [r 288,r 288,r 288],
 gA [b "object.__init_subclass__",r 288],
 T [r 288],
 gA [b "type.__prepare__",t "type"],
 dA P [kM 556 Zm,kQ 558 "TooMany",kL 560 66,kI 569 307,kS 571 308,("__classcell__",572,r 295)] 6,
 V (some (r 310)),
 T [],
 G n [i 68 0,i 4 0,r 306],
 cB "TooMany" "TooMany" 551 66 0 0 0 296 554,
 sA 298 3 294 Zm,
 T [r 295],
 T [s "__class__" 564],
 G n [],
 T [s "self" 565,s "most" 566],
 T [],
 fA "__init__" "TooMany.__init__" (Z_ 0 (tp 16)),
 cA "__init__" "TooMany.__init__" 561 68 2 0 3 301 567,
 fB "__init__" "TooMany.__init__" (Z_ 0 (tp 16)) 3 [("__class__",295)] n n Zm none (r 306) (r 300),
 T [s "most" 570],
 dA P [kM 556 Zm,kL 560 66,kI 569 307,kS 571 308,kD 573] 3,
 Y "TooMany" [r 288] [r 310,r 288,t "ArithmeticError",t "Exception",t "BaseException",t "object"] 309 "TooMany" [] [] [some (r 292),none,some (s "TooMany" 549),some (s "TooMany" 557),some (b "ArithmeticError.__new__"),some (o true)],
 G (t "super") [r 310,r 310,r 310],
 gA [b "object.__init_subclass__",r 310],
 T [],
 G n [],
 T [s "value" 595,s "low" 596,s "high" 597],
 T [],
 fA "is_integer" "is_integer" (tp 25),
 cA "is_integer" "is_integer" 592 79 3 0 3 313 598,
 fB "is_integer" "is_integer" (tp 25) 3 [] n n JY none (r 318) n]
def h8 (P:Params):List Obj:=[
 T [],
 G n [],
 fA "is_made_of" "is_made_of" (tp 26),
 cC "is_made_of" "is_made_of" 601 83 3 0 3 320 604,
 fB "is_made_of" "is_made_of" (tp 26) 3 [] n n JY none (r 323) n,
 T [],
 G n [],
 T [s "value" 610],
 T [],
 fA "is_text" "is_text" (tp 27),
 cA "is_text" "is_text" 607 85 1 0 3 325 611,
 fB "is_text" "is_text" (tp 27) 3 [] n n JY none (r 330) n,
 T [],
 G n [],
 T [s "value" 617],
 T [],
 fA "is_key" "is_key" (tp 28),
 cA "is_key" "is_key" 614 87 1 0 3 332 618,
 fB "is_key" "is_key" (tp 28) 3 [] n n JY none (r 337) n,
 T [],
 G n [],
 T [s "value" 624],
 T [],
 fA "is_field_name" "is_field_name" (tp 29),
 cA "is_field_name" "is_field_name" 621 89 1 0 3 339 625,
 fB "is_field_name" "is_field_name" (tp 29) 3 [] n n JY none (r 344) n,
 T [],
 G n [],
 T [s "text" 633,s "found" 634,s "run" 635,s "sign" 636],
 T [],
 fA "split_words" "split_words" (tp 31),
 cA "split_words" "split_words" 630 92 1 0 3 346 637,
 fB "split_words" "split_words" (tp 31) 3 [] n n (s "findlang.words" 628) none (r 351) n,
 T [],
 gA [b "type.__prepare__",t "type"],
 dA P [kM 649 Tu,kQ 651 "Entry",kL 653 102,kI 664 366,("words_in",672,r 373),("has_field",680,r 380),("number_in",688,r 387),kS 692 388] 8,
 T [],
 G n [i 104 0,i 4 0,r 365,i 112 0,i 4 0,r 372,i 115 0,i 4 0,r 379,i 118 0,i 4 0,r 386],
 cB "Entry" "Entry" 644 102 0 0 0 356 647,
 sA 358 3 355 Tu]
def h9 (P:Params):List Obj:=[
 T [],
 G n [],
 T [s "self" 657,s "key" 658,s "document" 659,s "name" 660,s "value" 661],
 T [],
 fA "__init__" "Entry.__init__" (Z_ 0 (tp 33)),
 cA "__init__" "Entry.__init__" 654 104 3 0 3 360 662,
 fB "__init__" "Entry.__init__" (Z_ 0 (tp 33)) 3 [] n n Tu none (r 365) n,
 T [],
 G n [],
 T [s "self" 668,s "field" 669],
 T [],
 fA "words_in" "Entry.words_in" (Z_ 1 (tp 33)),
 cA "words_in" "Entry.words_in" 665 112 2 0 3 367 670,
 fB "words_in" "Entry.words_in" (Z_ 1 (tp 33)) 3 [] n n Tu none (r 372) n,
 T [],
 G n [],
 T [s "self" 676,s "field" 677],
 T [],
 fA "has_field" "Entry.has_field" (Z_ 2 (tp 33)),
 cA "has_field" "Entry.has_field" 673 115 2 0 3 374 678,
 fB "has_field" "Entry.has_field" (Z_ 2 (tp 33)) 3 [] n n Tu none (r 379) n,
 T [],
 G n [],
 T [s "self" 684,s "field" 685],
 T [],
 fA "number_in" "Entry.number_in" (Z_ 3 (tp 33)),
 cA "number_in" "Entry.number_in" 681 118 2 0 3 381 686,
 fB "number_in" "Entry.number_in" (Z_ 3 (tp 33)) 3 [] n n Tu none (r 386) n,
 T [s "field_words" 689,s "kept_document" 690,s "label" 691],
 dA P [kM 649 Tu,kL 653 102,kI 664 366,("words_in",672,r 373),("has_field",680,r 380),("number_in",688,r 387),kS 692 388,("__dict__",694,r 391),("__weakref__",696,r 392),kD 697] 4,
 Y "Entry" [t "object"] [r 390,t "object"] 389 "Entry" [] [] [none,none,some (s "Entry" 642),some (s "Entry" 650),some (b "object.__new__"),some (o true)],
 G (t "getset_descriptor") [s "__dict__" 693,r 390,b "function.__dict__",b "function.__dict__#set"],
 G (t "getset_descriptor") [s "__weakref__" 695,r 390,b "ExceptionGroup.__weakref__",n],
 G (t "super") [r 390,r 390,r 390],
 gA [b "object.__init_subclass__",r 390],
 T [],
 gA [b "type.__prepare__",t "type"],
 dA P [kM 707 Tu,kQ 709 "Segment",kL 711 120,kI 720 408,kS 723 409] 5,
 T [],
 G n [i 122 0,i 4 0,r 407]]
def tK (P:Params):List Obj:=[
 cB "Segment" "Segment" 702 120 0 0 0 398 705,
 sA 400 3 397 Tu,
 T [],
 G n [],
 T [s "self" 715,s "entries" 716,s "is_open" 717],
 T [],
 fA "__init__" "Segment.__init__" (Z_ 0 (tp 34)),
 cA "__init__" "Segment.__init__" 712 122 3 0 3 402 718,
 fB "__init__" "Segment.__init__" (Z_ 0 (tp 34)) 3 [] n n Tu none (r 407) n,
 T [s "added" 721,s "is_open" 722],
 dA P [kM 707 Tu,kL 711 120,kI 720 408,kS 723 409,("__dict__",725,r 412),("__weakref__",727,r 413),kD 728] 4,
 Y "Segment" [t "object"] [r 411,t "object"] 410 "Segment" [] [] [none,none,some (s "Segment" 700),some (s "Segment" 708),some (b "object.__new__"),some (o true)],
 G (t "getset_descriptor") [s "__dict__" 724,r 411,b "function.__dict__",b "function.__dict__#set"],
 G (t "getset_descriptor") [s "__weakref__" 726,r 411,b "ExceptionGroup.__weakref__",n],
 G (t "super") [r 411,r 411,r 411],
 gA [b "object.__init_subclass__",r 411],
 T [],
 G n [],
 fA "live_entries" "live_entries" (tp 35),
 cC "live_entries" "live_entries" 731 125 2 0 3 416 734,
 fB "live_entries" "live_entries" (tp 35) 3 [] n n Tu none (r 419) n,
 T [],
 G n [],
 T [s "segment" 740,s "kept" 741,s "live" 742],
 T [],
 fA "segment_row" "segment_row" (tp 36),
 cA "segment_row" "segment_row" 737 127 2 0 3 421 743,
 fB "segment_row" "segment_row" (tp 36) 3 [] n n Tu none (r 426) n,
 T [s "text" 748,s "number" 749],
 T [],
 G n [],
 T [s "value" 758],
 T [],
 fA "is_field_row" "is_field_row" (tp 40),
 cA "is_field_row" "is_field_row" 755 133 1 0 3 429 759,
 fB "is_field_row" "is_field_row" (tp 40) 3 [] n n Wq none (r 434) n,
 T [],
 G n [],
 fA "need_schema" "need_schema" (tp 41),
 cC "need_schema" "need_schema" 762 137 1 0 3 436 765]
def tJ (P:Params):List Obj:=[
 fB "need_schema" "need_schema" (tp 41) 3 [] n n Wq none (r 439) n,
 T [],
 G n [],
 T [s "schema" 771,s "field" 772],
 T [],
 fA "kind_of_field" "kind_of_field" (tp 42),
 cA "kind_of_field" "kind_of_field" 768 144 2 0 3 441 773,
 fB "kind_of_field" "kind_of_field" (tp 42) 3 [] n n Wq none (r 446) n,
 T [],
 G n [],
 T [s "value" 779],
 T [],
 fA "need_key" "need_key" (tp 43),
 cA "need_key" "need_key" 776 146 1 0 3 448 780,
 fB "need_key" "need_key" (tp 43) 3 [] n n Wq none (r 453) n,
 T [],
 G n [],
 T [s "kind" 786,s "value" 787],
 T [],
 fA "is_value_for" "is_value_for" (tp 44),
 cA "is_value_for" "is_value_for" 783 149 2 0 3 455 788,
 fB "is_value_for" "is_value_for" (tp 44) 3 [] n n Wq none (r 460) n,
 T [],
 G n [],
 fA "need_document" "need_document" (tp 45),
 cC "need_document" "need_document" 791 153 2 0 3 462 794,
 fB "need_document" "need_document" (tp 45) 3 [] n n Wq none (r 465) n,
 T [],
 gA [b "type.__prepare__",t "type"],
 dA P [kM 804 Wq,kQ 806 "View",kL 808 158,kI 816 480,("size",824,r 488),("all_keys",832,r 496),("vocabulary",840,r 504),("document",848,r 511),("frequency",857,r 518),("average",865,r 525),("terms",875,r 533),("postings",884,r 540),("__len__",891,r 547),("__contains__",899,r 554),("has_documents_of",905,r 559),kS 908 560] 16,
 T [],
 G n [i 160 0,i 4 0,r 479,i 165 0,i 4 0,r 486,i 169 0,i 4 0,r 494,i 173 0,i 4 0,r 502,i 176 0,i 4 0,r 510,i 182 0,i 4 0,r 517,i 185 0,i 4 0,r 524,i 188 0,i 4 0,r 532,i 191 0,i 4 0,r 539,i 194 0,i 4 0,r 546,i 197 0,i 4 0,r 553,i 200 0,i 4 0,r 558],
 cB "View" "View" 799 158 0 0 0 470 802,
 sA 472 3 469 Wq,
 T [],
 G n [],
 T [s "self" 812,s "schema" 813],
 T [],
 fA "__init__" "View.__init__" (Z_ 0 (tp 46)),
 cA "__init__" "View.__init__" 809 160 2 0 3 474 814]
def tH (P:Params):List Obj:=[
 fB "__init__" "View.__init__" (Z_ 0 (tp 46)) 3 [] n n Wq none (r 479) n,
 T [],
 G n [],
 T [s "self" 820],
 T [],
 fA "size" "View.size" (Z_ 1 (tp 46)),
 cA "size" "View.size" 817 164 1 0 3 481 821,
 fB "size" "View.size" (Z_ 1 (tp 46)) 3 [] n n Wq none (r 486) n,
 G (t "property") [r 487,n,n,n,s "size" 824,o false],
 T [],
 G n [],
 T [s "self" 828],
 T [],
 fA "all_keys" "View.all_keys" (Z_ 2 (tp 46)),
 cA "all_keys" "View.all_keys" 825 168 1 0 3 489 829,
 fB "all_keys" "View.all_keys" (Z_ 2 (tp 46)) 3 [] n n Wq none (r 494) n,
 G (t "property") [r 495,n,n,n,s "all_keys" 832,o false],
 T [],
 G n [],
 T [s "self" 836],
 T [],
 fA "vocabulary" "View.vocabulary" (Z_ 3 (tp 46)),
 cA "vocabulary" "View.vocabulary" 833 172 1 0 3 497 837,
 fB "vocabulary" "View.vocabulary" (Z_ 3 (tp 46)) 3 [] n n Wq none (r 502) n,
 G (t "property") [r 503,n,n,n,s "vocabulary" 840,o false],
 T [],
 G n [],
 T [s "self" 844,s "key" 845],
 T [],
 fA "document" "View.document" (Z_ 4 (tp 46)),
 cA "document" "View.document" 841 176 2 0 3 505 846,
 fB "document" "View.document" (Z_ 4 (tp 46)) 3 [] n n Wq none (r 510) n,
 T [],
 G n [],
 T [s "self" 852,s "field" 853,s "word" 854],
 T [],
 fA "frequency" "View.frequency" (Z_ 5 (tp 46)),
 cA "frequency" "View.frequency" 849 182 3 0 3 512 855,
 fB "frequency" "View.frequency" (Z_ 5 (tp 46)) 3 [] n n Wq none (r 517) n,
 T []]
def tG (P:Params):List Obj:=[
 G n [],
 T [s "self" 861,s "field" 862],
 T [],
 fA "average" "View.average" (Z_ 6 (tp 46)),
 cA "average" "View.average" 858 185 2 0 3 519 863,
 fB "average" "View.average" (Z_ 6 (tp 46)) 3 [] n n Wq none (r 524) n,
 T [s "" 866],
 T [],
 G n [],
 T [s "self" 870,s "field" 871,s "start" 872],
 T [],
 fA "terms" "View.terms" (Z_ 7 (tp 46)),
 cA "terms" "View.terms" 867 188 3 0 3 527 873,
 fB "terms" "View.terms" (Z_ 7 (tp 46)) 3 [] (r 526) n Wq none (r 532) n,
 T [],
 G n [],
 T [s "self" 879,s "field" 880,s "word" 881],
 T [],
 fA "postings" "View.postings" (Z_ 8 (tp 46)),
 cA "postings" "View.postings" 876 191 3 0 3 534 882,
 fB "postings" "View.postings" (Z_ 8 (tp 46)) 3 [] n n Wq none (r 539) n,
 T [],
 G n [],
 T [s "self" 888],
 T [],
 fA "__len__" "View.__len__" (Z_ 9 (tp 46)),
 cA "__len__" "View.__len__" 885 194 1 0 3 541 889,
 fB "__len__" "View.__len__" (Z_ 9 (tp 46)) 3 [] n n Wq none (r 546) n,
 T [],
 G n [],
 T [s "self" 895,s "key" 896],
 T [],
 fA "__contains__" "View.__contains__" (Z_ 10 (tp 46)),
 cA "__contains__" "View.__contains__" 892 197 2 0 3 548 897,
 fB "__contains__" "View.__contains__" (Z_ 10 (tp 46)) 3 [] n n Wq none (r 553) n,
 T [],
 G n [],
 fA "has_documents_of" "View.has_documents_of" (Z_ 11 (tp 46)),
 cC "has_documents_of" "View.has_documents_of" 900 200 2 0 3 555 903,
 fB "has_documents_of" "View.has_documents_of" (Z_ 11 (tp 46)) 3 [] n n Wq none (r 558) n]
def tF (P:Params):List Obj:=[
 T [s "kept" 906,s "schema" 907],
 dA P [kM 804 Wq,kL 808 158,kI 816 480,("size",824,r 488),("all_keys",832,r 496),("vocabulary",840,r 504),("document",848,r 511),("frequency",857,r 518),("average",865,r 525),("terms",875,r 533),("postings",884,r 540),("__len__",891,r 547),("__contains__",899,r 554),("has_documents_of",905,r 559),kS 908 560,("__dict__",910,r 563),("__weakref__",912,r 564),kD 913] 4,
 Y "View" [t "object"] [r 562,t "object"] 561 "View" [r 606,r 743] [] [none,none,some (s "View" 797),some (s "View" 805),some (b "object.__new__"),some (o true)],
 G (t "getset_descriptor") [s "__dict__" 909,r 562,b "function.__dict__",b "function.__dict__#set"],
 G (t "getset_descriptor") [s "__weakref__" 911,r 562,b "ExceptionGroup.__weakref__",n],
 G (t "super") [r 562,r 562,r 562],
 gA [b "object.__init_subclass__",r 562],
 T [r 562],
 gA [b "type.__prepare__",t "type"],
 dA P [kM 925 Ni,kQ 927 "Reader",kL 929 205,kI 938 582,("changes_since",945,r 589),("is_current",952,r 596),("__eq__",960,r 603),kS 963 604,("__classcell__",964,r 570)] 9,
 V (some (r 606)),
 T [],
 G n [i 207 0,i 4 0,r 581,i 212 0,i 4 0,r 588,i 215 0,i 4 0,r 595,i 218 0,i 4 0,r 602],
 cB "Reader" "Reader" 920 205 0 0 0 571 923,
 sA 573 3 569 Ni,
 T [r 570],
 T [s "__class__" 933],
 G n [],
 T [s "self" 934,s "index" 935],
 T [],
 fA "__init__" "Reader.__init__" (Z_ 0 (tp 48)),
 cA "__init__" "Reader.__init__" 930 207 2 0 3 576 936,
 fB "__init__" "Reader.__init__" (Z_ 0 (tp 48)) 3 [("__class__",570)] n n Ni none (r 581) (r 575),
 T [],
 G n [],
 T [s "self" 942],
 T [],
 fA "changes_since" "Reader.changes_since" (Z_ 1 (tp 48)),
 cA "changes_since" "Reader.changes_since" 939 212 1 0 3 583 943,
 fB "changes_since" "Reader.changes_since" (Z_ 1 (tp 48)) 3 [] n n Ni none (r 588) n,
 T [],
 G n [],
 T [s "self" 949],
 T [],
 fA "is_current" "Reader.is_current" (Z_ 2 (tp 48)),
 cA "is_current" "Reader.is_current" 946 215 1 0 3 590 950,
 fB "is_current" "Reader.is_current" (Z_ 2 (tp 48)) 3 [] n n Ni none (r 595) n,
 T [],
 G n [],
 T [s "self" 956,s "other" 957]]
def xV (P:Params):List Obj:=[
 T [],
 fA "__eq__" "Reader.__eq__" (Z_ 3 (tp 48)),
 cA "__eq__" "Reader.__eq__" 953 218 2 0 3 597 958,
 fB "__eq__" "Reader.__eq__" (Z_ 3 (tp 48)) 3 [] n n Ni none (r 602) n,
 T [s "kept" 961,s "own_index" 962],
 dA P [kM 925 Ni,kL 929 205,kI 938 582,("changes_since",945,r 589),("is_current",952,r 596),("__eq__",960,r 603),kS 963 604,kD 965,("__hash__",966,n)] 4,
 Y "Reader" [r 562] [r 606,r 562,t "object"] 605 "Reader" [] [] [some (r 567),none,some (s "Reader" 918),some (s "Reader" 926),some (b "object.__new__"),some (o true)],
 G (t "super") [r 606,r 606,r 606],
 gA [b "object.__init_subclass__",r 606],
 T [],
 G n [],
 T [s "value" 974],
 T [],
 fA "is_change" "is_change" (tp 50),
 cA "is_change" "is_change" 971 221 1 0 3 609 975,
 fB "is_change" "is_change" (tp 50) 3 [] n n WZ none (r 614) n,
 T [],
 gA [b "type.__prepare__",t "type"],
 dA P [kM 985 WZ,kQ 987 "Batch",kL 989 225,kI 997 629,("__enter__",1004,r 636),("__exit__",1014,r 643),kS 1018 644] 7,
 T [],
 G n [i 227 0,i 4 0,r 628,i 232 0,i 4 0,r 635,i 237 0,i 4 0,r 642],
 cB "Batch" "Batch" 980 225 0 0 0 619 983,
 sA 621 3 618 WZ,
 T [],
 G n [],
 T [s "self" 993,s "index" 994],
 T [],
 fA "__init__" "Batch.__init__" (Z_ 0 (tp 51)),
 cA "__init__" "Batch.__init__" 990 227 2 0 3 623 995,
 fB "__init__" "Batch.__init__" (Z_ 0 (tp 51)) 3 [] n n WZ none (r 628) n,
 T [],
 G n [],
 T [s "self" 1001],
 T [],
 fA "__enter__" "Batch.__enter__" (Z_ 1 (tp 51)),
 cA "__enter__" "Batch.__enter__" 998 232 1 0 3 630 1002,
 fB "__enter__" "Batch.__enter__" (Z_ 1 (tp 51)) 3 [] n n WZ none (r 635) n,
 T [],
 G n [],
 T [s "self" 1008,s "kind" 1009,s "value" 1010,s "trace" 1011]]
def xU (P:Params):List Obj:=[
 T [],
 fA "__exit__" "Batch.__exit__" (Z_ 2 (tp 51)),
 cA "__exit__" "Batch.__exit__" 1005 237 4 0 3 637 1012,
 fB "__exit__" "Batch.__exit__" (Z_ 2 (tp 51)) 3 [] n n WZ none (r 642) n,
 T [s "index" 1015,s "kept" 1016,s "pieces" 1017],
 dA P [kM 985 WZ,kL 989 225,kI 997 629,("__enter__",1004,r 636),("__exit__",1014,r 643),kS 1018 644,("__dict__",1020,r 647),("__weakref__",1022,r 648),kD 1023] 4,
 Y "Batch" [t "object"] [r 646,t "object"] 645 "Batch" [] [] [none,none,some (s "Batch" 978),some (s "Batch" 986),some (b "object.__new__"),some (o true)],
 G (t "getset_descriptor") [s "__dict__" 1019,r 646,b "function.__dict__",b "function.__dict__#set"],
 G (t "getset_descriptor") [s "__weakref__" 1021,r 646,b "ExceptionGroup.__weakref__",n],
 G (t "super") [r 646,r 646,r 646],
 gA [b "object.__init_subclass__",r 646],
 T [r 562],
 gA [b "type.__prepare__",t "type"],
 dA P [kM 1033 WZ,kQ 1035 "Index",kL 1037 241,kI 1046 666,("segments",1053,r 672),("put",1066,r 679),("delete",1072,r 684),("make_change",1080,r 691),("change",1090,r 698),("batch",1097,r 705),("flush",1104,r 712),("merge",1117,r 719),("copy_of",1124,r 726),("reader",1131,r 733),("__eq__",1139,r 740),kS 1142 741,("__classcell__",1143,r 654)] 17,
 V (some (r 743)),
 T [],
 G n [i 243 0,i 4 0,r 665,i 249 0,i 4 0,r 670,i 252 0,i 4 0,r 678,i 266 0,i 4 0,r 683,i 272 0,i 4 0,r 690,i 280 0,i 4 0,r 697,i 285 0,i 4 0,r 704,i 288 0,i 4 0,r 711,i 292 0,i 4 0,r 718,i 304 0,i 4 0,r 725,i 307 0,i 4 0,r 732,i 310 0,i 4 0,r 739],
 cB "Index" "Index" 1028 241 0 0 0 655 1031,
 sA 657 3 653 WZ,
 T [r 654],
 T [s "__class__" 1041],
 G n [],
 T [s "self" 1042,s "schema" 1043],
 T [],
 fA "__init__" "Index.__init__" (Z_ 0 (tp 52)),
 cA "__init__" "Index.__init__" 1038 243 2 0 3 660 1044,
 fB "__init__" "Index.__init__" (Z_ 0 (tp 52)) 3 [("__class__",654)] n n WZ none (r 665) (r 659),
 T [],
 G n [],
 fA "segments" "Index.segments" (Z_ 1 (tp 52)),
 cC "segments" "Index.segments" 1047 248 1 0 3 667 1050,
 fB "segments" "Index.segments" (Z_ 1 (tp 52)) 3 [] n n WZ none (r 670) n,
 G (t "property") [r 671,n,n,n,s "segments" 1053,o false],
 T [],
 G n [],
 T [s "self" 1057,s "key" 1058,s "document" 1059,s "is_old" 1060,s "entry" 1061,s "closed" 1062,s "entries" 1063],
 T [],
 fA "put" "Index.put" (Z_ 2 (tp 52)),
 cA "put" "Index.put" 1054 252 3 0 3 673 1064,
 fB "put" "Index.put" (Z_ 2 (tp 52)) 3 [] n n WZ none (r 678) n]
def tE (P:Params):List Obj:=[
 T [],
 G n [],
 fA "delete" "Index.delete" (Z_ 3 (tp 52)),
 cC "delete" "Index.delete" 1067 266 2 0 3 680 1070,
 fB "delete" "Index.delete" (Z_ 3 (tp 52)) 3 [] n n WZ none (r 683) n,
 T [],
 G n [],
 T [s "self" 1076,s "change" 1077],
 T [],
 fA "make_change" "Index.make_change" (Z_ 4 (tp 52)),
 cA "make_change" "Index.make_change" 1073 272 2 0 3 685 1078,
 fB "make_change" "Index.make_change" (Z_ 4 (tp 52)) 3 [] n n WZ none (r 690) n,
 T [],
 G n [],
 T [s "self" 1084,s "changes" 1085,s "inner" 1086,s "change" 1087],
 T [],
 fA "change" "Index.change" (Z_ 5 (tp 52)),
 cA "change" "Index.change" 1081 280 1 0 7 692 1088,
 fB "change" "Index.change" (Z_ 5 (tp 52)) 3 [] n n WZ none (r 697) n,
 T [],
 G n [],
 T [s "self" 1094],
 T [],
 fA "batch" "Index.batch" (Z_ 6 (tp 52)),
 cA "batch" "Index.batch" 1091 285 1 0 3 699 1095,
 fB "batch" "Index.batch" (Z_ 6 (tp 52)) 3 [] n n WZ none (r 704) n,
 T [],
 G n [],
 T [s "self" 1101],
 T [],
 fA "flush" "Index.flush" (Z_ 7 (tp 52)),
 cA "flush" "Index.flush" 1098 288 1 0 3 706 1102,
 fB "flush" "Index.flush" (Z_ 7 (tp 52)) 3 [] n n WZ none (r 711) n,
 T [],
 G n [],
 T [s "self" 1108,s "first" 1109,s "last" 1110,s "number" 1111,s "live" 1112,s "piece" 1113,s "merged" 1114],
 T [],
 fA "merge" "Index.merge" (Z_ 8 (tp 52)),
 cA "merge" "Index.merge" 1105 292 3 0 3 713 1115,
 fB "merge" "Index.merge" (Z_ 8 (tp 52)) 3 [] n n WZ none (r 718) n]
def tD (P:Params):List Obj:=[
 T [],
 G n [],
 T [s "self" 1121],
 T [],
 fA "copy_of" "Index.copy_of" (Z_ 9 (tp 52)),
 cA "copy_of" "Index.copy_of" 1118 304 1 0 3 720 1122,
 fB "copy_of" "Index.copy_of" (Z_ 9 (tp 52)) 3 [] n n WZ none (r 725) n,
 T [],
 G n [],
 T [s "self" 1128],
 T [],
 fA "reader" "Index.reader" (Z_ 10 (tp 52)),
 cA "reader" "Index.reader" 1125 307 1 0 3 727 1129,
 fB "reader" "Index.reader" (Z_ 10 (tp 52)) 3 [] n n WZ none (r 732) n,
 T [],
 G n [],
 T [s "self" 1135,s "other" 1136],
 T [],
 fA "__eq__" "Index.__eq__" (Z_ 11 (tp 52)),
 cA "__eq__" "Index.__eq__" 1132 310 2 0 3 734 1137,
 fB "__eq__" "Index.__eq__" (Z_ 11 (tp 52)) 3 [] n n WZ none (r 739) n,
 T [s "kept" 1140,s "pieces" 1141],
 dA P [kM 1033 WZ,kL 1037 241,kI 1046 666,("segments",1053,r 672),("put",1066,r 679),("delete",1072,r 684),("make_change",1080,r 691),("change",1090,r 698),("batch",1097,r 705),("flush",1104,r 712),("merge",1117,r 719),("copy_of",1124,r 726),("reader",1131,r 733),("__eq__",1139,r 740),kS 1142 741,kD 1144,("__hash__",1145,n)] 4,
 Y "Index" [r 562] [r 743,r 562,t "object"] 742 "Index" [] [] [some (r 651),none,some (s "Index" 1026),some (s "Index" 1034),some (b "object.__new__"),some (o true)],
 G (t "super") [r 743,r 743,r 743],
 gA [b "object.__init_subclass__",r 743]]
def objs (P:Params):List Obj:=h0 P++h1 P++h2 P++h3 P++h4 P++h5 P++h6 P++h7 P++h8 P++h9 P++tK P++tJ P++tH P++tG P++tF P++xV P++xU P++tE P++tD P
def mid (w:World) (os:OsState):SharedT:=⟨tr 20 (objs w.params),746,(boot_heap w.params).life,#[],boot_drawn,1148,os⟩
def Bu:Env:={ scope:=pw.main.scope,locals:=mainNs,globals:=mainNs,cells:=[],code:=r 13,frame:=some 14 }
def xT:Thread:=FL.Bv ((behindTheImports pw).drop 53) Bu (Code.body (behindTheImports pw) Bu) ⟨241,0,311,72⟩ [topFrame ⟨0,0,0,0⟩]
def n1:Nat:=6948
def n0:Nat:=11
theorem half (w:World) (os:OsState):GW (stepQ (denQ tabQ) pw w) n1 pw w os=some (n0,mid w os,xT):=by kernel_rfl
end L36.Md
namespace FL
open PySem PySem.Spec PyProof.Rows L2
theorem GV {r:PySem.W.OpenRow} {q:Program} {n M:Nat} {loose:List PySem.Str} {w:World} {Ka J_:List (PySem.W.Frag->Bool)} {ds:List Dsc} {ts:Ml}
  (h1:HandSHeadRun.RunEq r q (UG n Ka ds ts) (fun s=>G5 n Ka ds ts (HandSHeadRun.getT s)) M loose w) (h2:HandSHeadRun.RunEq r q (UG n J_ [] []) (fun s=>G5 n J_ [] [] (HandSHeadRun.getT s)) M loose w) :
  HandSHeadRun.RunEq r q (UG n (Ka++J_) ds ts) (fun s=>G5 n (Ka++J_) ds ts (HandSHeadRun.getT s)) M loose w:=by
 intro os;have a:=h1 os;have b:=h2 os;rw [Option.map_eq_some_iff] at a b ⊢;obtain ⟨s,e,a⟩:=a;obtain ⟨s',e',b⟩:=b;rw [e] at e';cases e';refine ⟨s,e,?_⟩;have a1:=congrArg Prod.fst a;have a2:=congrArg (fun z=>z.2.1) a;have a3:=congrArg (fun z=>z.2.2) a;have b3:=congrArg (fun z=>z.2.2) b;have a4:OT Ka ds ts (HandSHeadRun.getT s) (BI (HandSHeadRun.getT s) n)=(true,ds.map Dsc.val,ts.map fun _=>some QQ):=a3;have b4:OT J_ [] [] (HandSHeadRun.getT s) (BI (HandSHeadRun.getT s) n)=(true,[],[]):=b3;suffices key:OT (Ka++J_) ds ts (HandSHeadRun.getT s) (BI (HandSHeadRun.getT s) n)=(true,ds.map Dsc.val,ts.map fun _=>some QQ) by
  exact Prod.ext a1 (Prod.ext a2 key)
 unfold OT at a4 b4 ⊢;rw [Prod.mk.injEq] at a4 b4 ⊢;refine ⟨?_,a4.2⟩;obtain ⟨x,y⟩:=Bool.and_eq_true_iff.mp a4.1;obtain ⟨x1,x2⟩:=Bool.and_eq_true_iff.mp x;obtain ⟨z,_⟩:=Bool.and_eq_true_iff.mp b4.1;obtain ⟨z1,_⟩:=Bool.and_eq_true_iff.mp z;rw [List.all_append,x1,z1,x2,y];rfl
end FL
namespace FL
open PySem PySem.Spec PyProof.Rows L2
def Bt (cs:List String) (K:PySem.W.Frag):Bool:=cs.all fun c=>(He.Fa.glo (Str.ofString c)).ok K&&(decide (PySem.W.mroIn K (He.ga K (Str.ofString c)) (.type "object")=some true) &&
 (decide (PySem.W.findIn K (.ref (He.ga K (Str.ofString c))) "__eq__" = some (some (.builtin "object.__eq__")))&&decide (PySem.W.subIn K (.ref (He.ga K (Str.ofString c))) (.type "NoneType")=some false)))
end FL
namespace L36
open PySem PySem.Spec PySem.W PySem.Calls PyProof.Rows FL
abbrev Rw:OpenRow:=OpenLaw.row PySem.Challenge.rw_findlang_k36_merges
abbrev qv:Program:=view Rw.prog [64]
def names:List PySem.Str:=((["_wall","__name__","Invalid","BadKey","BadField","BadSchema","BadDocument","BadQuery","BadNumber","BadChange","Unfit","NoField","WrongKind","NoDocument","NoSegment","Excess","TooMany","MAX_TEXT","MAX_WORD","MAX_FIELDS","MAX_DOCUMENTS","MAX_NAME","LETTERS","WORD_SIGNS","is_integer","is_made_of","is_text","is_key","is_field_name","split_words","Entry","Segment","live_entries","segment_row","FIELD_KINDS","GREATEST","is_field_row","need_schema","kind_of_field","need_key"]:List String)++(["is_value_for","need_document","View","Reader","is_change","Batch","Index","_law_drawer","_law_drawn","_law_drawn_of","_law_error_of","_law_segmented","_law_segment_put","_law_segment_merge","_law_segment_flush","_law_merged_right","_law_odd_right"]:List String)).map PySem.Str.ofString
def ds:List Dsc:=[⟨pM "BadDocument" "__init__","__init__","BadDocument.__init__",Z_ 0 (tp 6),["__class__"],true⟩,
 ⟨pM "BadKey" "__init__","__init__","BadKey.__init__",Z_ 0 (tp 3),["__class__"],true⟩,
 ⟨pM "BadNumber" "__init__","__init__","BadNumber.__init__",Z_ 0 (tp 8),["__class__"],true⟩,
 ⟨pM "BadSchema" "__init__","__init__","BadSchema.__init__",Z_ 0 (tp 5),["__class__"],true⟩,
 ⟨pM "NoDocument" "__init__","__init__","NoDocument.__init__",Z_ 0 (tp 13),["__class__"],true⟩,
 ⟨pM "NoSegment" "__init__","__init__","NoSegment.__init__",Z_ 0 (tp 14),["__class__"],true⟩,
 ⟨pM "TooMany" "__init__","__init__","TooMany.__init__",Z_ 0 (tp 16),["__class__"],true⟩,
 ⟨pM "View" "__init__","__init__","View.__init__",Z_ 0 (tp 46),[],true⟩,
 ⟨pM "Index" "__init__","__init__","Index.__init__",Z_ 0 (tp 52),["__class__"],true⟩,
 ⟨pM "Segment" "__init__","__init__","Segment.__init__",Z_ 0 (tp 34),[],true⟩,
 ⟨pM "Index" "flush","flush","Index.flush",Z_ 7 (tp 52),[],true⟩,
 ⟨pM "Index" "delete","delete","Index.delete",Z_ 3 (tp 52),[],true⟩,
 ⟨pM "Entry" "__init__","__init__","Entry.__init__",Z_ 0 (tp 33),[],true⟩,
 ⟨pM "Index" "put","put","Index.put",Z_ 2 (tp 52),[],true⟩,
 ⟨pM "Index" "merge","merge","Index.merge",Z_ 8 (tp 52),[],true⟩,
 ⟨pM "Index" "segments","segments","Index.segments",Z_ 1 (tp 52),[],true⟩,
 ⟨pM "View" "document","document","View.document",Z_ 4 (tp 46),[],true⟩,
 ⟨("_law_drawer",none),"_law_drawer","_law_drawer",tp 54,[],true⟩,
 ⟨("is_made_of",none),"is_made_of","is_made_of",tp 26,[],true⟩,
 ⟨("is_field_name",none),"is_field_name","is_field_name",tp 29,[],true⟩,
 ⟨("is_field_row",none),"is_field_row","is_field_row",tp 40,[],true⟩,
 ⟨("need_schema",none),"need_schema","need_schema",tp 41,[],true⟩,
 ⟨("_law_drawn",none),"_law_drawn","_law_drawn",tp 55,[],true⟩,
 ⟨("_law_drawn_of",none),"_law_drawn_of","_law_drawn_of",tp 56,[],true⟩,
 ⟨("_law_segment_flush",none),"_law_segment_flush","_law_segment_flush",tp 61,[],true⟩,
 ⟨("is_key",none),"is_key","is_key",tp 28,[],true⟩,
 ⟨("need_key",none),"need_key","need_key",tp 43,[],true⟩,
 ⟨("is_text",none),"is_text","is_text",tp 27,[],true⟩,
 ⟨("is_integer",none),"is_integer","is_integer",tp 25,[],true⟩,
 ⟨("is_value_for",none),"is_value_for","is_value_for",tp 44,[],true⟩,
 ⟨("kind_of_field",none),"kind_of_field","kind_of_field",tp 42,[],true⟩,
 ⟨("need_document",none),"need_document","need_document",tp 45,[],true⟩,
 ⟨("split_words",none),"split_words","split_words",tp 31,[],true⟩,
 ⟨("_law_segment_put",none),"_law_segment_put","_law_segment_put",tp 59,[],true⟩,
 ⟨("_law_error_of",none),"_law_error_of","_law_error_of",tp 57,[],true⟩,
 ⟨("live_entries",none),"live_entries","live_entries",tp 35,[],true⟩,
 ⟨("_law_segment_merge",none),"_law_segment_merge","_law_segment_merge",tp 60,[],true⟩,
 ⟨("segment_row",none),"segment_row","segment_row",tp 36,[],true⟩,
 ⟨("_law_segmented",none),"_law_segmented","_law_segmented",tp 58,[],true⟩,
 ⟨("_law_merged_right",none),"_law_merged_right","_law_merged_right",tp 62,[],true⟩,
 ⟨("_law_odd_right",none),"_law_odd_right","_law_odd_right",tp 63,[],true⟩,
 ⟨("law",none),"law","law",tp 64,[],true⟩]
def Ka:List (PySem.W.Frag->Bool):=[fun K=>(He.Fa.free "all").ok K,
 fun K=>(He.Fa.free "bool").ok K,
 fun K=>(He.Fa.free "dict").ok K,
 fun K=>(He.Fa.free "int").ok K,
 fun K=>(He.Fa.free "isinstance").ok K,
 fun K=>(He.Fa.free "len").ok K,
 fun K=>(He.Fa.free "max").ok K,
 fun K=>(He.Fa.free "min").ok K,
 fun K=>(He.Fa.free "range").ok K,
 fun K=>(He.Fa.free "set").ok K,
 fun K=>(He.Fa.free "str").ok K,
 fun K=>(He.Fa.free "super").ok K,
 fun K=>(He.Fa.free "tuple").ok K,
 fun K=>(He.Fa.int "GREATEST" 1000000000).ok K,
 fun K=>(He.Fa.str "LETTERS" "abcdefghijklmnopqrstuvwxyz").ok K,
 fun K=>(He.Fa.int "MAX_DOCUMENTS" 500).ok K,
 fun K=>(He.Fa.int "MAX_FIELDS" 6).ok K,
 fun K=>(He.Fa.int "MAX_NAME" 12).ok K,
 fun K=>(He.Fa.int "MAX_TEXT" 400).ok K,
 fun K=>(He.Fa.int "MAX_WORD" 20).ok K,
 fun K=>(He.Fa.str "WORD_SIGNS" "abcdefghijklmnopqrstuvwxyz0123456789").ok K,
 tTup "FIELD_KINDS" ([lit "text",lit "number"].map toS),
 fun K=>(He.Fa.glo "BadDocument").ok K,
 J9 "BadDocument" "reason",
 tCell "BadDocument" "__init__" PySem.Challenge.pw_findlang_k36_merges.main.file,
 fun K=>(He.Fa.glo "BadKey").ok K,
 J9 "BadKey" "reason",
 tCell "BadKey" "__init__" PySem.Challenge.pw_findlang_k36_merges.main.file,
 fun K=>(He.Fa.glo "BadNumber").ok K,
 J9 "BadNumber" "reason",
 tCell "BadNumber" "__init__" PySem.Challenge.pw_findlang_k36_merges.main.file,
 fun K=>(He.Fa.glo "BadSchema").ok K,
 J9 "BadSchema" "reason",
 tCell "BadSchema" "__init__" PySem.Challenge.pw_findlang_k36_merges.main.file,
 fun K=>(He.Fa.glo "NoDocument").ok K,
 OP .look "NoDocument" "absent",
 tCell "NoDocument" "__init__" PySem.Challenge.pw_findlang_k36_merges.main.file,
 fun K=>(He.Fa.glo "NoSegment").ok K,
 OP .look "NoSegment" "reason",
 tCell "NoSegment" "__init__" PySem.Challenge.pw_findlang_k36_merges.main.file,
 fun K=>(He.Fa.glo "TooMany").ok K,
 OP .arit "TooMany" "most",
 tCell "TooMany" "__init__" PySem.Challenge.pw_findlang_k36_merges.main.file,
 fun K=>(He.Fa.glo "Invalid").ok K,
 fun K=>(He.Fa.glo "Unfit").ok K,
 fun K=>(He.Fa.glo "Excess").ok K,
 Nj ["Invalid","Unfit","Excess"] XG,
 fun K=>(He.Fa.glo "BadChange").ok K,
 fun K=>(He.Fa.glo "BadField").ok K,
 fun K=>(He.Fa.glo "BadQuery").ok K]
def J_:List (PySem.W.Frag->Bool):=[fun K=>(He.Fa.glo "Entry").ok K,
 fun K=>(He.Fa.glo "Index").ok K,
 fun K=>(He.Fa.glo "NoField").ok K,
 fun K=>(He.Fa.glo "Segment").ok K,
 fun K=>(He.Fa.glo "WrongKind").ok K,
 J2 DH,
 J0 GZ,
 OQ GX,
 Mj "Index" "__init__",
 fun K=>(He.Fa.mkr "Index").ok K,
 Mj "Segment" "__init__",
 fun K=>(He.Fa.mkr "Segment").ok K,
 Mj "Entry" "__init__",
 fun K=>(He.Fa.mkr "Entry").ok K,
 tCell "Index" "__init__" PySem.Challenge.pw_findlang_k36_merges.main.file,
 DJ "Index" "Index" "View" "__init__",
 Sr "_law_drawer",
 Sr "is_made_of",
 Sr "is_field_name",
 Sr "is_field_row",
 Sr "need_schema",
 Sr "_law_drawn",
 Sr "_law_drawn_of",
 Sr "_law_segment_flush",
 Sr "is_key",
 Sr "need_key",
 Sr "is_text",
 Sr "is_integer",
 Sr "is_value_for",
 Sr "kind_of_field",
 Sr "need_document",
 Sr "split_words",
 Sr "_law_segment_put",
 Sr "_law_error_of",
 Sr "live_entries",
 Sr "_law_segment_merge",
 Sr "segment_row",
 Sr "_law_segmented",
 Sr "_law_merged_right",
 Sr "_law_odd_right",
 Qz ["Index"] (Str.ofString "Index") (Str.ofString "flush"),
 Qz ["Index"] (Str.ofString "Index") (Str.ofString "delete"),
 Qz ["Index"] (Str.ofString "Index") (Str.ofString "put"),
 Qz ["Index"] (Str.ofString "Index") (Str.ofString "merge"),
 Qz ["Index"] (Str.ofString "View") (Str.ofString "document"),
 Bt ["Entry"],
 Ln ["NoDocument"] "absent",
 Ln ["TooMany"] "most",
 Ln ["NoField"] "missing",
 Ln ["WrongKind"] "mistaken",
 Sr "law"]
def fs:List (PySem.W.Frag->Bool):=Ka++J_
def ts:Ml:=[(("_law_merged_right",none),"_law_merged_right.<locals>.<lambda>"),(("_law_odd_right",none),"_law_odd_right.<locals>.<lambda>")]
abbrev hk:PySem.W.Hook:=UG 5 fs ds ts
def ob (s:PySem.W.SharedT):Em:=G5 5 fs ds ts (HandSHeadRun.getT s)
theorem rest1 (w:World) (os:OsState):(HandSHeadRun.goF (HandSHeadRun.stepQ (HandSHeadRun.denQ HandSHeadRun.tabQ) Md.pw w) Md.n0 (HandSHeadRun.bootAnn w) 40000 (Md.mid w os) Md.xT).map (fun s=>(HandSHeadRun.looksF Rw.prog (boot_heap w.params) s.abs,HandSHeadRun.seenQ qv names (importedModules Rw.prog.main.body) (fun s=>xlAt qv [] s&&recOk Rw.toRowW.records s) s.abs,G5 5 Ka ds ts (HandSHeadRun.getT s)))=some (true,openGood qv names,(UG 5 Ka ds ts).val w):=by kernel_rfl
theorem xR (w:World):HandSHeadRun.RunEq Rw qv (UG 5 Ka ds ts) (fun s=>G5 5 Ka ds ts (HandSHeadRun.getT s)) (Md.n1+40000) names w:=Mf (Md.half w) (rest1 w)
theorem rest2 (w:World) (os:OsState):(HandSHeadRun.goF (HandSHeadRun.stepQ (HandSHeadRun.denQ HandSHeadRun.tabQ) Md.pw w) Md.n0 (HandSHeadRun.bootAnn w) 40000 (Md.mid w os) Md.xT).map (fun s=>(HandSHeadRun.looksF Rw.prog (boot_heap w.params) s.abs,HandSHeadRun.seenQ qv names (importedModules Rw.prog.main.body) (fun s=>xlAt qv [] s&&recOk Rw.toRowW.records s) s.abs,G5 5 J_ [] [] (HandSHeadRun.getT s)))=some (true,openGood qv names,(UG 5 J_ [] []).val w):=by kernel_rfl
theorem xQ (w:World):HandSHeadRun.RunEq Rw qv (UG 5 J_ [] []) (fun s=>G5 5 J_ [] [] (HandSHeadRun.getT s)) (Md.n1+40000) names w:=Mf (Md.half w) (rest2 w)
set_option maxHeartbeats 0 in
theorem run (w:World):HandSHeadRun.RunEq Rw qv hk ob (Md.n1+40000) names w:=GV (xR w) (xQ w)
end L36
namespace L36
open PySem PySem.Spec PyProof.Rows L2 FL LamX
set_option maxHeartbeats 0 in
theorem bare_ok:(PySem.W.OpenLaw.row PySem.Challenge.rw_findlang_k36_merges).prog.bare:=⟨rfl,rfl,rfl,rfl,rfl,by decide +kernel⟩
end L36
set_option Elab.async false
set_option linter.all false
set_option maxRecDepth 100000
set_option maxHeartbeats 4000000
namespace FL
open PySem L2 LamX
theorem Wz (x:Tx):(toS x).length=x.length:=by simp [toS,Str.length]
theorem GU (x y:Tx):toS x++toS y=toS (x++y):=by
 show Str.append (toS x) (toS y)=_;simp [toS,Str.append]
theorem RX {x y:Tx} (h:toS x=toS y):x=y:=by
 have:=congrArg (fun z=>z.cps.toList) h;simpa [toS] using this
theorem U7 (s:String):Str.ofString s=toS (lit s):=Str.ofString_eq_toList s
def DK.key:DK->Key
 | .i n=>.inl n
 | .s x=>.inr (toS x)
abbrev D.ro (xs:List D):D:=.fx .ro [] xs
abbrev D.rc (xs:List D):D:=.fx .rc [] xs
abbrev D.dcf (ks:List DK) (vs:List D):D:=.fx .df ks vs
def Own.isF:Own->Bool
 | .fdc _ _=>true
 | _=>false
def ZC (Z:Hp) (a:Addr) (c:Own):Prop:=(c.isF=false->Z a=none)/\(c.isF=true->∃ ob kvs,Z a=some (.frz ob (.dK kvs)))
theorem ZC.z {Z:Hp} {a:Addr} {c:Own} (h:ZC Z a c) (hc:c.isF=false):Z a=none:=h.1 hc
theorem ZC.at {Z Z':Hp} {a:Addr} {c:Own} (h:ZC Z a c) (e:Z' a=Z a):ZC Z' a c:=by
 unfold ZC at *;rw [e]; exact h
theorem ZC.of {Z:Hp} {a:Addr} {c:Own} (h:Z a=none) (hc:c.isF=false):ZC Z a c:=⟨fun _=>h,fun z=>by rw [hc] at z; cases z⟩
inductive Slot where
 | fr (d:D) | own (o:Own)
def Slot.d:Slot->D
 | .fr d=>d
 | .own o=>o.d
def Sf (a:Addr) (cls:Value) (d:Option Addr):HO:=.ext fun h => ∃ oe vs,h.get? a=some oe/\oe.cls=cls/\oe.dict=d/\oe.data = .fields vs
section
variable (K : PySem.W.Frag) (mg : Str -> Option Value) (F : Hp) (ρ : List Addr)
mutual
inductive Rep:V->D->Prop where
 | non:Rep .non .non
 | bl {b}:Rep (.bl b) (.bl b)
 | int {i}:Rep (.int i) (.int i)
 | str {x}:Rep (.str (toS x)) (.str x)
 | lst {p vs ds} (h:F p=some (.lst vs)) (r:RepL vs ds):Rep (.ref p) (.lst ds)
 | ro {p vs ds} (h:SqL K F p vs) (r:RepL vs ds):Rep (.ref p) (.ro ds)
 | tup {p vs ds} (h:SqT K F p vs) (r:RepL vs ds):Rep (.ref p) (.tup ds)
 | dct {p ks vs ds} (h:Rd F p (.dK ((ks.map DK.key).zip vs))) (l:ks.length=vs.length) (r:RepL vs ds):Rep (.ref p) (.dct ks ds)
 | obj {k p} (h:ρ[k]?=some p):Rep (.ref p) (.obj k)
 | glo {x v u} (h:mg (Str.ofString x)=some u) (r:RelV v u):Rep v (.glo x)
 | ty {n}:Rep (.ty n) (.ty n)
 | exn {c attr C dx v d p} (h:mg (Str.ofString c)=some (.ref C)) (e:Rd F dx (.xd [(Str.ofString attr,v)])) (o:F p=some (Sf p (.ref C) (some dx))) (r:Rep v d):Rep (.ref p) (.exn c attr d)
 | ins {c C dx ks vs ds p} (h:mg (Str.ofString c)=some (.ref C)) (e:F p=some (.ins C dx ((ks.map Str.ofString).zip vs))) (o:F dx=some (.own p)) (l:ks.length=vs.length) (r:RepL vs ds):Rep (.ref p) (.ins c ks ds)
 | unk {p}:Rep (.ref p) .unk
 | rc {o p vs ds} (h:F p=some (.frz o (.tup vs))) (hd:o.dict=none) (r:RepL vs ds):Rep (.ref p) (.rc ds)
 | dcf {o p ks vs ds} (h:F p=some (.frz o (.dK ((ks.map DK.key).zip vs)))) (l:ks.length=vs.length) (r:RepL vs ds):Rep (.ref p) (.dcf ks ds)
inductive RepL:List V->List D->Prop where
 | nil:RepL [] []
 | cons {v d vs ds} (h:Rep v d) (t:RepL vs ds):RepL (v :: vs) (d :: ds)
end
end
structure Le (Z F F':Hp):Prop where
 to:∀ p o,F p=some o->F' p=some o
 new:∀ p o,F' p=some o->F p=some o\/Z p=none
structure LeR (Z:Hp) (ρ ρ':List Addr):Prop where
 to:∀ (k:Nat) p,ρ[k]?=some p->ρ'[k]?=some p
 new:∀ p∈ρ',p∈ρ\/Z p=none
theorem Le.refl {Z F:Hp}:Le Z F F:=⟨fun _ _ h=>h,fun _ _ h=>.inl h⟩
theorem Le.trans {Z F F1 F2:Hp} (a:Le Z F F1) (b:Le Z F1 F2):Le Z F F2 :=
 ⟨fun p o h=>b.to p o (a.to p o h),fun p o h=>(b.new p o h).elim (fun h=>a.new p o h) .inr⟩
theorem LeR.refl {Z:Hp} {ρ:List Addr}:LeR Z ρ ρ:=⟨fun _ _ h=>h,fun _ h=>.inl h⟩
theorem LeR.trans {Z:Hp} {ρ ρ1 ρ2:List Addr} (a:LeR Z ρ ρ1) (b:LeR Z ρ1 ρ2):LeR Z ρ ρ2 :=
 ⟨fun k p h=>b.to k p (a.to k p h),fun p h=>(b.new p h).elim (fun h=>a.new p h) .inr⟩
section
variable {K : PySem.W.Frag} {mg : Str -> Option Value} {Z F F' : Hp} {ρ ρ' : List Addr}
theorem Rd.up (l:∀ p o,F p=some o->F' p=some o) {p:Addr} {u:HO} (h:Rd F p u):Rd F' p u:=by
 rcases h with h | ⟨o,h⟩
 ·exact .inl (l _ _ h)
 ·exact .inr ⟨o,l _ _ h⟩
theorem SqL.up (l:∀ p o,F p=some o->F' p=some o) {p:Addr} {xs:List V} (h:SqL K F p xs):SqL K F' p xs :=
 h.elim (fun h=>.inl (Rd.up l h)) .inr
theorem SqT.up (l:∀ p o,F p=some o->F' p=some o) {p:Addr} {xs:List V} (h:SqT K F p xs):SqT K F' p xs :=
 h.elim (fun h=>.inl (Rd.up l h)) .inr
mutual
theorem Rep.up (l:∀ p o,F p=some o->F' p=some o) (lr:∀ (k:Nat) p,ρ[k]?=some p->ρ'[k]?=some p) :
  ∀ {v:V} {d:D},Rep K mg F ρ v d->Rep K mg F' ρ' v d
 | _,_,.non=>.non
 | _,_,.bl=>.bl
 | _,_,.int=>.int
 | _,_,.str=>.str
 | _,_,.lst h r=>.lst (l _ _ h) (RepL.up l lr r)
 | _,_,.ro h r=>.ro (SqL.up l h) (RepL.up l lr r)
 | _,_,.tup h r=>.tup (SqT.up l h) (RepL.up l lr r)
 | _,_,.dct h e r=>.dct (Rd.up l h) e (RepL.up l lr r)
 | _,_,.obj h=>.obj (lr _ _ h)
 | _,_,.glo h r=>.glo h r
 | _,_,.ty=>.ty
 | _,_,.exn h e o r=>.exn h (Rd.up l e) (l _ _ o) (Rep.up l lr r)
 | _,_,.ins h e o n r=>.ins h (l _ _ e) (l _ _ o) n (RepL.up l lr r)
 | _,_,.unk=>.unk
 | _,_,.rc h hd r=>.rc (l _ _ h) hd (RepL.up l lr r)
 | _,_,.dcf h e r=>.dcf (l _ _ h) e (RepL.up l lr r)
theorem RepL.up (l:∀ p o,F p=some o->F' p=some o) (lr:∀ (k:Nat) p,ρ[k]?=some p->ρ'[k]?=some p) :
  ∀ {vs:List V} {ds:List D},RepL K mg F ρ vs ds->RepL K mg F' ρ' vs ds
 | _,_,.nil=>.nil
 | _,_,.cons h t=>.cons (Rep.up l lr h) (RepL.up l lr t)
end
theorem RepL.len:∀ {vs:List V} {ds:List D},RepL K mg F ρ vs ds->vs.length=ds.length
 | _,_,.nil=>rfl
 | _,_,.cons _ t=>by rw [List.length_cons,List.length_cons,RepL.len t]
theorem RepL.app:∀ {vs ws:List V} {ds es:List D},RepL K mg F ρ vs ds->RepL K mg F ρ ws es->RepL K mg F ρ (vs++ws) (ds++es)
 | _,_,_,_,.nil,h=>h
 | _,_,_,_,.cons h t,r=>.cons h (RepL.app t r)
theorem RepL.get:∀ {vs:List V} {ds:List D} {i:Nat} {d:D},RepL K mg F ρ vs ds->ds[i]?=some d->∃ v,vs[i]?=some v/\Rep K mg F ρ v d
 | _,_,_,_,.nil,e=>by simp at e
 | _,_,0,_,.cons h _,e=>by simp at e; subst e; exact ⟨_,rfl,h⟩
 | _,_,i+1,_,.cons _ t,e=>by
   obtain ⟨v,h1,h2⟩:=RepL.get (i:=i) t (by simpa using e);exact ⟨v,by simpa using h1,h2⟩
theorem RepL.getV:∀ {vs:List V} {ds:List D} {i:Nat} {v:V},RepL K mg F ρ vs ds->vs[i]?=some v->∃ d,ds[i]?=some d/\Rep K mg F ρ v d
 | _,_,_,_,.nil,e=>by simp at e
 | _,_,0,_,.cons h _,e=>by simp at e; subst e; exact ⟨_,rfl,h⟩
 | _,_,i+1,_,.cons _ t,e=>by
   obtain ⟨v,h1,h2⟩:=RepL.getV (i:=i) t (by simpa using e);exact ⟨v,by simpa using h1,h2⟩
theorem RepL.take:∀ {vs:List V} {ds:List D} (n:Nat),RepL K mg F ρ vs ds->RepL K mg F ρ (vs.take n) (ds.take n)
 | _,_,0,_=>.nil
 | _,_,_+1,.nil=>.nil
 | _,_,n+1,.cons h t=>.cons h (RepL.take n t)
theorem RepL.drop:∀ {vs:List V} {ds:List D} (n:Nat),RepL K mg F ρ vs ds->RepL K mg F ρ (vs.drop n) (ds.drop n)
 | _,_,0,r=>r
 | _,_,_+1,.nil=>.nil
 | _,_,n+1,.cons h t=>RepL.drop n t
theorem RepL.set {v:V} {d:D} (r:Rep K mg F ρ v d):∀ {vs:List V} {ds:List D} (i:Nat),RepL K mg F ρ vs ds->RepL K mg F ρ (vs.set i v) (ds.set i d)
 | _,_,_,.nil=>.nil
 | _,_,0,.cons _ t=>.cons r t
 | _,_,i+1,.cons h t=>.cons h (RepL.set r i t)
theorem RepL.ofInts:∀ (ns:List Int),RepL K mg F ρ (ns.map V.int) (ns.map D.int)
 | []=>.nil
 | _ :: ns=>.cons .int (RepL.ofInts ns)
theorem RepL.ofStrs:∀ (xs:List Tx),RepL K mg F ρ ((xs.map toS).map V.str) (xs.map D.str)
 | []=>.nil
 | _ :: ns=>.cons .str (RepL.ofStrs ns)
theorem RepL.bls:∀ {vs:List V} {xs:List Bool},RepL K mg F ρ vs (xs.map D.bl)->vs=xs.map V.bl:=by
 intro vs xs
 induction xs generalizing vs with
 | nil=>intro h; cases h; rfl
 | cons n ns ih =>
   intro h;rw [List.map_cons] at h;cases h with
   | cons h t =>
     cases h;rw [List.map_cons,ih t]
end
abbrev Loc:=List (Option Slot)
section
variable (K : PySem.W.Frag) (mg : Str -> Option Value)
def OwnR (F:Hp) (ρ:List Addr) (H:Hp) (p:Addr):Own->Prop
 | .lst ds => ∃ vs,H p=some (.lst vs)/\RepL K mg F ρ vs ds
 | .dct ks ds => ∃ vs,H p=some (.dK ((ks.map DK.key).zip vs))/\ks.length=vs.length/\RepL K mg F ρ vs ds
 | .ins c kd ks ds => ∃ C dx vs,mg (Str.ofString c)=some (.ref C)/\ρ[kd]?=some dx/\H p=some (.ins C dx ((ks.map Str.ofString).zip vs))/\ks.length=vs.length/\RepL K mg F ρ vs ds
 | .idc k => ∃ q,ρ[k]?=some q/\H p=some (.own q)
 | .tpk ks => ∃ kvs,H p=some (.dT kvs)/\kvs.map Prod.fst=ks.map fun k=>k.map DK.key
 | .fdc _ _=>False
 | .tab P q=>p=P/\∃ ps,H p=some (.tbl ps)/\TriplesOk ps.toList/\∀ (pos:Pos) (cv:Value),codeAmong pos ps.toList=some cv->∃ c,cv = .ref c/\F c=some (CodeO c q)
def CellO (F:Hp) (ρ:List Addr) (H:Hp) (p:Addr):Own->Prop
 | .fdc ks ds => ∃ ob vs,H p=some (.frz ob (.dK ((ks.map DK.key).zip vs)))/\ks.length=vs.length/\RepL K mg F ρ vs ds
 | c=>OwnR K mg F ρ H p c
structure Free (Z F:Hp) (ρ:List Addr) (p:Addr):Prop where
 f:F p=none
 z:Z p=none
 r:p∉ρ
def RG (Z F:Hp) (ρ:List Addr) (H:Hp) (v:V):Slot->Prop
 | .fr d=>Rep K mg F ρ v d
 | .own o => ∃ p,v = .ref p/\Free Z F ρ p/\OwnR K mg F ρ H p o
structure Sim (Z F:Hp) (ρ:List Addr) (μ:Mem) (δ:Loc) (σ:St) (H:Hp):Prop where
 le:∀ p o,F p=some o->H p=some o\/∃ ob kvs,o = .dK kvs/\H p=some (.frz ob (.dK kvs))
 zk:∀ p o,Z p=some o->H p=some o
 len:σ.length=δ.length
 slot:∀ (i:Nat) s,δ[i]?=some (some s)->∃ v,σ[i]?=some (some v)/\RG K mg Z F ρ H v s
 apart:∀ (i j:Nat) p s s',δ[i]?=some (some (.own s))->δ[j]?=some (some (.own s'))->σ[i]?=some (some (.ref p))->σ[j]?=some (some (.ref p))->i=j
 mem:∀ (k:Nat) c,μ[k]?=some c->∃ a,ρ[k]?=some a/\F a=none/\ZC Z a c/\CellO K mg F ρ H a c
 mlen:ρ.length=μ.length
 nod:ρ.Nodup
structure VR (Z F:Hp) (ρ:List Addr) (δ:Loc) (σ:St) (H:Hp) (v:V) (s:Slot):Prop where
 r:RG K mg Z F ρ H v s
 no:∀ o p,s = .own o->v = .ref p->∀ (i:Nat) o',δ[i]?=some (some (.own o'))->σ[i]?≠some (some (.ref p))
end
section
variable {K : PySem.W.Frag} {mg : Str -> Option Value} {Z F F' : Hp} {ρ ρ' : List Addr} {μ : Mem} {δ : Loc} {σ : St} {H H' : Hp} {p : Addr} {o : HO} {v : V} {s : Slot}
theorem OwnR.up {c:Own} (l:∀ p o,F p=some o->F' p=some o) (lr:∀ (k:Nat) p,ρ[k]?=some p->ρ'[k]?=some p) (hp:H' p=H p) (h:OwnR K mg F ρ H p c):OwnR K mg F' ρ' H' p c:=by
 cases c with
 | lst ds =>
   obtain ⟨vs,e,r⟩:=h;exact ⟨vs,by rw [hp]; exact e,r.up l lr⟩
 | dct ks ds =>
   obtain ⟨vs,e,n,r⟩:=h;exact ⟨vs,by rw [hp]; exact e,n,r.up l lr⟩
 | tab P q =>
   obtain ⟨e0,ps,e,t,r⟩:=h;exact ⟨e0,ps,by rw [hp]; exact e,t,fun pos cv hc=>by
    obtain ⟨c,e1,e2⟩:=r pos cv hc;exact ⟨c,e1,l _ _ e2⟩⟩
 | ins c kd ks ds =>
   obtain ⟨C,dx,vs,e1,e2,e3,n,r⟩:=h;exact ⟨C,dx,vs,e1,lr _ _ e2,by rw [hp]; exact e3,n,r.up l lr⟩
 | idc k =>
   obtain ⟨q,e1,e2⟩:=h;exact ⟨q,lr _ _ e1,by rw [hp]; exact e2⟩
 | tpk ks =>
   obtain ⟨kvs,e,r⟩:=h;exact ⟨kvs,by rw [hp]; exact e,r⟩
 | fdc ks ds=>exact h.elim
theorem OwnR.some {c:Own} (h:OwnR K mg F ρ H p c):∃ o,H p=Option.some o:=by
 cases c with
 | lst ds=>obtain ⟨vs,e,r⟩:=h; exact ⟨_,e⟩
 | dct ks ds=>obtain ⟨vs,e,n,r⟩:=h; exact ⟨_,e⟩
 | tab P q=>obtain ⟨_,ps,e,_⟩:=h; exact ⟨_,e⟩
 | ins c kd ks ds=>obtain ⟨C,dx,vs,_,_,e,_⟩:=h; exact ⟨_,e⟩
 | idc k=>obtain ⟨q,_,e⟩:=h; exact ⟨_,e⟩
 | tpk ks=>obtain ⟨kvs,e,_⟩:=h; exact ⟨_,e⟩
 | fdc ks ds=>exact h.elim
theorem OwnR.nf {c:Own} (h:OwnR K mg F ρ H p c):c.isF=false:=by
 cases c <;> first | rfl | exact h.elim
theorem CellO.of {c:Own} (h:OwnR K mg F ρ H p c):CellO K mg F ρ H p c:=by
 cases c <;> first | exact h.elim | exact h
theorem CellO.own {c:Own} (h:CellO K mg F ρ H p c) (hc:c.isF=false):OwnR K mg F ρ H p c:=by
 cases c <;> first | (cases hc; done) | exact h
theorem CellO.up {c:Own} (l:∀ p o,F p=Option.some o->F' p=Option.some o) (lr:∀ (k:Nat) p,ρ[k]?=Option.some p->ρ'[k]?=Option.some p) (hp:H' p=H p) (h:CellO K mg F ρ H p c):CellO K mg F' ρ' H' p c:=by
 by_cases hc:c.isF=true
 ·cases c <;> first | (cases hc; done) | skip
  obtain ⟨ob,vs,e,n,r⟩:=h;exact ⟨ob,vs,by rw [hp]; exact e,n,r.up l lr⟩
 ·exact .of ((h.own (by simpa using hc)).up l lr hp)
theorem CellO.some {c:Own} (h:CellO K mg F ρ H p c):∃ o,H p=Option.some o:=by
 by_cases hc:c.isF=true
 ·cases c <;> first | (cases hc; done) | skip
  obtain ⟨ob,vs,e,n,r⟩:=h;exact ⟨_,e⟩
 ·exact (h.own (by simpa using hc)).some
theorem Sim.rd (S:Sim K mg Z F ρ μ δ σ H) {u:HO} (h:Rd F p u):Rd H p u:=by
 rcases h with h | ⟨ob,h⟩
 ·rcases S.le p u h with q | ⟨ob,kvs,e,q⟩
  ·exact .inl q
  ·subst e; exact .inr ⟨ob,q⟩
 ·rcases S.le p _ h with q | ⟨ob,kvs,e,q⟩
  ·exact .inr ⟨_,q⟩
  ·have e':HO.frz _ u=HO.dK kvs:=e
   cases e'
theorem Sim.notIn (S:Sim K mg Z F ρ μ δ σ H) (h:H p=none):F p=none/\Z p=none/\p∉ρ/\∀ (i:Nat) s,δ[i]?=some (some (.own s))->σ[i]?≠some (some (.ref p)):=by
 refine ⟨?_,?_,?_,?_⟩
 ·cases e:F p with
  | none=>rfl
  | some o =>
    rcases S.le p o e with q | ⟨_,_,_,q⟩ <;> rw [h] at q <;> cases q
 ·cases e:Z p with
  | none=>rfl
  | some o=>have:=S.zk p o e; rw [h] at this; cases this
 ·intro hm
  obtain ⟨k,hk⟩:=List.getElem?_of_mem hm;have hlt:k < μ.length:=by
   rw [← S.mlen]; exact (List.getElem?_eq_some_iff.mp hk).1
  obtain ⟨a,e,_,_,r⟩:=S.mem k μ[k] (List.getElem?_eq_getElem hlt);rw [hk] at e; cases e;obtain ⟨o,q⟩:=r.some;rw [h] at q; cases q
 ·intro i s hi hs
  obtain ⟨v,e,p',ev,fr,r⟩:=S.slot i _ hi;rw [hs] at e; cases e;cases ev;obtain ⟨o,q⟩:=r.some;rw [h] at q; cases q
theorem Sim.heap (S:Sim K mg Z F ρ μ δ σ H) (hk:∀ a,a≠p->H' a=H a) (hF:F p=none) (hZ:Z p=none) (hρ:p∉ρ)
  (hs:∀ (i:Nat) s,δ[i]?=some (some (.own s))->σ[i]?≠some (some (.ref p))):Sim K mg Z F ρ μ δ σ H':=by
 refine ⟨fun a u h => ?_,fun a u h => ?_,S.len,fun i s h => ?_,S.apart,fun k c h => ?_,S.mlen,S.nod⟩
 ·have ne:a≠p:=fun e=>by
   subst e;rw [hF] at h; cases h
  have:=S.le a u h;rw [hk a ne]; exact this
 ·have ne:a≠p:=fun e=>by subst e; rw [hZ] at h; cases h
  rw [hk a ne]; exact S.zk a u h
 ·obtain ⟨v,e,r⟩:=S.slot i s h
  refine ⟨v,e,?_⟩;cases s with
  | fr d=>exact r
  | own c =>
    obtain ⟨q,ev,fr,r⟩:=r;subst ev;have ne:q≠p:=fun z=>by subst z; exact hs i c h e
    exact ⟨q,rfl,fr,r.up (fun _ _ h=>h) (fun _ _ h=>h) (hk q ne)⟩
 ·obtain ⟨a,e,f1,f2,r⟩:=S.mem k c h
  have ne:a≠p:=fun z=>by subst z; exact hρ (List.mem_of_getElem? e)
  exact ⟨a,e,f1,f2,r.up (fun _ _ h=>h) (fun _ _ h=>h) (hk a ne)⟩
theorem Sim.laid (S:Sim K mg Z F ρ μ δ σ H) (h:H p=none):Sim K mg Z F ρ μ δ σ (upd H p o):=by
 obtain ⟨a,b,c,d⟩:=S.notIn h;exact S.heap (fun q ne=>upd_ne ne) a b c d
theorem Sim.freeze (S:Sim K mg Z F ρ μ δ σ H) (h:H p=some o) (fr:Free Z F ρ p) (hs:∀ (i:Nat) s,δ[i]?=some (some (.own s))->σ[i]?≠some (some (.ref p))) :
  Le Z F (upd F p o)/\Sim K mg Z (upd F p o) ρ μ δ σ H:=by
 have to:∀ q u,F q=some u->upd F p o q=some u:=fun q u e=>by
  rw [upd_ne (fun z=>by subst z; rw [fr.f] at e; cases e)]; exact e
 refine ⟨⟨to,fun q u e => ?_⟩,⟨fun q u e => ?_,S.zk,S.len,fun i s e => ?_,S.apart,fun k c e => ?_,S.mlen,S.nod⟩⟩
 ·by_cases z:q=p
  ·subst z; exact .inr fr.z
  ·rw [upd_ne z] at e; exact .inl e
 ·by_cases z:q=p
  ·subst z
   rw [upd_same] at e; cases e; exact .inl h
  ·refine S.le q u ?_
   rw [upd_ne z] at e; exact e
 ·obtain ⟨v,e1,r⟩:=S.slot i s e
  refine ⟨v,e1,?_⟩;cases s with
  | fr d=>exact Rep.up to (fun _ _ h=>h) r
  | own c =>
    obtain ⟨q,ev,f1,r⟩:=r;subst ev;have ne:q≠p:=fun z=>by subst z; exact hs i c e e1
    exact ⟨q,rfl,⟨by rw [upd_ne ne]; exact f1.f,f1.z,f1.r⟩,r.up to (fun _ _ h=>h) rfl⟩
 ·obtain ⟨a,e1,f1,f2,r⟩:=S.mem k c e
  have ne:a≠p:=fun z=>by subst z; exact fr.r (List.mem_of_getElem? e1)
  exact ⟨a,e1,by rw [upd_ne ne]; exact f1,f2,r.up to (fun _ _ h=>h) rfl⟩
theorem OwnR.rep {c:Own} (h:OwnR K mg F ρ H p c):∃ o,H p=Option.some o/\∀ F' ρ',(∀ p o,F p=Option.some o->F' p=Option.some o)->(∀ (k:Nat) p,ρ[k]?=Option.some p->ρ'[k]?=Option.some p)->F' p=Option.some o->Rep K mg F' ρ' (.ref p) c.d:=by
 cases c with
 | lst ds =>
   obtain ⟨vs,e,r⟩:=h;exact ⟨_,e,fun F' ρ' l lr q=>.lst q (r.up l lr)⟩
 | dct ks ds =>
   obtain ⟨vs,e,n,r⟩:=h;exact ⟨_,e,fun F' ρ' l lr q=>.dct (.inl q) n (r.up l lr)⟩
 | tab P q =>
   obtain ⟨_,ps,e,_⟩:=h;exact ⟨_,e,fun F' ρ' l lr q=>.unk⟩
 | ins c kd ks ds =>
   obtain ⟨C,dx,vs,_,_,e,_⟩:=h;exact ⟨_,e,fun F' ρ' l lr q=>.unk⟩
 | idc k =>
   obtain ⟨q,_,e⟩:=h;exact ⟨_,e,fun F' ρ' l lr q=>.unk⟩
 | tpk ks =>
   obtain ⟨kvs,e,_⟩:=h;exact ⟨_,e,fun F' ρ' l lr q=>.unk⟩
 | fdc ks ds=>exact h.elim
theorem Sim.lock (S:Sim K mg Z F ρ μ δ σ H) (h:VR K mg Z F ρ δ σ H v s):∃ F',Le Z F F'/\Sim K mg Z F' ρ μ δ σ H/\Rep K mg F' ρ v s.d:=by
 cases s with
 | fr d=>exact ⟨F,.refl,S,h.r⟩
 | own c =>
   obtain ⟨p,ev,fr,r⟩:=h.r;subst ev;obtain ⟨o,e,rep⟩:=r.rep;obtain ⟨l,S'⟩:=S.freeze e fr (h.no c p rfl rfl);exact ⟨_,l,S',rep _ _ l.to (fun _ _ h=>h) upd_same⟩
theorem Sim.store {i:Nat} (S:Sim K mg Z F ρ μ δ σ H) (h:VR K mg Z F ρ δ σ H v s) (hi:i < δ.length):Sim K mg Z F ρ μ (δ.set i (some s)) (σ.set i (some v)) H:=by
 refine ⟨S.le,S.zk,by simp [S.len],fun j t e => ?_,fun j k p t t' e1 e2 e3 e4 => ?_,S.mem,S.mlen,S.nod⟩
 ·by_cases z:j=i
  ·subst z
   rw [List.getElem?_set_self hi] at e;cases e;exact ⟨v,List.getElem?_set_self (by rw [S.len]; exact hi),h.r⟩
  ·rw [List.getElem?_set_ne (Ne.symm z)] at e
   obtain ⟨w,e1,r⟩:=S.slot j t e;exact ⟨w,by rw [List.getElem?_set_ne (Ne.symm z)]; exact e1,r⟩
 ·by_cases z1:j=i
  ·by_cases z2:k=i
   ·rw [z1,z2]
   ·subst z1
    rw [List.getElem?_set_self hi] at e1;cases e1;rw [List.getElem?_set_self (by rw [S.len]; exact hi)] at e3;cases e3;rw [List.getElem?_set_ne (Ne.symm z2)] at e2 e4;exact absurd e4 (h.no _ _ rfl rfl k _ e2)
  ·by_cases z2:k=i
   ·subst z2
    rw [List.getElem?_set_self hi] at e2;cases e2;rw [List.getElem?_set_self (by rw [S.len]; exact hi)] at e4;cases e4;rw [List.getElem?_set_ne (Ne.symm z1)] at e1 e3;exact absurd e3 (h.no _ _ rfl rfl j _ e1)
   ·rw [List.getElem?_set_ne (Ne.symm z1)] at e1 e3
    rw [List.getElem?_set_ne (Ne.symm z2)] at e2 e4;exact S.apart j k p t t' e1 e2 e3 e4
theorem Sim.forget {i:Nat} {x:Option V} (S:Sim K mg Z F ρ μ δ σ H):Sim K mg Z F ρ μ (δ.set i none) (σ.set i x) H:=by
 refine ⟨S.le,S.zk,by simp [S.len],fun j t e => ?_,fun j k p t t' e1 e2 e3 e4 => ?_,S.mem,S.mlen,S.nod⟩
 ·by_cases z:j=i
  ·subst z
   by_cases hj:j < δ.length
   ·rw [List.getElem?_set_self hj] at e; cases e
   ·rw [List.getElem?_eq_none (by simpa using hj)] at e; cases e
  ·rw [List.getElem?_set_ne (Ne.symm z)] at e
   obtain ⟨w,e1,r⟩:=S.slot j t e;exact ⟨w,by rw [List.getElem?_set_ne (Ne.symm z)]; exact e1,r⟩
 ·have n:∀ {j:Nat} {t},(δ.set i none)[j]?=some (some t)->j≠i:=fun {j t} e z=>by
   subst z;by_cases hj:j < δ.length
   ·rw [List.getElem?_set_self hj] at e; cases e
   ·rw [List.getElem?_eq_none (by simpa using hj)] at e; cases e
  have z1:=n e1;have z2:=n e2;rw [List.getElem?_set_ne (Ne.symm z1)] at e1 e3;rw [List.getElem?_set_ne (Ne.symm z2)] at e2 e4;exact S.apart j k p t t' e1 e2 e3 e4
theorem Sim.lockAt {i:Nat} (S:Sim K mg Z F ρ μ δ σ H) (e:δ[i]?=some (some s)) :
  ∃ F' v,Le Z F F'/\σ[i]?=some (some v)/\Sim K mg Z F' ρ μ (δ.set i (some (.fr s.d))) σ H/\Rep K mg F' ρ v s.d:=by
 obtain ⟨v,ev,r⟩:=S.slot i s e;have hi:i < δ.length:=(List.getElem?_eq_some_iff.mp e).1;have same:σ.set i (some v)=σ:=by
  apply List.ext_getElem?
  intro j;by_cases z:j=i
  ·subst z; rw [List.getElem?_set_self (by rw [S.len]; exact hi),ev]
  ·rw [List.getElem?_set_ne (Ne.symm z)]
 cases s with
 | fr d =>
   have S1:=S.store (i:=i) (v:=v) (s:=.fr d) ⟨r,fun o p z=>by cases z⟩ hi;rw [same] at S1;exact ⟨F,v,.refl,ev,S1,r⟩
 | own c =>
   obtain ⟨p,evp,fr,r⟩:=r;subst evp;obtain ⟨o,eo,rep⟩:=r.rep;have S0:=S.forget (i:=i) (x:=some (.ref p));rw [same] at S0;obtain ⟨l,S1⟩:=S0.freeze eo fr (fun j t ej=>by
    have nj:j≠i:=fun z=>by
     subst z; rw [List.getElem?_set_self hi] at ej; cases ej
    rw [List.getElem?_set_ne (Ne.symm nj)] at ej;intro q;exact nj (S.apart j i p t c ej e q ev))
   have rp:=rep _ ρ l.to (fun _ _ h=>h) upd_same;have S2:=S1.store (i:=i) (v:=.ref p) (s:=.fr c.d) ⟨rp,fun o p z=>by cases z⟩ (by simpa using hi);rw [same,List.set_set] at S2;exact ⟨_,_,l,ev,S2,rp⟩
theorem Sim.write {i:Nat} {c c':Own} (S:Sim K mg Z F ρ μ δ σ H) (e:δ[i]?=some (some (.own c))) (ev:σ[i]?=some (some (.ref p))) (r:OwnR K mg F ρ (upd H p o) p c') :
  Sim K mg Z F ρ μ (δ.set i (some (.own c'))) σ (upd H p o):=by
 obtain ⟨v,ev',q,evq,fr,r0⟩:=S.slot i _ e;rw [ev] at ev'; cases ev'; cases evq;have hi:i < δ.length:=(List.getElem?_eq_some_iff.mp e).1;have same:σ.set i (some (.ref p))=σ:=by
  apply List.ext_getElem?
  intro j;by_cases z:j=i
  ·subst z; rw [List.getElem?_set_self (by rw [S.len]; exact hi),ev]
  ·rw [List.getElem?_set_ne (Ne.symm z)]
 have S0:=S.forget (i:=i) (x:=some (.ref p));rw [same] at S0;have no:∀ (j:Nat) t,(δ.set i none)[j]?=some (some (.own t))->σ[j]?≠some (some (.ref p)):=fun j t ej q=>by
  have nj:j≠i:=fun z=>by
   subst z; rw [List.getElem?_set_self hi] at ej; cases ej
  rw [List.getElem?_set_ne (Ne.symm nj)] at ej;exact nj (S.apart j i p t c ej e q ev)
 have S1:Sim K mg Z F ρ μ (δ.set i none) σ (upd H p o):=S0.heap (fun a ne=>upd_ne ne) fr.f fr.z fr.r no;have S2:=S1.store (i:=i) (v:=.ref p) (s:=.own c') ⟨⟨p,rfl,fr,r⟩,fun o' p' z1 z2=>by cases z2; exact fun j t ej=>no j t ej⟩ (by simpa using hi);rw [same,List.set_set] at S2;exact S2
theorem Sim.writeM {k:Nat} {c c':Own} (S:Sim K mg Z F ρ μ δ σ H) (e:μ[k]?=some c) (ev:ρ[k]?=some p) (r:OwnR K mg F ρ (upd H p o) p c') (hc:c.isF=false:=by rfl) :
  Sim K mg Z F ρ (μ.set k c') δ σ (upd H p o):=by
 obtain ⟨a,ea,f1,f2,r0⟩:=S.mem k c e;have f2:=f2.z hc;rw [ev] at ea; cases ea;have hm:p∈ρ:=List.mem_of_getElem? ev;have hk:k < μ.length:=(List.getElem?_eq_some_iff.mp e).1;refine ⟨fun a u h => ?_,fun a u h => ?_,S.len,fun i s h => ?_,S.apart,fun j x h => ?_,by simp [S.mlen],S.nod⟩
 ·have ne:a≠p:=fun z=>by
   subst z;rw [f1] at h; cases h
  have:=S.le a u h;rw [upd_ne ne]; exact this
 ·have ne:a≠p:=fun z=>by subst z; rw [f2] at h; cases h
  rw [upd_ne ne]; exact S.zk a u h
 ·obtain ⟨v,e1,r⟩:=S.slot i s h
  refine ⟨v,e1,?_⟩;cases s with
  | fr d=>exact r
  | own c =>
    obtain ⟨q,eq,fr,r⟩:=r;subst eq;have ne:q≠p:=fun z=>by subst z; exact fr.r hm
    exact ⟨q,rfl,fr,r.up (fun _ _ h=>h) (fun _ _ h=>h) (upd_ne ne)⟩
 ·by_cases z:j=k
  ·subst z
   rw [List.getElem?_set_self hk] at h;cases h;exact ⟨p,ev,f1,.of f2 r.nf,.of r⟩
  ·rw [List.getElem?_set_ne (Ne.symm z)] at h
   obtain ⟨a,ea,g1,g2,r1⟩:=S.mem j x h;have ne:a≠p:=fun q=>by
    subst q;have h1:=(List.getElem?_eq_some_iff.mp ea).1;exact z ((List.getElem?_inj h1 S.nod).mp (ea.trans ev.symm))
   exact ⟨a,ea,g1,g2,r1.up (fun _ _ h=>h) (fun _ _ h=>h) (upd_ne ne)⟩
theorem Sim.share {c:Own} (S:Sim K mg Z F ρ μ δ σ H) (h:VR K mg Z F ρ δ σ H v (.own c)):∃ p,v = .ref p/\LeR Z ρ (ρ++[p])/\Sim K mg Z F (ρ++[p]) (μ++[c]) δ σ H/\Rep K mg F (ρ++[p]) v (.obj μ.length):=by
 obtain ⟨p,ev,fr,r⟩:=h.r;subst ev;have to:∀ (k:Nat) a,ρ[k]?=some a->(ρ++[p])[k]?=some a:=fun k a e=>by
  rw [List.getElem?_append_left (List.getElem?_eq_some_iff.mp e).1]; exact e
 refine ⟨p,rfl,⟨to,fun a ha => ?_⟩,⟨S.le,S.zk,S.len,fun i s e => ?_,S.apart,fun k x e => ?_,by simp [S.mlen],?_⟩,?_⟩
 ·rcases List.mem_append.mp ha with ha | ha
  ·exact .inl ha
  ·have:a=p:=by simpa using ha
   subst this; exact .inr fr.z
 ·obtain ⟨w,e1,r1⟩:=S.slot i s e
  refine ⟨w,e1,?_⟩;cases s with
  | fr d=>exact Rep.up (fun _ _ h=>h) to r1
  | own c1 =>
    obtain ⟨q,eq,fr1,r1⟩:=r1;subst eq;refine ⟨q,rfl,⟨fr1.f,fr1.z,fun hm => ?_⟩,r1.up (fun _ _ h=>h) to rfl⟩;rcases List.mem_append.mp hm with hm | hm
    ·exact fr1.r hm
    ·have:q=p:=by simpa using hm
     subst this;exact h.no c q rfl rfl i c1 e e1
 ·by_cases hk:k < μ.length
  ·rw [List.getElem?_append_left hk] at e
   obtain ⟨a,ea,g1,g2,r1⟩:=S.mem k x e;exact ⟨a,to k a ea,g1,g2,r1.up (fun _ _ h=>h) to rfl⟩
  ·rw [List.getElem?_append_right (by omega)] at e
   have hk2:k=μ.length:=by
    have:=(List.getElem?_eq_some_iff.mp e).1;simp at this;omega
   subst hk2;simp at e;subst e;refine ⟨p,?_,fr.f,.of fr.z r.nf,.of (r.up (fun _ _ h=>h) to rfl)⟩;rw [← S.mlen]; simp
 ·rw [List.nodup_append]
  refine ⟨S.nod,by simp,fun a ha b hb e => ?_⟩;have:b=p:=by simpa using hb
  subst this;subst e;exact fr.r ha
 ·refine .obj ?_
  rw [← S.mlen]; simp
end
end FL
namespace FL
open PySem L2
structure Exc where
 cls:String
 attr:String
 arg:D
inductive Out (α:Type) where
 | ok (a:α) (δ:Loc) (μ:Mem)
 | exc (x:Exc) (δ:Loc) (μ:Mem)
 | bad
def Out.bind {α β:Type} (r:Out α) (f:α->Loc->Mem->Out β):Out β :=
 match r with
 | .ok a δ μ=>f a δ μ
 | .exc x δ μ=>.exc x δ μ
 | .bad=>.bad
theorem Out.bind_ok {α β:Type} {a:α} {δ:Loc} {μ:Mem} {f:α->Loc->Mem->Out β}:(Out.ok a δ μ).bind f=f a δ μ:=rfl
abbrev MM (α:Type):=Loc->Mem->Out α
abbrev ME:=MM Slot
abbrev MT:=MM Bool
def lift (o:Option Slot):ME:=fun δ μ=>match o with
 | some s=>.ok s δ μ
 | none=>.bad
def ExcR (K:PySem.W.Frag) (mg:Str->Option Value) (F:Hp) (ρ:List Addr) (c:Value) (d:Option Addr) (x:Exc):Prop :=
 ∃ C dx v,c = .ref C/\d=some dx/\mg (Str.ofString x.cls)=some (.ref C)/\Rd F dx (.xd [(Str.ofString x.attr,v)])/\Rep K mg F ρ v x.arg
section
variable (X : Cx) (W : WX)
abbrev GP (Z F:Hp) (ρ:List Addr) (μ:Mem) (δ:Loc) (σ:St) (H:Hp):Prop:=Sim X.K X.mg Z F ρ μ δ σ H
def FinE {α:Type} (Z F:Hp) (ρ:List Addr) (σ:St) (P:α->Loc->Mem->Hp->List Addr->Hp->Prop):Out α->Prop
 | .ok a δ μ => ∀ H' F' ρ',Le Z F F'->LeR Z ρ ρ'->Sim X.K X.mg Z F' ρ' μ δ σ H'->P a δ μ F' ρ' H'
 | .exc x δ μ => ∀ c d H' F' ρ',Le Z F F'->LeR Z ρ ρ'->Sim X.K X.mg Z F' ρ' μ δ σ H'->ExcR X.K X.mg F' ρ' c d x->W c d σ H'
 | .bad=>False
end
section
variable {X : Cx} {W : WX} {Z F F1 : Hp} {ρ ρ1 : List Addr} {σ : St} {α β : Type}
theorem FinE.mono {P:α->Loc->Mem->Hp->List Addr->Hp->Prop} {r:Out α} (h:FinE X W Z F ρ σ P r) (l:Le Z F F1) (lr:LeR Z ρ ρ1):FinE X W Z F1 ρ1 σ P r:=by
 cases r with
 | ok a δ μ=>exact fun H' F' ρ' l' lr' S=>h H' F' ρ' (l.trans l') (lr.trans lr') S
 | exc x δ μ=>exact fun c d H' F' ρ' l' lr' S e=>h c d H' F' ρ' (l.trans l') (lr.trans lr') S e
 | bad=>exact h
theorem FinE.bind {P:β->Loc->Mem->Hp->List Addr->Hp->Prop} {r:Out α} {f:α->Loc->Mem->Out β} (h:FinE X W Z F ρ σ P (r.bind f)) :
  FinE X W Z F ρ σ (fun a δ μ F' ρ' H' => Sim X.K X.mg Z F' ρ' μ δ σ H'/\Le Z F F'/\LeR Z ρ ρ'/\FinE X W Z F' ρ' σ P (f a δ μ)) r:=by
 cases r with
 | ok a δ μ=>exact fun H' F' ρ' l lr S=>⟨S,l,lr,h.mono l lr⟩
 | exc x δ μ=>exact h
 | bad=>exact h
theorem FinE.imp {P P':α->Loc->Mem->Hp->List Addr->Hp->Prop} {r:Out α} (h:FinE X W Z F ρ σ P r)
  (hp:∀ a δ μ H' F' ρ',Le Z F F'->LeR Z ρ ρ'->Sim X.K X.mg Z F' ρ' μ δ σ H'->P a δ μ F' ρ' H'->P' a δ μ F' ρ' H'):FinE X W Z F ρ σ P' r:=by
 cases r with
 | ok a δ μ=>exact fun H' F' ρ' l lr S=>hp a δ μ H' F' ρ' l lr S (h H' F' ρ' l lr S)
 | exc x δ μ=>exact h
 | bad=>exact h
end
theorem _root_.L2.PE.imp {X:Cx} {e:Expr} {t t':TE} (h:PE X e t) (hi:∀ σ H Q,t' σ H Q->t σ H Q):PE X e t':=⟨fun pins s σ H Q I q=>h.run pins s σ H Q I (hi σ H Q q)⟩
theorem _root_.L2.PT.imp {X:Cx} {e:Expr} {t t':TT} (h:PT X e t) (hi:∀ σ H Q,t' σ H Q->t σ H Q):PT X e t':=⟨fun pins s σ H Q I q=>h.run pins s σ H Q I (hi σ H Q q)⟩
theorem _root_.L2.PW.imp {X:Cx} {e:Expr} {t t':TT} (h:PW X e t) (hi:∀ σ H Q,t' σ H Q->t σ H Q):PW X e t':=⟨fun wh pins s σ H Q I q=>h.run wh pins s σ H Q I (hi σ H Q q)⟩
theorem _root_.L2.PA.imp {X:Cx} {e:List Expr} {t t':TA} (h:PA X e t) (hi:∀ σ H Q,t' σ H Q->t σ H Q):PA X e t':=⟨fun pos pins s σ H Q I q=>h.run pos pins s σ H Q I (hi σ H Q q)⟩
section
variable (X : Cx) (W : WX)
def Uw (m:ME):TE:=fun σ H Q => ∃ Z F ρ μ δ,Sim X.K X.mg Z F ρ μ δ σ H /\
 FinE X W Z F ρ σ (fun s δ' _ F' ρ' H' => ∀ v,VR X.K X.mg Z F' ρ' δ' σ H' v s->Q v H') (m δ μ)
def JX (m:MT):TT:=fun σ H Q => ∃ Z F ρ μ δ,Sim X.K X.mg Z F ρ μ δ σ H/\FinE X W Z F ρ σ (fun b _ _ _ _ H' => Q b H') (m δ μ)
end
abbrev JE (X:Cx) (W:WX) (e:Expr) (m:ME):Prop:=PE X e (Uw X W m)
abbrev JT (X:Cx) (W:WX) (e:Expr) (m:MT):Prop:=PT X e (JX X W m)
inductive Opn where
 | e (m:ME) | v (i:Nat)
inductive OR where
 | d (d:D) | i (i:Nat)
def Opn.ev:Opn->MM OR
 | .e m=>fun δ μ=>(m δ μ).bind fun s δ1 μ1=>.ok (.d s.d) δ1 μ1
 | .v i=>fun δ μ=>match δ[i]? with
   | some (some _)=>.ok (.i i) δ μ
   | _=>.bad
def OR.at (δ:Loc) (μ:Mem):OR->Option D
 | .d x=>look μ x
 | .i j=>match δ[j]? with
   | some (some s)=>look μ s.d
   | _=>none
section
variable (K : PySem.W.Frag) (mg : Str -> Option Value)
def OrR (F:Hp) (ρ:List Addr) (σ:St) (v:V):OR->Prop
 | .d x=>Rep K mg F ρ v x
 | .i j=>σ[j]?=some (some v)
inductive Bor (F:Hp) (ρ:List Addr) (H:Hp):V->D->Prop where
 | fr {v d} (h:Rep K mg F ρ v d):Bor F ρ H v d
 | own {p o} (h:CellO K mg F ρ H p o):Bor F ρ H (.ref p) o.d
inductive BorL (F:Hp) (ρ:List Addr) (H:Hp):List V->List D->Prop where
 | nil:BorL F ρ H [] []
 | cons {v d vs ds} (h:Bor K mg F ρ H v d) (t:BorL F ρ H vs ds):BorL F ρ H (v :: vs) (d :: ds)
inductive OrRs (F:Hp) (ρ:List Addr) (σ:St):List V->List OR->Prop where
 | nil:OrRs F ρ σ [] []
 | cons {v d vs ds} (h:OrR K mg F ρ σ v d) (t:OrRs F ρ σ vs ds):OrRs F ρ σ (v :: vs) (d :: ds)
end
def OR.ats (δ:Loc) (μ:Mem):List OR->Option (List D)
 | []=>some []
 | r :: rs=>match r.at δ μ,OR.ats δ μ rs with
   | some x,some xs=>some (x :: xs)
   | _,_=>none
section
variable {K : PySem.W.Frag} {mg : Str -> Option Value} {Z F F' : Hp} {ρ ρ' : List Addr} {μ : Mem} {δ : Loc} {σ : St} {H H' : Hp} {v : V} {d : D}
theorem OrR.up {r:OR} (h:OrR K mg F ρ σ v r) (l:Le Z F F') (lr:LeR Z ρ ρ'):OrR K mg F' ρ' σ v r:=by
 cases r with
 | d x=>exact Rep.up l.to lr.to h
 | i j=>exact h
theorem Lm {d d':D} (e:look μ d=some d'):(∃ k c,d = .obj k/\μ[k]?=some c/\d'=c.d)\/d'=d:=by
 cases d <;> first
  | (right; have e':=e; unfold look at e'; exact (Option.some.inj e').symm)
  | (rename_i k
     left;unfold look at e;obtain ⟨c,e1,e2⟩:=Option.map_eq_some_iff.mp e;exact ⟨k,c,rfl,e1,e2.symm⟩)
theorem Rep.seen (S:Sim K mg Z F ρ μ δ σ H) {d':D} (h:Rep K mg F ρ v d) (e:look μ d=some d'):Bor K mg F ρ H v d':=by
 rcases Lm e with ⟨k,c,rfl,hc,rfl⟩ | rfl
 ·cases h with
  | obj hp =>
    obtain ⟨a,ea,_,_,r⟩:=S.mem k c hc;rw [hp] at ea; cases ea;exact .own r
 ·exact .fr h
theorem OrR.bor {r:OR} (S:Sim K mg Z F ρ μ δ σ H) (h:OrR K mg F ρ σ v r) (e:r.at δ μ=some d):Bor K mg F ρ H v d:=by
 cases r with
 | d d' => exact Rep.seen S h e
 | i i =>
   have h':σ[i]?=some (some v):=h;have e:(match δ[i]? with | some (some s)=>look μ s.d | _=>none)=some d:=e;cases q:δ[i]? with
   | none=>rw [q] at e; cases e
   | some o =>
     cases o with
     | none=>rw [q] at e; cases e
     | some s =>
       rw [q] at e;have e':look μ s.d=some d:=e;obtain ⟨w,ew,r⟩:=S.slot i s q;rw [h'] at ew;cases ew;cases s with
       | fr d=>exact Rep.seen S r e'
       | own o =>
         obtain ⟨p,ep,_,r⟩:=r;subst ep;have e2:look μ o.d=some o.d:=by cases o <;> rfl
         have e3:some d=some o.d:=e'.symm.trans e2;cases e3;exact .own (.of r)
theorem OrRs.bor (S:Sim K mg Z F ρ μ δ σ H):∀ {vs:List V} {rs:List OR} {ds:List D},OrRs K mg F ρ σ vs rs->OR.ats δ μ rs=some ds->BorL K mg F ρ H vs ds:=by
 intro vs rs ds h
 induction h generalizing ds with
 | nil =>
   intro e;have e':some ([]:List D)=some ds:=e;cases e';exact .nil
 | @cons v r vs rs h t ih =>
   intro e;unfold OR.ats at e;cases q1:r.at δ μ with
   | none=>rw [q1] at e; cases e
   | some d =>
     cases q2:OR.ats δ μ rs with
     | none=>rw [q1,q2] at e; cases e
     | some dr =>
       rw [q1,q2] at e;have e':some (d :: dr)=some ds:=e;cases e';exact .cons (h.bor S q1) (ih q2)
theorem Bor.lst (S:Sim K mg Z F ρ μ δ σ H) {ds:List D} (h:Bor K mg F ρ H v (.lst ds)):∃ p vs,v = .ref p/\H p=some (.lst vs)/\RepL K mg F ρ vs ds:=by
 generalize e:D.lst ds=d at h;cases h with
 | fr h =>
   subst e;cases h with
   | lst h r =>
     refine ⟨_,_,rfl,?_,r⟩;rcases S.le _ _ h with q | ⟨ob,kvs,e,q⟩
     ·exact q
     ·cases e
 | @own p o h =>
   cases o with
   | lst xs =>
     cases e;obtain ⟨vs,e,r⟩:=h;exact ⟨p,vs,rfl,e,r⟩
   | dct ks xs=>cases e
   | tab P q=>cases e
   | ins c kd ks xs=>cases e
   | idc k=>cases e
   | tpk ks=>cases e
   | fdc ks xs=>cases e
theorem Bor.tup (S:Sim K mg Z F ρ μ δ σ H) {ds:List D} (h:Bor K mg F ρ H v (.tup ds)):∃ p vs,v = .ref p/\SqT K H p vs/\RepL K mg F ρ vs ds:=by
 generalize e:D.tup ds=d at h;cases h with
 | fr h =>
   subst e;cases h with
   | tup h r=>exact ⟨_,_,rfl,h.elim (fun h=>.inl (S.rd h)) .inr,r⟩
 | @own p o h=>cases o <;> cases e
theorem Bor.rc (S:Sim K mg Z F ρ μ δ σ H) {ds:List D} (h:Bor K mg F ρ H v (.rc ds)):∃ p o vs,v = .ref p/\H p=some (.frz o (.tup vs))/\o.dict=none/\RepL K mg F ρ vs ds:=by
 generalize e:D.rc ds=d at h;cases h with
 | fr h =>
   subst e;cases h with
   | rc h hd r =>
     refine ⟨_,_,_,rfl,?_,hd,r⟩;rcases S.le _ _ h with q | ⟨ob,kvs,e,q⟩
     ·exact q
     ·cases e
 | @own p o h=>cases o <;> cases e
theorem Bor.dcf (S:Sim K mg Z F ρ μ δ σ H) {ks:List DK} {ds:List D} (h:Bor K mg F ρ H v (.dcf ks ds)):∃ p o vs,v = .ref p/\F p=some (.frz o (.dK ((ks.map DK.key).zip vs)))/\H p=some (.frz o (.dK ((ks.map DK.key).zip vs)))/\ks.length=vs.length/\RepL K mg F ρ vs ds:=by
 generalize e:D.dcf ks ds=d at h;cases h with
 | fr h =>
   subst e;cases h with
   | dcf h l r =>
     refine ⟨_,_,_,rfl,h,?_,l,r⟩;rcases S.le _ _ h with q | ⟨ob,kvs,e,q⟩
     ·exact q
     ·cases e
 | @own p o h=>cases o <;> cases e
theorem Bor.rcT (S:Sim K mg Z F ρ μ δ σ H) {ds:List D} (h:Bor K mg F ρ H v (.rc ds)):∃ p vs,v = .ref p/\SqT K H p vs/\RepL K mg F ρ vs ds:=by
 obtain ⟨p,o,vs,e,q,_,r⟩:=h.rc S;exact ⟨p,vs,e,.inl (.inr ⟨o,q⟩),r⟩
theorem Bor.ro (S:Sim K mg Z F ρ μ δ σ H) {ds:List D} (h:Bor K mg F ρ H v (.ro ds)):∃ p vs,v = .ref p/\SqL K H p vs/\RepL K mg F ρ vs ds:=by
 generalize e:D.ro ds=d at h;cases h with
 | fr h =>
   subst e;cases h with
   | ro h r=>exact ⟨_,_,rfl,h.elim (fun h=>.inl (S.rd h)) .inr,r⟩
 | @own p o h=>cases o <;> cases e
theorem Bor.dct (S:Sim K mg Z F ρ μ δ σ H) {ks:List DK} {ds:List D} (h:Bor K mg F ρ H v (.dct ks ds)):∃ p vs,v = .ref p/\Rd H p (.dK ((ks.map DK.key).zip vs))/\ks.length=vs.length/\RepL K mg F ρ vs ds:=by
 generalize e:D.dct ks ds=d at h;cases h with
 | fr h =>
   subst e;cases h with
   | dct h l r=>exact ⟨_,_,rfl,S.rd h,l,r⟩
 | @own p o h =>
   cases o with
   | lst xs=>cases e
   | dct ks xs =>
     cases e;obtain ⟨vs,e,n,r⟩:=h;exact ⟨p,vs,rfl,.inl e,n,r⟩
   | tab P q=>cases e
   | ins c kd ks xs=>cases e
   | idc k=>cases e
   | tpk ks=>cases e
   | fdc ks xs =>
     cases e;obtain ⟨ob,vs,e,n,r⟩:=h;exact ⟨p,vs,rfl,.inr ⟨ob,e⟩,n,r⟩
theorem Bor.rep (h:Bor K mg F ρ H v d) (n:∀ o,d≠Own.d o):Rep K mg F ρ v d:=by
 cases h with
 | fr h=>exact h
 | own h=>exact absurd rfl (n _)
theorem Bor.int {i:Int} (h:Bor K mg F ρ H v (.int i)):v = .int i:=by
 cases h.rep (fun o e=>by cases o <;> cases e); rfl
theorem Bor.bl {i:Bool} (h:Bor K mg F ρ H v (.bl i)):v = .bl i:=by
 cases h.rep (fun o e=>by cases o <;> cases e); rfl
theorem Bor.str {i:Tx} (h:Bor K mg F ρ H v (.str i)):v = .str (toS i):=by
 cases h.rep (fun o e=>by cases o <;> cases e); rfl
theorem Bor.non (h:Bor K mg F ρ H v .non):v = .non:=by
 cases h.rep (fun o e=>by cases o <;> cases e); rfl
end
section
variable (X : Cx) (W : WX)
def Nh (m:Opn):TE:=fun σ H Q => ∃ Z F ρ μ δ,Sim X.K X.mg Z F ρ μ δ σ H /\
 FinE X W Z F ρ σ (fun r _ _ F' ρ' H' => ∀ v,OrR X.K X.mg F' ρ' σ v r->Q v H') (m.ev δ μ)
def RW:List Opn->MM (List OR)
 | []=>fun δ μ=>.ok [] δ μ
 | o :: os=>fun δ μ=>(o.ev δ μ).bind fun r δ1 μ1=>(RW os δ1 μ1).bind fun rs δ2 μ2=>.ok (r :: rs) δ2 μ2
def DE (m:List Opn):TA:=fun σ H Q => ∃ Z F ρ μ δ,Sim X.K X.mg Z F ρ μ δ σ H /\
 FinE X W Z F ρ σ (fun rs _ _ F' ρ' H' => ∀ vs,OrRs X.K X.mg F' ρ' σ vs rs->Q vs H') (RW m δ μ)
def XF:List ME->MM (List D)
 | []=>fun δ μ=>.ok [] δ μ
 | m :: ms=>fun δ μ=>(m δ μ).bind fun s δ1 μ1=>(XF ms δ1 μ1).bind fun ds δ2 μ2=>.ok (s.d :: ds) δ2 μ2
def El (m:List ME):TA:=fun σ H Q => ∃ Z F ρ μ δ,Sim X.K X.mg Z F ρ μ δ σ H /\
 FinE X W Z F ρ σ (fun ds _ _ F' ρ' H' => ∀ vs,RepL X.K X.mg F' ρ' vs ds->Q vs H') (XF m δ μ)
end
abbrev JO (X:Cx) (W:WX) (e:Expr) (m:Opn):Prop:=PE X e (Nh X W m)
abbrev Ll (X:Cx) (W:WX) (e:List Expr) (m:List Opn):Prop:=PA X e (DE X W m)
abbrev JA (X:Cx) (W:WX) (e:List Expr) (m:List ME):Prop:=PA X e (El X W m)
section
variable {X : Cx} {W : WX} {e a b : Expr} {es : List Expr} {pos : Pos}
theorem JE.locked {m:ME} (h:JE X W e m):PE X e (fun σ H Q => ∃ Z F ρ μ δ,Sim X.K X.mg Z F ρ μ δ σ H /\
  FinE X W Z F ρ σ (fun s δ' μ' F' ρ' H' => ∀ v,Rep X.K X.mg F' ρ' v s.d->Q v H') (m δ μ)):=by
 refine h.imp fun σ H Q ⟨Z,F,ρ,μ,δ,S,q⟩=>⟨Z,F,ρ,μ,δ,S,?_⟩;cases r:m δ μ with
 | ok s δ' μ' =>
   rw [r] at q;refine fun H' F' ρ' l lr S' v vr => ?_;obtain ⟨F2,l2,S2,rep⟩:=S'.lock vr;exact q H' F2 ρ' (l.trans l2) lr S2 v rep
 | exc x δ' μ' => rw [r] at q; exact q
 | bad=>rw [r] at q; exact q
theorem Z9 {m:ME} (h:JE X W e m):JO X W e (.e m):=by
 refine PE.imp h.locked fun σ H Q ⟨Z,F,ρ,μ,δ,S,q⟩=>⟨Z,F,ρ,μ,δ,S,?_⟩;have q':FinE X W Z F ρ σ (fun r _ _ F' ρ' H' => ∀ v,OrR X.K X.mg F' ρ' σ v r->Q v H') ((m δ μ).bind fun s δ1 μ1=>.ok (.d s.d) δ1 μ1):=q;refine q'.bind.imp fun s δ' μ' H' F' ρ' l lr S' ⟨S2,l2,lr2,p⟩ v r => ?_;exact p H' F' ρ' .refl .refl S2 v r
theorem xO {i:Nat} (h:PE X e (tVar i)):JO X W e (.v i):=by
 refine h.imp fun σ H Q ⟨Z,F,ρ,μ,δ,S,q⟩ => ?_;unfold Opn.ev at q;cases e1:δ[i]? with
 | none=>simp only [e1] at q; exact q.elim
 | some o =>
   cases o with
   | none=>simp only [e1] at q; exact q.elim
   | some s =>
     simp only [e1] at q;obtain ⟨v,ev,_⟩:=S.slot i s e1;exact ⟨v,ev,q H F ρ .refl .refl S v ev⟩
theorem Me:Ll X W [] []:=pa_nil.imp fun σ H Q ⟨Z,F,ρ,μ,δ,S,q⟩=>q H F ρ .refl .refl S [] .nil
theorem ZE {o:Opn} {os:List Opn} (h:JO X W e o) (t:Ll X W es os) (hs:starEach (e :: es) X.env=(false,eval e X.env) :: starEach es X.env:=by rfl):Ll X W (e :: es) (o :: os):=by
 refine (pa_cons h t hs).imp fun σ H Q ⟨Z,F,ρ,μ,δ,S,q⟩ => ?_;have q':FinE X W Z F ρ σ (fun rs _ _ F' ρ' H' => ∀ vs,OrRs X.K X.mg F' ρ' σ vs rs->Q vs H') ((o.ev δ μ).bind fun r δ1 μ1=>(RW os δ1 μ1).bind fun rs δ2 μ2=>.ok (r :: rs) δ2 μ2):=q;refine ⟨Z,F,ρ,μ,δ,S,q'.bind.imp fun r δ1 μ1 H1 F1 ρ1 l lr S1 ⟨_,_,_,p⟩ v hv => ?_⟩;refine ⟨Z,F1,ρ1,μ1,δ1,S1,p.bind.imp fun rs δ2 μ2 H2 F2 ρ2 l2 lr2 S2 ⟨_,_,_,p2⟩ vs hvs => ?_⟩;exact p2 H2 F2 ρ2 .refl .refl S2 (v :: vs) (.cons (hv.up l2 lr2) hvs)
theorem YY:JA X W [] []:=pa_nil.imp fun σ H Q ⟨Z,F,ρ,μ,δ,S,q⟩=>q H F ρ .refl .refl S [] .nil
theorem Z7 {m:ME} {ms:List ME} (h:JE X W e m) (t:JA X W es ms) (hs:starEach (e :: es) X.env=(false,eval e X.env) :: starEach es X.env:=by rfl):JA X W (e :: es) (m :: ms):=by
 refine (pa_cons h.locked t hs).imp fun σ H Q ⟨Z,F,ρ,μ,δ,S,q⟩ => ?_;have q':FinE X W Z F ρ σ (fun ds _ _ F' ρ' H' => ∀ vs,RepL X.K X.mg F' ρ' vs ds->Q vs H') ((m δ μ).bind fun s δ1 μ1=>(XF ms δ1 μ1).bind fun ds δ2 μ2=>.ok (s.d :: ds) δ2 μ2):=q;refine ⟨Z,F,ρ,μ,δ,S,q'.bind.imp fun s δ1 μ1 H1 F1 ρ1 l lr S1 ⟨_,_,_,p⟩ v hv => ?_⟩;refine ⟨Z,F1,ρ1,μ1,δ1,S1,p.bind.imp fun ds δ2 μ2 H2 F2 ρ2 l2 lr2 S2 ⟨_,_,_,p2⟩ vs hvs => ?_⟩;exact p2 H2 F2 ρ2 .refl .refl S2 (v :: vs) (.cons (hv.up l2.to lr2.to) hvs)
def mD (d:D):ME:=fun δ μ=>.ok (.fr d) δ μ
theorem Ng {v:V} {d:D} (h:PE X e (tC v)) (r:∀ F ρ,Rep X.K X.mg F ρ v d):JE X W e (mD d) :=
 h.imp fun σ H Q ⟨Z,F,ρ,μ,δ,S,q⟩=>q H F ρ .refl .refl S v ⟨r F ρ,fun o p z=>by cases z⟩
theorem Z5 {i j}:JE X W (.Constant (.int i) j pos) (mD (.int i)):=Ng pe_int fun _ _=>.int
theorem WY {b j}:JE X W (.Constant (.bool b) j pos) (mD (.bl b)):=Ng pe_bl fun _ _=>.bl
theorem Vp {j}:JE X W (.Constant .none j pos) (mD .non):=Ng pe_non fun _ _=>.non
theorem Z3 {x j}:JE X W (.Constant (.str (Str.ofString x)) j pos) (mD (.str (lit x))):=Ng pe_str fun _ _=>by rw [U7]; exact .str
def mV (i:Nat):ME:=fun δ μ=>match δ[i]? with
 | some (some s)=>.ok (.fr s.d) (δ.set i (some (.fr s.d))) μ
 | _=>.bad
theorem xN {i:Nat} (h:PE X e (tVar i)):JE X W e (mV i):=by
 refine h.imp fun σ H Q ⟨Z,F,ρ,μ,δ,S,q⟩ => ?_;unfold mV at q;cases e1:δ[i]? with
 | none=>simp only [e1] at q; exact q.elim
 | some o =>
   cases o with
   | none=>simp only [e1] at q; exact q.elim
   | some s =>
     simp only [e1] at q;obtain ⟨F',v,l,ev,S',r⟩:=S.lockAt e1;exact ⟨v,ev,q H F' ρ l .refl S' v ⟨r,fun o p z=>by cases z⟩⟩
theorem DD {x:String} {u:Value} {v:V} {p:Pos} (hg:Gl X (Str.ofString x)) (hm:X.mg (Str.ofString x)=some u) (r:RelV v u) (hd:(Str.ofString x == ("__debug__" : Str))=false:=by decide +kernel):JE X W (.Name (Str.ofString x) p) (mD (.glo x)) :=
 Ng (pe_glob hg hm r hd) fun _ _=>.glo hm r
theorem Nf {x:Str} {u:Value} {v:V} {d:D} {p:Pos} (hg:Gl X x) (hm:X.mg x=some u) (r:RelV v u) (hr:∀ F ρ,Rep X.K X.mg F ρ v d) (hd:(x == ("__debug__" : Str))=false:=by decide +kernel):JE X W (.Name x p) (mD d) :=
 Ng (pe_glob hg hm r hd) hr
def R2J (X:Cx) (r:R2) (g:D->D->Option Slot):Prop:=∀ Z F ρ μ δ σ H x y dx dy s Q,Sim X.K X.mg Z F ρ μ δ σ H->Bor X.K X.mg F ρ H x dx->Bor X.K X.mg F ρ H y dy->g dx dy=some s ->
 (∀ v H' F',Le Z F F'->Sim X.K X.mg Z F' ρ μ δ σ H'->VR X.K X.mg Z F' ρ δ σ H' v s->Q v H')->r x y H Q
def m2 (g:D->D->Option Slot) (oa ob:Opn):ME:=fun δ μ=>(oa.ev δ μ).bind fun ra δ1 μ1=>(ob.ev δ1 μ1).bind fun rb δ2 μ2 =>
 match ra.at δ2 μ2,rb.at δ2 μ2 with
 | some da,some db=>lift (g da db) δ2 μ2
 | _,_=>.bad
theorem W5 {r:R2} {g:D->D->Option Slot} {oa ob:Opn} (hr:R2J X r g):∀ σ H Q,Uw X W (m2 g oa ob) σ H Q->tOp r (Nh X W oa) (Nh X W ob) σ H Q:=by
 intro σ H Q ⟨Z,F,ρ,μ,δ,S,q⟩;refine ⟨Z,F,ρ,μ,δ,S,(FinE.bind q).imp fun ra δ1 μ1 H1 F1 ρ1 l lr S1 ⟨_,_,_,p⟩ x hx => ?_⟩;refine ⟨Z,F1,ρ1,μ1,δ1,S1,p.bind.imp fun rb δ2 μ2 H2 F2 ρ2 l2 lr2 S2 ⟨_,_,_,p2⟩ y hy => ?_⟩;cases ea:ra.at δ2 μ2 with
 | none=>rw [ea] at p2; exact p2.elim
 | some da =>
   cases eb:rb.at δ2 μ2 with
   | none=>rw [ea,eb] at p2; exact p2.elim
   | some db =>
     rw [ea,eb] at p2;unfold lift at p2;cases eg:g da db with
     | none=>simp only [eg] at p2; exact p2.elim
     | some s =>
       simp only [eg] at p2;exact hr Z F2 ρ2 μ2 δ2 σ H2 x y da db s Q S2 ((hx.up l2 lr2).bor S2 ea) (hy.bor S2 eb) eg fun v H' F' l' S' vr=>p2 H' F' ρ2 l' .refl S' v vr
theorem Tt {op:Operator} {r:R2} {g:D->D->Option Slot} {oa ob:Opn} (ho:OpR X (binaryOp op) r) (hr:R2J X r g) (ha:JO X W a oa) (hb:JO X W b ob):JE X W (.BinOp a op b pos) (m2 g oa ob) :=
 (pe_op ho ha hb).imp (W5 hr)
theorem P_ {op:CmpOp} {r:R2} {g:D->D->Option Slot} {oa ob:Opn} (ho:OpR X (compareOp op) r) (hr:R2J X r g) (ha:JO X W a oa) (hb:JO X W b ob) (hm:behindInMarks op b=false):JE X W (.Compare a [op] [b] pos) (m2 g oa ob) :=
 (pe_cmpR ho ha hb hm).imp (W5 hr)
theorem Bs {r:R2} {g:D->D->Option Slot} {oa ob:Opn} (ho:IxR X r) (hr:R2J X r g) (ha:JO X W a oa) (hb:JO X W b ob) (hs:PlainIx b):JE X W (.Subscript a b pos) (m2 g oa ob) :=
 (pe_ix ho ha hb hs).imp (W5 hr)
theorem R2J.or {r r':R2} {g g':D->D->Option Slot} (h:R2J X r g) (h':R2J X r' g'):R2J X (fun x y H Q=>r x y H Q\/r' x y H Q) (fun x y=>(g x y).or (g' x y)):=by
 intro Z F ρ μ δ σ H x y dx dy s Q S bx bY e q;have e:(g dx dy).or (g' dx dy)=some s:=e;cases eg:g dx dy with
 | some s' => rw [eg] at e; exact .inl (h Z F ρ μ δ σ H x y dx dy s Q S bx bY (by rw [eg]; exact e) q)
 | none=>rw [eg] at e; exact .inr (h' Z F ρ μ δ σ H x y dx dy s Q S bx bY e q)
def ZN (m:ME):MT:=fun δ μ=>(m δ μ).bind fun s δ1 μ1=>match s with
 | .fr (.bl b)=>.ok b δ1 μ1
 | _=>.bad
theorem WW {t:TE} {m:ME} (h:∀ σ H Q,Uw X W m σ H Q->t σ H Q):∀ σ H Q,JX X W (ZN m) σ H Q->t σ H fun x H' => ∃ k,x = .bl k/\Q k H':=by
 intro σ H Q ⟨Z,F,ρ,μ,δ,S,q⟩;refine h σ H _ ⟨Z,F,ρ,μ,δ,S,(FinE.bind q).imp fun s δ1 μ1 H1 F1 ρ1 l lr S1 ⟨_,_,_,p⟩ v vr => ?_⟩;cases s with
 | own o=>exact p.elim
 | fr d =>
   cases d with
   | bl b =>
     cases vr.r;exact ⟨b,rfl,p H1 F1 ρ1 .refl .refl S1⟩
   | _=>exact p.elim
theorem WV {op:CmpOp} {r:R2} {g:D->D->Option Slot} {oa ob:Opn} (ho:OpR X (compareOp op) r) (hr:R2J X r g) (ha:JO X W a oa) (hb:JO X W b ob) (hm:behindInMarks op b=false):JT X W (.Compare a [op] [b] pos) (ZN (m2 g oa ob)) :=
 (pt_cmpR ho ha hb hm).imp (WW (W5 hr))
theorem Xl {m:ME} (h:JE X W e m) (he:∀ whole,isTrue e X.env whole=(do let v ← whole; standAt e.pos; holding [v] (truthy v)):=by intro _; rfl):JT X W e (ZN m) :=
 (pt_val h he).imp (WW fun _ _ _ q=>q)
def XT (m:MT):MT:=fun δ μ=>(m δ μ).bind fun b δ1 μ1=>.ok (!b) δ1 μ1
theorem XS {m:MT} (h:JT X W a m):JT X W (.UnaryOp .Not a pos) (XT m):=by
 refine (pt_not h).imp fun σ H Q ⟨Z,F,ρ,μ,δ,S,q⟩=>⟨Z,F,ρ,μ,δ,S,(FinE.bind q).imp fun b δ1 μ1 H1 F1 ρ1 l lr S1 ⟨_,_,_,p⟩ => ?_⟩;exact p H1 F1 ρ1 .refl .refl S1
abbrev JW (X:Cx) (W:WX) (e:Expr) (m:MT):Prop:=PW X e (JX X W m)
def VX (m n:MT):MT:=fun δ μ=>(m δ μ).bind fun b δ1 μ1=>if b=true then n δ1 μ1 else .ok false δ1 μ1
def QT (m n:MT):MT:=fun δ μ=>(m δ μ).bind fun b δ1 μ1=>if b=true then .ok true δ1 μ1 else n δ1 μ1
theorem U6 {m:MT} (h:JT X W a m):JW X W (.BoolOp .And [a] pos) m:=pw_and1 h
theorem Ts {m:MT} (h:JT X W a m):JW X W (.BoolOp .Or [a] pos) m:=pw_or1 h
theorem Tr {m n:MT} {rest:List Expr} (h:JT X W a m) (t:JW X W (.BoolOp .And (b :: rest) pos) n):JW X W (.BoolOp .And (a :: b :: rest) pos) (VX m n):=by
 refine (pw_and h t).imp fun σ H Q ⟨Z,F,ρ,μ,δ,S,q⟩=>⟨Z,F,ρ,μ,δ,S,(FinE.bind q).imp fun c δ1 μ1 H1 F1 ρ1 l lr S1 ⟨_,_,_,p⟩ => ?_⟩;cases c with
 | true=>exact ⟨Z,F1,ρ1,μ1,δ1,S1,p⟩
 | false=>exact p H1 F1 ρ1 .refl .refl S1
theorem RF {m n:MT} {rest:List Expr} (h:JT X W a m) (t:JW X W (.BoolOp .Or (b :: rest) pos) n):JW X W (.BoolOp .Or (a :: b :: rest) pos) (QT m n):=by
 refine (pw_or h t).imp fun σ H Q ⟨Z,F,ρ,μ,δ,S,q⟩=>⟨Z,F,ρ,μ,δ,S,(FinE.bind q).imp fun c δ1 μ1 H1 F1 ρ1 l lr S1 ⟨_,_,_,p⟩ => ?_⟩;cases c with
 | false=>exact ⟨Z,F1,ρ1,μ1,δ1,S1,p⟩
 | true=>exact p H1 F1 ρ1 .refl .refl S1
theorem Se {m:MT} (h:JW X W e m):JT X W e m:=h.pt
def Tq (t:MT) (m n:ME):ME:=fun δ μ=>(t δ μ).bind fun b δ1 μ1=>if b=true then m δ1 μ1 else n δ1 μ1
theorem Ub {c:Expr} {t:MT} {m n:ME} (hc:JT X W c t) (ha:JE X W a m) (hb:JE X W b n):JE X W (.IfExp c a b pos) (Tq t m n):=by
 refine (pe_ifExp hc ha hb).imp fun σ H Q ⟨Z,F,ρ,μ,δ,S,q⟩=>⟨Z,F,ρ,μ,δ,S,(FinE.bind q).imp fun c δ1 μ1 H1 F1 ρ1 l lr S1 ⟨_,_,_,p⟩ => ?_⟩;cases c with
 | true=>exact ⟨Z,F1,ρ1,μ1,δ1,S1,p⟩
 | false=>exact ⟨Z,F1,ρ1,μ1,δ1,S1,p⟩
def X' (m n:ME):ME:=fun δ μ=>(m δ μ).bind fun s δ1 μ1=>match s with
 | .fr (.bl true)=>n δ1 μ1
 | .fr (.bl false)=>.ok (.fr (.bl false)) δ1 μ1
 | _=>.bad
def ON (m n:ME):ME:=fun δ μ=>(m δ μ).bind fun s δ1 μ1=>match s with
 | .fr (.bl false)=>n δ1 μ1
 | .fr (.bl true)=>.ok (.fr (.bl true)) δ1 μ1
 | _=>.bad
theorem VR.bl {K:PySem.W.Frag} {mg:Str->Option Value} {Z F H:Hp} {ρ:List Addr} {δ:Loc} {σ:St} {b:Bool}:VR K mg Z F ρ δ σ H (.bl b) (.fr (.bl b)):=⟨.bl,fun o p z=>by cases z⟩
theorem Wo {op} {m:ME} (h:JE X W a m):JE X W (.BoolOp op [a] pos) m:=pe_one h
theorem WU {m n:ME} {rest:List Expr} (h:JE X W a m) (t:JE X W (.BoolOp .And (b :: rest) pos) n):JE X W (.BoolOp .And (a :: b :: rest) pos) (X' m n):=by
 refine (pe_and h t).imp fun σ H Q ⟨Z,F,ρ,μ,δ,S,q⟩=>⟨Z,F,ρ,μ,δ,S,(FinE.bind q).imp fun s δ1 μ1 H1 F1 ρ1 l lr S1 ⟨_,_,_,p⟩ v vr => ?_⟩;cases s with
 | own o=>exact p.elim
 | fr d =>
   cases d with
   | bl b =>
     cases vr.r;refine ⟨b,rfl,?_⟩;cases b with
     | true=>exact ⟨Z,F1,ρ1,μ1,δ1,S1,p⟩
     | false=>exact p H1 F1 ρ1 .refl .refl S1 _ .bl
   | _=>exact p.elim
theorem Ek {m n:ME} {rest:List Expr} (h:JE X W a m) (t:JE X W (.BoolOp .Or (b :: rest) pos) n):JE X W (.BoolOp .Or (a :: b :: rest) pos) (ON m n):=by
 refine (pe_or h t).imp fun σ H Q ⟨Z,F,ρ,μ,δ,S,q⟩=>⟨Z,F,ρ,μ,δ,S,(FinE.bind q).imp fun s δ1 μ1 H1 F1 ρ1 l lr S1 ⟨_,_,_,p⟩ v vr => ?_⟩;cases s with
 | own o=>exact p.elim
 | fr d =>
   cases d with
   | bl b =>
     cases vr.r;refine ⟨b,rfl,?_⟩;cases b with
     | false=>exact ⟨Z,F1,ρ1,μ1,δ1,S1,p⟩
     | true=>exact p H1 F1 ρ1 .refl .refl S1 _ .bl
   | _=>exact p.elim
def ZD (ms:List ME):ME:=fun δ μ=>(XF ms δ μ).bind fun ds δ1 μ1=>if ds.length<=16777216 then .ok (.fr (.tup ds)) δ1 μ1 else .bad
def ZQ (ms:List ME):ME:=fun δ μ=>(XF ms δ μ).bind fun ds δ1 μ1=>if ds.length<=16777216 then .ok (.own (.lst ds)) δ1 μ1 else .bad
theorem Zr {k} {ms:List ME} (h:JA X W es ms):JE X W (.Tuple es k pos) (ZD ms):=by
 refine (pe_tup h).imp fun σ H Q ⟨Z,F,ρ,μ,δ,S,q⟩=>⟨Z,F,ρ,μ,δ,S,(FinE.bind q).imp fun ds δ1 μ1 H1 F1 ρ1 l lr S1 ⟨_,_,_,p⟩ vs hv => ?_⟩;by_cases hz:ds.length<=16777216
 ·rw [if_pos hz] at p
  refine ⟨by rw [hv.len,sizeLine_eq]; exact hz,fun a ha => ?_⟩;obtain ⟨n1,n2,n3,n4⟩:=S1.notIn ha;have S2:=S1.laid (o:=.tup vs) ha;obtain ⟨l3,S3⟩:=S2.freeze (p:=a) upd_same ⟨n1,n2,n3⟩ n4;exact p _ _ ρ1 l3 .refl S3 _ ⟨.tup (.inl (.inl upd_same)) (hv.up l3.to fun _ _ h=>h),fun o p z=>by cases z⟩
 ·rw [if_neg hz] at p; exact p.elim
theorem Zy {ms:List ME} (h:JA X W es ms):JE X W (.List es pos) (ZQ ms):=by
 refine (pe_lst h).imp fun σ H Q ⟨Z,F,ρ,μ,δ,S,q⟩=>⟨Z,F,ρ,μ,δ,S,(FinE.bind q).imp fun ds δ1 μ1 H1 F1 ρ1 l lr S1 ⟨_,_,_,p⟩ vs hv => ?_⟩;by_cases hz:ds.length<=16777216
 ·rw [if_pos hz] at p
  refine ⟨by rw [hv.len,sizeLine_eq]; exact hz,fun a ha => ?_⟩;obtain ⟨n1,n2,n3,n4⟩:=S1.notIn ha;exact p _ F1 ρ1 .refl .refl (S1.laid ha) _ ⟨⟨a,rfl,⟨n1,n2,n3⟩,vs,upd_same,hv⟩,fun o p z z2=>by cases z2; exact n4⟩
 ·rw [if_neg hz] at p; exact p.elim
def YS (m:ME):ME:=fun δ μ=>(m δ μ).bind fun s δ1 μ1=>match s with
 | .own o=>.ok (.fr (.obj μ1.length)) δ1 (μ1++[o])
 | _=>.bad
theorem Xx {m:ME} (h:JE X W e m):JE X W e (YS m):=by
 refine h.imp fun σ H Q ⟨Z,F,ρ,μ,δ,S,q⟩=>⟨Z,F,ρ,μ,δ,S,(FinE.bind q).imp fun s δ1 μ1 H1 F1 ρ1 l lr S1 ⟨_,_,_,p⟩ v vr => ?_⟩;cases s with
 | fr d=>exact p.elim
 | own o =>
   obtain ⟨a,ea,lr2,S2,rp⟩:=S1.share vr;exact p H1 F1 _ .refl lr2 S2 v ⟨rp,fun o p z=>by cases z⟩
end
end FL
namespace FL
open PySem L2
theorem YM:sizeLine=16777216:=sizeLine_eq
section
variable {X : Cx} {W : WX} {e a b : Expr} {es : List Expr} {pos : Pos}
def gInt (c:Int->Int->Bool) (f:Int->Int->D):D->D->Option Slot
 | .int i,.int j=>if c i j=true then some (.fr (f i j)) else none
 | _,_=>none
theorem Wy {r:R2} {g:D->D->Option Slot} (h:∀ F ρ H x y dx dy s Q,Bor X.K X.mg F ρ H x dx->Bor X.K X.mg F ρ H y dy->g dx dy=some s->∃ v,(Q v H->r x y H Q)/\∃ d,s = .fr d/\∀ F' ρ',Rep X.K X.mg F' ρ' v d):R2J X r g:=by
 intro Z F ρ μ δ σ H x y dx dy s Q S bx bY e q;obtain ⟨v,h1,d,rfl,h2⟩:=h F ρ H x y dx dy s Q bx bY e;exact h1 (q v H F .refl S ⟨h2 F ρ,fun o p z=>by cases z⟩)
theorem P9 {C:Int->Int->Prop} {c:Int->Int->Bool} {f:Int->Int->Int} (h:∀ i j,c i j=true->C i j):R2J X (rI C fun i j=>.int (f i j)) (gInt c fun i j=>.int (f i j)):=by
 refine Wy fun F ρ H x y dx dy s Q bx bY e => ?_;unfold gInt at e;cases dx <;> cases dy <;> first | (cases e; done) | skip
 rename_i i j
 cases bx.int;cases bY.int;by_cases hc:c i j=true
 ·simp only [hc,if_true] at e
  cases e;exact ⟨.int (f i j),fun q=>⟨i,j,rfl,rfl,h i j hc,q⟩,_,rfl,fun _ _=>.int⟩
 ·simp only [hc] at e
  cases e
theorem Mc {f:Int->Int->Int}:R2J X (rI0 fun i j=>.int (f i j)) (gInt (fun _ _=>true) fun i j=>.int (f i j)):=by
 refine Wy fun F ρ H x y dx dy s Q bx bY e => ?_;unfold gInt at e;cases dx <;> cases dy <;> first | (cases e; done) | skip
 rename_i i j
 cases bx.int;cases bY.int;simp only [if_true] at e;cases e;exact ⟨.int (f i j),fun q=>⟨i,j,rfl,rfl,q⟩,_,rfl,fun _ _=>.int⟩
theorem RV {f:Int->Int->Bool}:R2J X (rI0 fun i j=>.bl (f i j)) (gInt (fun _ _=>true) fun i j=>.bl (f i j)):=by
 refine Wy fun F ρ H x y dx dy s Q bx bY e => ?_;unfold gInt at e;cases dx <;> cases dy <;> first | (cases e; done) | skip
 rename_i i j
 cases bx.int;cases bY.int;simp only [if_true] at e;cases e;exact ⟨.bl (f i j),fun q=>⟨i,j,rfl,rfl,q⟩,_,rfl,fun _ _=>.bl⟩
abbrev gSub:D->D->Option Slot:=gInt (fun _ _=>true) fun i j=>.int (i - j)
abbrev Lk:D->D->Option Slot:=gInt (fun i j=>decide (i.natAbs.log2+j.natAbs.log2 < 1000000)) fun i j=>.int (i * j)
abbrev Tp:D->D->Option Slot:=gInt (fun _ j=>decide (0 < j)&&decide (j.natAbs.log2 < 9000)) fun i j=>.int (i / j)
abbrev VW:D->D->Option Slot:=gInt (fun _ j=>decide (0 < j)) fun i j=>.int (i % j)
abbrev Sd:D->D->Option Slot:=gInt (fun i j=>decide (0<=j)&&decide (j<=1000000)&&decide (i.natAbs < 2 ^ 64)) fun i j=>.int (i ^ j.toNat)
theorem Br:OpR X (binaryOp .Sub) (rI0 fun i j=>.int (i - j)):=op_sub
theorem Bq:R2J X (rI0 fun i j=>.int (i - j)) gSub:=Mc
theorem DC:R2J X (rI CMulW fun i j=>.int (i * j)) Lk:=P9 fun i j h=>(show i.natAbs.log2+j.natAbs.log2 < 1000000 from of_decide_eq_true h)
theorem Bp:R2J X (rI CDivW fun i j=>.int (i / j)) Tp:=P9 fun i j h=>by
 have h':=Bool.and_eq_true_iff.mp h;exact ⟨of_decide_eq_true h'.1,of_decide_eq_true h'.2⟩
theorem Bn:R2J X (rI (fun _ j=>0 < j) fun i j=>.int (i % j)) VW:=P9 fun i j h=>of_decide_eq_true h
theorem xM {i j:Int} (h:(decide (0<=j)&&decide (j<=1000000)&&decide (i.natAbs < 2 ^ 64))=true):CPow i j:=by
 have h':=Bool.and_eq_true_iff.mp h;have h2:=Bool.and_eq_true_iff.mp h'.1;exact ⟨of_decide_eq_true h2.1,of_decide_eq_true h2.2,of_decide_eq_true h'.2⟩
theorem Bm:R2J X (rI CPow fun i j=>.int (i ^ j.toNat)) Sd:=P9 fun i j h=>xM h
def Wh:D->D->Option Slot
 | .str x,.str y=>if x.length+y.length<=16777216 then some (.fr (.str (x++y))) else none
 | _,_=>none
def Sq:D->D->Option Slot
 | .lst x,.lst y=>if x.length+y.length<=16777216 then some (.own (.lst (x++y))) else none
 | _,_=>none
def RE:D->D->Option Slot
 | .tup x,.tup y=>if x.length+y.length<=16777216 then some (.fr (.tup (x++y))) else none
 | _,_=>none
theorem DB:R2J X (fun x y H Q => ∃ i j,x = .str i/\y = .str j/\i.length+j.length<=sizeLine/\Q (.str (i++j)) H) Wh:=by
 refine Wy fun F ρ H x y dx dy s Q bx bY e => ?_;unfold Wh at e;cases dx <;> cases dy <;> first | (cases e; done) | skip
 rename_i i j
 cases bx.str;cases bY.str;by_cases hz:i.length+j.length<=16777216
 ·simp only [hz,if_true] at e
  cases e;exact ⟨.str (toS i++toS j),fun q=>⟨_,_,rfl,rfl,by rw [Wz,Wz,YM]; exact hz,q⟩,_,rfl,fun _ _=>by rw [GU]; exact .str⟩
 ·simp only [hz] at e; cases e
def JV (K:PySem.W.Frag):R2:=fun x y H Q => ∃ a b xs zs,x = .ref a/\y = .ref b/\SqL K H a xs/\SqL K H b zs/\xs.length+zs.length<=sizeLine/\∀ p,H p=none->Q (.ref p) (upd H p (.lst (xs++zs)))
theorem Lj {prog:Program} {w:World} {A:Around} {E:Value->Shared->Prop} {s:Shared} {l b:Addr} {u v:List Value} {Q:Value->Shared->Prop}
  (hl:s.heap.IsList l u.toArray) (hb:s.heap.IsList b v.toArray) (hz:u.length+v.length<=sizeLine)
  (h:Q (.ref s.heap.objs.size) { s with heap:=s.heap.push { cls:=.type "list",data:=.seq (u++v).toArray } }):wpAny (model prog w) A (binaryOp .Add (.ref l) (.ref b)) Q E s:=by
 rcases hl with ⟨⟨k1,d1,t1,z1⟩,g1,y1,n1,x1⟩;rcases hb with ⟨⟨k2,d2,t2,z2⟩,g2,y2,n2,x2⟩;dsimp only at y1 x1 y2 x2;cases y1; cases x1; cases y2; cases x2;have hcat:(u++v).toArray=u.toArray++v.toArray:=by simp
 rw [hcat] at h;exact concat_meets ⟨_,g1,rfl⟩ ⟨_,g2,rfl⟩ noFill_list_add seq_list_add PySem.F.slot_list_add PySem.F.entry_list_add (PySem.F.args_list_add_2 _ _)
  (PyProof.Rows.list_addW l b u.toArray v.toArray n1 n2 d1 d2 z1 z2 (by simpa using hz)) ⟨g1,g2,h⟩
theorem Bl:OpR X (binaryOp .Add) (JV X.K):=by
 intro pins s σ H x y v u Q I rx ry h;obtain ⟨l,b,xs,zs,rfl,rfl,hl,hb,hz,q⟩:=h;cases rx;cases ry;obtain ⟨ia,ra,pa,za⟩:=I.list hl;obtain ⟨ib,rb,pb,zb⟩:=I.list hb;refine Lj pa.isList pb.isList (by rw [← ra.length,← rb.length]; exact hz) ?_;exact ⟨.ref s.heap.objs.size,_,I.lnew (t':=s.toks) (ra.append rb) (by rw [List.length_append]; exact hz),rfl,q _ I.fresh⟩
theorem Ua {Z F:Hp} {ρ:List Addr} {μ:Mem} {δ:Loc} {σ:St} {H:Hp} {p:Addr} {vs:List V} {ds:List D} (S:Sim X.K X.mg Z F ρ μ δ σ H) (hp:H p=none) (r:RepL X.K X.mg F ρ vs ds) :
  Sim X.K X.mg Z F ρ μ δ σ (upd H p (.lst vs))/\VR X.K X.mg Z F ρ δ σ (upd H p (.lst vs)) (.ref p) (.own (.lst ds)):=by
 obtain ⟨n1,n2,n3,n4⟩:=S.notIn hp;exact ⟨S.laid hp,⟨p,rfl,⟨n1,n2,n3⟩,vs,upd_same,r⟩,fun o p z z2=>by cases z2; exact n4⟩
theorem RU {Z F:Hp} {ρ:List Addr} {μ:Mem} {δ:Loc} {σ:St} {H:Hp} {p:Addr} {vs:List V} {ds:List D} (S:Sim X.K X.mg Z F ρ μ δ σ H) (hp:H p=none) (r:RepL X.K X.mg F ρ vs ds) :
  ∃ F',Le Z F F'/\Sim X.K X.mg Z F' ρ μ δ σ (upd H p (.tup vs))/\VR X.K X.mg Z F' ρ δ σ (upd H p (.tup vs)) (.ref p) (.fr (.tup ds)):=by
 obtain ⟨n1,n2,n3,n4⟩:=S.notIn hp;obtain ⟨l3,S3⟩:=(S.laid (o:=.tup vs) hp).freeze (p:=p) upd_same ⟨n1,n2,n3⟩ n4;exact ⟨_,l3,S3,.tup (.inl (.inl upd_same)) (r.up l3.to fun _ _ h=>h),fun o p z=>by cases z⟩
theorem DA:R2J X (JV X.K) Sq:=by
 intro Z F ρ μ δ σ H x y dx dy s Q S bx bY e q;unfold Sq at e;cases dx <;> cases dy <;> first | (cases e; done) | skip
 rename_i i j
 by_cases hz:i.length+j.length<=16777216
 ·simp only [hz,if_true] at e
  cases e;obtain ⟨p1,v1,rfl,h1,r1⟩:=bx.lst S;obtain ⟨p2,v2,rfl,h2,r2⟩:=bY.lst S;refine ⟨p1,p2,v1,v2,rfl,rfl,.of h1,.of h2,by rw [r1.len,r2.len,YM]; exact hz,fun p hp => ?_⟩;obtain ⟨S',vr⟩:=Ua S hp (r1.app r2);exact q _ _ F .refl S' vr
 ·simp only [hz] at e; cases e
theorem Dz:R2J X (rCatA X.K) RE:=by
 intro Z F ρ μ δ σ H x y dx dy s Q S bx bY e q;unfold RE at e;cases dx <;> cases dy <;> first | (cases e; done) | skip
 rename_i i j
 by_cases hz:i.length+j.length<=16777216
 ·simp only [hz,if_true] at e
  cases e;have b1:=bx.rep fun o e=>by cases o <;> cases e
  have b2:=bY.rep fun o e=>by cases o <;> cases e
  obtain ⟨p1,v1,rfl,h1,r1⟩:=bx.tup S;obtain ⟨p2,v2,rfl,h2,r2⟩:=bY.tup S;refine ⟨p1,p2,v1,v2,rfl,rfl,h1,h2,by rw [r1.len,r2.len,YM]; exact hz,fun z => ?_,fun _ z => ?_,fun _ _ p hp => ?_⟩
  ·subst z
   cases r1;exact q _ H F .refl S ⟨b2,fun o p z=>by cases z⟩
  ·subst z
   cases r2;rw [List.append_nil] at q;exact q _ H F .refl S ⟨b1,fun o p z=>by cases z⟩
  ·obtain ⟨F',l',S',vr⟩:=RU S hp (r1.app r2)
   exact q _ _ F' l' S' vr
 ·simp only [hz] at e; cases e
def ZP:D->D->Option Slot:=fun x y=>(gInt (fun _ _=>true) (fun i j=>.int (i+j)) x y).or ((Wh x y).or ((Sq x y).or (RE x y)))
abbrev Ej (K:PySem.W.Frag):R2:=fun x y H Q=>rI0 (fun i j=>.int (i+j)) x y H Q\/((∃ i j,x = .str i/\y = .str j/\i.length+j.length<=sizeLine/\Q (.str (i++j)) H)\/(JV K x y H Q\/rCatA K x y H Q))
theorem Bk:OpR X (binaryOp .Add) (Ej X.K):=op_add.or (op_add_str.or (Bl.or op_catA))
theorem Bj:R2J X (Ej X.K) ZP:=R2J.or Mc (R2J.or DB (R2J.or DA Dz))
def Dy:D->D->Option Slot
 | .lst x,.int k=>if (decide (-(2 ^ 63)<=k)&&decide (k < 2 ^ 63)&&decide (x.length * k.toNat<=16777216))=true then some (.own (.lst (List.replicate k.toNat x).flatten)) else none
 | _,_=>none
theorem RepL.rep {F:Hp} {ρ:List Addr} {vs:List V} {ds:List D} (h:RepL X.K X.mg F ρ vs ds):∀ n:Nat,RepL X.K X.mg F ρ (List.replicate n vs).flatten (List.replicate n ds).flatten
 | 0=>.nil
 | n+1=>by
   rw [List.replicate_succ,List.replicate_succ,List.flatten_cons,List.flatten_cons];exact h.app (RepL.rep h n)
theorem Bi:R2J X rRep Dy:=by
 intro Z F ρ μ δ σ H x y dx dy s Q S bx bY e q;unfold Dy at e;cases dx <;> cases dy <;> first | (cases e; done) | skip
 rename_i xs k
 cases bY.int;by_cases hz:(decide (-(2 ^ 63)<=k)&&decide (k < 2 ^ 63)&&decide (xs.length * k.toNat<=16777216))=true
 ·simp only [hz,if_true] at e
  cases e;obtain ⟨p1,v1,rfl,h1,r1⟩:=bx.lst S;have h':=Bool.and_eq_true_iff.mp hz;have h2:=Bool.and_eq_true_iff.mp h'.1;refine ⟨p1,k,v1,rfl,rfl,h1,of_decide_eq_true h2.1,of_decide_eq_true h2.2,by rw [r1.len,YM]; exact of_decide_eq_true h'.2,fun p hp => ?_⟩;obtain ⟨S',vr⟩:=Ua S hp (r1.rep k.toNat);exact q _ _ F .refl S' vr
 ·simp only [hz] at e; cases e
abbrev tb (b:Bool):Slot:=.fr (.bl b)
abbrev xJ:D->D->Option Slot:=gInt (fun _ _=>true) fun i j=>.bl (decide (i < j))
abbrev xI:D->D->Option Slot:=gInt (fun _ _=>true) fun i j=>.bl (decide (i<=j))
abbrev Dx:D->D->Option Slot:=gInt (fun _ _=>true) fun i j=>.bl (decide (j < i))
abbrev GO:D->D->Option Slot:=gInt (fun _ _=>true) fun i j=>.bl (decide (j<=i))
def Ei (f:Tx->Tx->Bool):D->D->Option Slot
 | .str x,.str y=>some (tb (f x y))
 | _,_=>none
theorem Mb {f:List Nat->List Nat->Bool}:R2J X (fun x y H Q => ∃ i j,x = .str i/\y = .str j/\Q (.bl (f i.cps.toList j.cps.toList)) H) (Ei f):=by
 refine Wy fun F ρ H x y dx dy s Q bx bY e => ?_;unfold Ei at e;cases dx <;> cases dy <;> first | (cases e; done) | skip
 cases bx.str;cases bY.str;cases e;exact ⟨.bl _,fun q=>⟨_,_,rfl,rfl,q⟩,_,rfl,fun _ _=>.bl⟩
def Nl:D->D->Option Slot:=fun x y=>(xJ x y).or (Ei (fun x y=>decide (x < y)) x y)
def Tv:D->D->Option Slot:=fun x y=>(xI x y).or (Ei (fun x y => !decide (y < x)) x y)
def Dw:D->D->Option Slot:=fun x y=>(Dx x y).or (Ei (fun x y=>decide (y < x)) x y)
def Eh:D->D->Option Slot:=fun x y=>(GO x y).or (Ei (fun x y => !decide (x < y)) x y)
abbrev Bh:R2:=fun x y H Q=>rI0 (fun i j=>.bl (decide (i < j))) x y H Q\/∃ i j,x = .str i/\y = .str j/\Q (.bl (decide (i.cps.toList < j.cps.toList))) H
abbrev Bg:R2:=fun x y H Q=>rI0 (fun i j=>.bl (decide (i<=j))) x y H Q\/∃ i j,x = .str i/\y = .str j/\Q (.bl (!decide (j.cps.toList < i.cps.toList))) H
abbrev Bf:R2:=fun x y H Q=>rI0 (fun i j=>.bl (decide (j < i))) x y H Q\/∃ i j,x = .str i/\y = .str j/\Q (.bl (decide (j.cps.toList < i.cps.toList))) H
abbrev Be:R2:=fun x y H Q=>rI0 (fun i j=>.bl (decide (j<=i))) x y H Q\/∃ i j,x = .str i/\y = .str j/\Q (.bl (!decide (i.cps.toList < j.cps.toList))) H
theorem Bc:OpR X (compareOp .Lt) Bh:=op_lt.or op_lt_str
theorem Nd:OpR X (compareOp .LtE) Bg:=op_le.or op_le_str
theorem xG:OpR X (compareOp .Gt) Bf:=op_gt.or op_gt_str
theorem xF:OpR X (compareOp .GtE) Be:=op_ge.or op_ge_str
theorem Bb:R2J X Bh Nl:=R2J.or RV (Mb (f:=fun x y=>decide (x < y)))
theorem Nc:R2J X Bg Tv:=R2J.or RV (Mb (f:=fun x y => !decide (y < x)))
theorem xD:R2J X Bf Dw:=R2J.or RV (Mb (f:=fun x y=>decide (y < x)))
theorem xC:R2J X Be Eh:=R2J.or RV (Mb (f:=fun x y => !decide (x < y)))
def Qy:D->D->Option Bool
 | .int i,.int j=>some (decide (i=j))
 | .str x,.str y=>some (decide (x=y))
 | .bl a,.bl b=>some (decide (a=b))
 | .non,.non=>some true
 | .non,.int _ | .int _,.non | .non,.bl _ | .bl _,.non | .non,.str _ | .str _,.non | .int _,.str _ | .str _,.int _ | .bl _,.str _ | .str _,.bl _=>some false
 | _,_=>none
mutual
def D.py:D->Option PyData
 | .non=>some .none
 | .bl b=>some (.bool b)
 | .int i=>some (.int i)
 | .str x=>some (.str (toS x))
 | .lst xs=>(D.pys xs).map .list
 | .tup xs=>(D.pys xs).map .tuple
 | .fx .ro [] xs=>(D.pys xs).map .list
 | .fx .rc [] xs=>(D.pys xs).map .tuple
 | _=>none
def D.pys:List D->Option (List PyData)
 | []=>some []
 | x :: xs=>match D.py x,D.pys xs with
   | some a,some r=>some (a :: r)
   | _,_=>none
end
def eqP (x y:D):Option Bool:=match D.py x,D.py y with
 | some a,some b=>if SeqAt.shaped a&&SeqAt.shaped b then some (PyData.eqv a b) else none
 | _,_=>none
def YC (neg:Bool):D->D->Option Slot:=fun x y=>((Qy x y).map fun b=>tb (b != neg)).or ((eqP x y).map fun b=>tb (b != neg))
abbrev Ba (K:PySem.W.Frag):R2:=fun x y H Q=>rEq x y H Q\/rEqD K x y H Q
abbrev A' (K:PySem.W.Frag):R2:=fun x y H Q=>rNe x y H Q\/rNeD K x y H Q
theorem Dv (hu:X.A.units+64 < cLine):OpR X (compareOp .Eq) (Ba X.K):=op_eq.or (op_eqD hu)
theorem A_ (hu:X.A.units+64 < cLine):OpR X (compareOp .NotEq) (A' X.K):=op_ne.or (op_neD hu)
mutual
theorem Rep.dp {K:PySem.W.Frag} {mg:Str->Option Value} {F H:Hp} {ρ:List Addr} (l:∀ p u,Rd F p u->Rd H p u):∀ {v:V} {d:D} {q:PyData},Rep K mg F ρ v d->D.py d=some q->Dp K H v q
 | _,_,_,.non,e=>by simp only [D.py] at e; cases e; exact .non
 | _,_,_,.bl,e=>by simp only [D.py] at e; cases e; exact .bl _
 | _,_,_,.int,e=>by simp only [D.py] at e; cases e; exact .int _
 | _,_,_,.str,e=>by simp only [D.py] at e; cases e; exact .str _
 | _,_,_,.lst h r,e=>by
   simp only [D.py] at e;obtain ⟨qs,e1,e2⟩:=Option.map_eq_some_iff.mp e;subst e2;exact .lst (.inl (l _ _ (.inl h))) (RepL.dp l r e1)
 | _,_,_,.ro h r,e=>by
   simp only [D.py] at e;obtain ⟨qs,e1,e2⟩:=Option.map_eq_some_iff.mp e;subst e2;exact .lst (h.elim (fun h=>.inl (l _ _ h)) .inr) (RepL.dp l r e1)
 | _,_,_,.tup h r,e=>by
   simp only [D.py] at e;obtain ⟨qs,e1,e2⟩:=Option.map_eq_some_iff.mp e;subst e2;exact .tup (h.elim (fun h=>.inl (l _ _ h)) .inr) (RepL.dp l r e1)
 | _,_,_,.dct _ _ _,e=>by simp only [D.py] at e; cases e
 | _,_,_,.obj _,e=>by simp only [D.py] at e; cases e
 | _,_,_,.glo _ _,e=>by simp only [D.py] at e; cases e
 | _,_,_,.ty,e=>by simp only [D.py] at e; cases e
 | _,_,_,.exn _ _ _ _,e=>by simp only [D.py] at e; cases e
 | _,_,_,.rc h hd r,e=>by
   simp only [D.py] at e;obtain ⟨qs,e1,e2⟩:=Option.map_eq_some_iff.mp e;subst e2;exact .tup (.inl (l _ _ (.inr ⟨_,h⟩))) (RepL.dp l r e1)
 | _,_,_,.dcf _ _ _,e=>by simp only [D.py] at e; cases e
theorem RepL.dp {K:PySem.W.Frag} {mg:Str->Option Value} {F H:Hp} {ρ:List Addr} (l:∀ p u,Rd F p u->Rd H p u):∀ {vs:List V} {ds:List D} {qs:List PyData},RepL K mg F ρ vs ds->D.pys ds=some qs->DpAll K H vs qs
 | _,_,_,.nil,e=>by simp only [D.pys] at e; cases e; exact .nil
 | _,_,_,.cons (d:=d) (ds:=ds) h t,e=>by
   simp only [D.pys] at e;cases e1:D.py d with
   | none=>simp only [e1] at e; cases e
   | some a =>
     cases e2:D.pys ds with
     | none=>simp only [e1,e2] at e; cases e
     | some r =>
       simp only [e1,e2] at e;cases e;exact .cons (Rep.dp l h e1) (RepL.dp l t e2)
end
theorem Bor.dp {Z F H:Hp} {ρ:List Addr} {μ:Mem} {δ:Loc} {σ:St} {v:V} {d:D} {q:PyData} (S:Sim X.K X.mg Z F ρ μ δ σ H) (h:Bor X.K X.mg F ρ H v d) (e:D.py d=some q):Dp X.K H v q:=by
 cases h with
 | fr h=>exact h.dp (fun _ _=>S.rd) e
 | @own p o h =>
   cases o with
   | dct ks vs=>simp only [Own.d,D.py] at e; cases e
   | tab P q=>simp only [Own.d,D.py] at e; cases e
   | ins c kd ks xs=>simp only [Own.d,D.py] at e; cases e
   | idc k=>simp only [Own.d,D.py] at e; cases e
   | tpk ks=>simp only [Own.d,D.py] at e; cases e
   | fdc ks vs=>simp only [Own.d,D.py] at e; cases e
   | lst xs =>
     simp only [Own.d,D.py] at e;obtain ⟨qs,e1,e2⟩:=Option.map_eq_some_iff.mp e;subst e2;obtain ⟨vs,eh,r⟩:=h;exact .lst (.inl (.inl eh)) (r.dp (fun _ _=>S.rd) e1)
theorem A9 {F H:Hp} {ρ:List Addr} {x y:V} {dx dy:D} {b:Bool} (bx:Bor X.K X.mg F ρ H x dx) (bY:Bor X.K X.mg F ρ H y dy) (e:Qy dx dy=some b):scal x y=true/\decide (x=y)=b:=by
 unfold Qy at e;cases dx <;> cases dy <;> first | (cases e; done) | skip
 all_goals cases e
 all_goals first
  | (cases bx.non; cases bY.non; exact ⟨rfl,rfl⟩)
  | (cases bx.non; cases bY.bl; exact ⟨rfl,rfl⟩)
  | (cases bx.bl; cases bY.non; exact ⟨rfl,rfl⟩)
  | (cases bx.non; cases bY.int; exact ⟨rfl,rfl⟩)
  | (cases bx.int; cases bY.non; exact ⟨rfl,rfl⟩)
  | (cases bx.non; cases bY.str; exact ⟨rfl,rfl⟩)
  | (cases bx.str; cases bY.non; exact ⟨rfl,rfl⟩)
  | (cases bx.int; cases bY.str; exact ⟨rfl,rfl⟩)
  | (cases bx.str; cases bY.int; exact ⟨rfl,rfl⟩)
  | (cases bx.bl; cases bY.str; exact ⟨rfl,rfl⟩)
  | (cases bx.str; cases bY.bl; exact ⟨rfl,rfl⟩)
  | (cases bx.bl; cases bY.bl; exact ⟨rfl,by simp⟩)
  | (cases bx.int; cases bY.int; exact ⟨rfl,by simp⟩)
  | (cases bx.str; cases bY.str
     refine ⟨rfl,?_⟩
     rename_i i j
     by_cases q:i=j
     ·subst q; simp
     ·have n : ¬ (V.str (toS i)=V.str (toS j)):=fun z=>q (RX (by injection z))
      rw [decide_eq_false n,decide_eq_false q])
theorem Eg (neg:Bool):R2J X (fun x y H Q=>scal x y=true/\Q (.bl (decide (x=y) != neg)) H) (fun x y=>(Qy x y).map fun b=>tb (b != neg)):=by
 refine Wy fun F ρ H x y dx dy s Q bx bY e => ?_;obtain ⟨b,e1,e2⟩:=Option.map_eq_some_iff.mp e;obtain ⟨h1,h2⟩:=A9 bx bY e1;subst e2 h2;exact ⟨_,fun q=>⟨h1,q⟩,_,rfl,fun _ _=>.bl⟩
theorem Ef (neg:Bool):R2J X (fun x y H Q => ∃ d e,Dp X.K H x d/\Dp X.K H y e/\SeqAt.shaped d=true/\SeqAt.shaped e=true/\Q (.bl (PyData.eqv d e != neg)) H) (fun x y=>(eqP x y).map fun b=>tb (b != neg)):=by
 intro Z F ρ μ δ σ H x y dx dy s Q S bx bY e q;obtain ⟨b,e1,e2⟩:=Option.map_eq_some_iff.mp e;subst e2;unfold eqP at e1;cases p1:D.py dx with
 | none=>simp only [p1] at e1; cases e1
 | some a =>
   cases p2:D.py dy with
   | none=>simp only [p1,p2] at e1; cases e1
   | some c =>
     simp only [p1,p2] at e1;by_cases hs:(SeqAt.shaped a&&SeqAt.shaped c)=true
     ·rw [if_pos hs] at e1
      cases e1;have hs':=Bool.and_eq_true_iff.mp hs;exact ⟨a,c,bx.dp S p1,bY.dp S p2,hs'.1,hs'.2,q _ H F .refl S .bl⟩
     ·rw [if_neg hs] at e1; cases e1
theorem Du:R2J X (Ba X.K) (YC false):=by
 have h:=R2J.or (Eg (X:=X) false) (Ef false);have e:YC false=fun x y=>((Qy x y).map fun b=>tb b).or ((eqP x y).map fun b=>tb b):=by
  funext x y; unfold YC; simp only [Bool.bne_false]
 rw [e];simp only [Bool.bne_false] at h;exact h
theorem A8:R2J X (A' X.K) (YC true):=by
 have h:=R2J.or (Eg (X:=X) true) (Ef true);have e:YC true=fun x y=>((Qy x y).map fun b=>tb (!b)).or ((eqP x y).map fun b=>tb (!b)):=by
  funext x y; unfold YC; simp only [Bool.bne_true]
 rw [e];simp only [Bool.bne_true] at h;exact h
def WT (neg:Bool):D->D->Option Slot
 | .non,.non=>some (tb (true != neg))
 | .glo _,.non=>none
 | _,.non=>some (tb (false != neg))
 | _,_=>none
theorem A7 {F H:Hp} {ρ:List Addr} {x:V} {dx:D} (bx:Bor X.K X.mg F ρ H x dx) (ng:∀ g,dx ≠ .glo g):decide (x=V.non)=match dx with | .non=>true | _=>false:=by
 cases bx with
 | fr h=>cases h <;> first | rfl | exact absurd rfl (ng _)
 | @own p o h=>cases o <;> rfl
theorem Ee (neg:Bool):R2J X (fun x y H Q=>y=V.non/\Q (.bl (decide (x = .non) != neg)) H) (WT neg):=by
 refine Wy fun F ρ H x y dx dy s Q bx bY e => ?_;unfold WT at e;cases dy <;> first | (cases dx <;> cases e; done) | skip
 cases bY.non;cases dx <;> first | (cases e; done) | skip
 all_goals
  have h:=A7 bx (fun g z=>by cases z);cases e;rw [h];exact ⟨_,fun q=>⟨rfl,q⟩,_,rfl,fun _ _=>.bl⟩
theorem Ed:OpR X (compareOp .Is) (fun x y H Q=>y=V.non/\Q (.bl (decide (x = .non) != false)) H):=by simpa only [Bool.bne_false] using op_isN (X:=X)
def OM (neg:Bool):D->D->Option Slot
 | .str [c],.str y=>some (tb (decide (c∈y) != neg))
 | _,_=>none
theorem A6 (neg:Bool):R2J X (fun x y H Q => ∃ (c:Nat) (z:Str),x = .str ⟨#[c]⟩/\y = .str z/\Q (.bl (decide (c∈z.cps.toList) != neg)) H) (OM neg):=by
 refine Wy fun F ρ H x y dx dy s Q bx bY e => ?_;unfold OM at e;cases dx <;> first | (cases e; done) | skip
 rename_i xs
 cases xs with
 | nil=>cases e
 | cons c r =>
   cases r with
   | cons _ _=>cases e
   | nil =>
     cases dy <;> first | (cases e; done) | skip
     cases bx.str;cases bY.str;cases e;exact ⟨_,fun q=>⟨c,_,rfl,rfl,q⟩,_,rfl,fun _ _=>.bl⟩
def D.fv:D->Option V
 | .non=>some .non
 | .bl b=>some (.bl b)
 | .int i=>some (.int i)
 | .str x=>some (.str (toS x))
 | _=>none
def fvs:List D->Option (List V)
 | []=>some []
 | x :: xs=>match D.fv x,fvs xs with
   | some a,some r=>some (a :: r)
   | _,_=>none
def GN (neg:Bool):D->D->Option Slot:=fun x y=>match D.fv x,(match y with | .lst ys=>fvs ys | .tup ys=>fvs ys | _=>none) with
 | some a,some vs=>some (tb (inV a vs != neg))
 | _,_=>none
theorem Bor.fv {F H:Hp} {ρ:List Addr} {x w:V} {d:D} (h:Bor X.K X.mg F ρ H x d) (e:D.fv d=some w):x=w/\flatV w=true:=by
 cases d <;> first | (cases e; done) | skip
 ·cases e; exact ⟨h.non,rfl⟩
 ·cases e; exact ⟨h.bl,rfl⟩
 ·cases e; exact ⟨h.int,rfl⟩
 ·cases e; exact ⟨h.str,rfl⟩
theorem RepL.fvs {F:Hp} {ρ:List Addr}:∀ {vs ws:List V} {ds:List D},RepL X.K X.mg F ρ vs ds->fvs ds=some ws->vs=ws/\ws.all flatV=true:=by
 intro vs ws ds
 induction ds generalizing vs ws with
 | nil=>intro h e; cases h; cases e; exact ⟨rfl,rfl⟩
 | cons d ds ih =>
   intro h e;cases h with
   | cons h t =>
     unfold FL.fvs at e;cases e1:D.fv d with
     | none=>simp only [e1] at e; cases e
     | some a =>
       cases e2:FL.fvs ds with
       | none=>simp only [e1,e2] at e; cases e
       | some r =>
         simp only [e1,e2] at e;cases e;obtain ⟨h1,h2⟩:=ih t e2;obtain ⟨h3,h4⟩:=Bor.fv (X:=X) (H:=F) (.fr h) e1;exact ⟨by rw [h1,h3],by rw [List.all_cons,h4,h2]; rfl⟩
theorem A5 (neg:Bool):R2J X (rIn X.K neg) (GN neg):=by
 intro Z F ρ μ δ σ H x y dx dy s Q S bx bY e q;unfold GN at e;cases e1:D.fv dx with
 | none=>simp only [e1] at e; cases e
 | some a =>
   obtain ⟨rfl,fa⟩:=bx.fv e1;have fin:∀ {vs:List V} {ds:List D} {ws:List V},RepL X.K X.mg F ρ vs ds->fvs ds=some ws->s=tb (inV x ws != neg)->x=x->∀ p,y = .ref p->(SqL X.K H p vs\/SqT X.K H p vs)->rIn X.K neg x y H Q:=by
    intro vs ds ws r e2 es _ p ey hq;obtain ⟨rfl,f2⟩:=r.fvs e2;refine ⟨p,vs,ey,hq,fa,f2,?_⟩;have qq:=q (.bl (inV x vs != neg)) H F .refl S (by rw [es]; exact .bl);cases neg with
    | true=>rw [if_pos rfl]; simpa only [Bool.bne_true] using qq
    | false=>rw [if_neg Bool.false_ne_true]; simpa only [Bool.bne_false] using qq
   cases dy <;> first | (simp only [e1] at e; cases e; done) | skip
   ·rename_i ys
    cases e2:fvs ys with
    | none=>simp only [e1,e2] at e; cases e
    | some ws =>
      simp only [e1,e2] at e;obtain ⟨p,vs,ey,hl,r⟩:=bY.lst S;exact fin r e2 (by injection e with e; exact e.symm) rfl p ey (.inl (.of hl))
   ·rename_i ys
    cases e2:fvs ys with
    | none=>simp only [e1,e2] at e; cases e
    | some ws =>
      simp only [e1,e2] at e;obtain ⟨p,vs,ey,hl,r⟩:=bY.tup S;exact fin r e2 (by injection e with e; exact e.symm) rfl p ey (.inr hl)
def To (neg:Bool):D->D->Option Slot:=fun x y=>(OM neg x y).or (GN neg x y)
abbrev Dt (K:PySem.W.Frag) (neg:Bool):R2:=fun x y H Q=>(∃ (c:Nat) (z:Str),x = .str ⟨#[c]⟩/\y = .str z/\Q (.bl (decide (c∈z.cps.toList) != neg)) H)\/rIn K neg x y H Q
theorem A4:OpR X (compareOp .In) (Dt X.K false):=OpR.or (by simpa only [Bool.bne_false] using op_in_sign (X:=X)) op_in_seq
theorem A3:OpR X (compareOp .NotIn) (Dt X.K true):=OpR.or (by simpa only [Bool.bne_true] using op_notIn_sign (X:=X)) op_notIn_seq
theorem Ds (neg:Bool):R2J X (Dt X.K neg) (To neg):=R2J.or (A6 neg) (A5 neg)
def JU:FxM->List DK->List D->Int->Option Slot
 | .ro,[],x,i=>(L2.atI x i).map .fr
 | .rc,[],x,i=>(L2.atI x i).map .fr
 | _,_,_,_=>none
def ZL:D->D->Option Slot
 | .lst x,.int i=>(atI x i).map .fr
 | .tup x,.int i=>(atI x i).map .fr
 | .fx b ks x,.int i=>JU b ks x i
 | .str x,.int i=>if x.length<=16777216 then (atI x i).map fun c=>.fr (.str [c]) else none
 | _,_=>none
theorem RepL.atI {F:Hp} {ρ:List Addr} {vs:List V} {ds:List D} {i:Int} {d:D} (r:RepL X.K X.mg F ρ vs ds) (e:L2.atI ds i=some d):∃ v,L2.atI vs i=some v/\Rep X.K X.mg F ρ v d:=by
 unfold L2.atI at e ⊢;rw [r.len];cases h:ixN ds.length i with
 | none=>rw [h] at e; cases e
 | some j =>
   rw [h] at e;exact r.get e
theorem xB:R2J X (rIx X.K) ZL:=by
 intro Z F ρ μ δ σ H x y dx dy s Q S bx bY e q;unfold ZL at e;cases dx <;> cases dy <;> first | (cases e; done) | skip
 ·rename_i x i
  cases bx.str;cases bY.int;by_cases hz:x.length<=16777216
  ·simp only [hz,if_true] at e
   obtain ⟨c,e1,e2⟩:=Option.map_eq_some_iff.mp e;subst e2;exact .inr (.inr ⟨_,_,c,rfl,rfl,by rw [Wz,YM]; exact hz,e1,q _ H F .refl S ⟨Rep.str (x:=[c]),fun o p z=>by cases z⟩⟩)
  ·simp only [hz] at e; cases e
 ·rename_i x i
  obtain ⟨d,e1,e2⟩:=Option.map_eq_some_iff.mp e;subst e2;cases bY.int;obtain ⟨p,vs,rfl,hl,r⟩:=bx.lst S;obtain ⟨v,ev,rv⟩:=r.atI e1;exact .inl ⟨p,vs,_,v,rfl,rfl,.of hl,ev,q _ H F .refl S ⟨rv,fun o p z=>by cases z⟩⟩
 ·rename_i x i
  obtain ⟨d,e1,e2⟩:=Option.map_eq_some_iff.mp e;subst e2;cases bY.int;obtain ⟨p,vs,rfl,hl,r⟩:=bx.tup S;obtain ⟨v,ev,rv⟩:=r.atI e1;exact .inr (.inl ⟨p,vs,_,v,rfl,rfl,hl,ev,q _ H F .refl S ⟨rv,fun o p z=>by cases z⟩⟩)
 ·rename_i b ks x i
  have e:JU b ks x i=some s:=e;cases bY.int;cases b <;> cases ks <;> first | (cases e; done) | skip
  ·obtain ⟨d,e1,e2⟩:=Option.map_eq_some_iff.mp (show (L2.atI x i).map Slot.fr=some s from e)
   subst e2;obtain ⟨p,vs,rfl,hl,r⟩:=bx.ro S;obtain ⟨v,ev,rv⟩:=r.atI e1;exact .inl ⟨p,vs,_,v,rfl,rfl,hl,ev,q _ H F .refl S ⟨rv,fun o p z=>by cases z⟩⟩
  obtain ⟨d,e1,e2⟩:=Option.map_eq_some_iff.mp (show (L2.atI x i).map Slot.fr=some s from e);subst e2;obtain ⟨p,vs,rfl,hl,r⟩:=bx.rcT S;obtain ⟨v,ev,rv⟩:=r.atI e1;exact .inr (.inl ⟨p,vs,_,v,rfl,rfl,hl,ev,q _ H F .refl S ⟨rv,fun o p z=>by cases z⟩⟩)
end
end FL
namespace FL
open PySem L2
section
variable {X : Cx} {W : WX} {e a b o : Expr} {es : List Expr} {pos p apos : Pos}
def RLJ (X:Cx) (r:List V->Hp->VK->Prop) (g:List D->Option Slot):Prop:=∀ Z F ρ μ δ σ H xs ds s Q,Sim X.K X.mg Z F ρ μ δ σ H->BorL X.K X.mg F ρ H xs ds->g ds=some s ->
 (∀ v H' F',Le Z F F'->Sim X.K X.mg Z F' ρ μ δ σ H'->VR X.K X.mg Z F' ρ δ σ H' v s->Q v H')->r xs H Q
def mC (g:List D->Option Slot) (os:List Opn):ME:=fun δ μ=>(RW os δ μ).bind fun rs δ1 μ1=>match OR.ats δ1 μ1 rs with
 | some ds=>lift (g ds) δ1 μ1
 | none=>.bad
theorem P8 {r:List V->Hp->VK->Prop} {g:List D->Option Slot} {os:List Opn} (hr:RLJ X r g):∀ σ H Q,Uw X W (mC g os) σ H Q->tCB r (DE X W os) σ H Q:=by
 intro σ H Q ⟨Z,F,ρ,μ,δ,S,q⟩;refine ⟨Z,F,ρ,μ,δ,S,(FinE.bind q).imp fun rs δ1 μ1 H1 F1 ρ1 l lr S1 ⟨_,_,_,p⟩ xs hx => ?_⟩;cases ea:OR.ats δ1 μ1 rs with
 | none=>simp only [ea] at p; exact p.elim
 | some ds =>
   simp only [ea] at p;unfold lift at p;cases eg:g ds with
   | none=>simp only [eg] at p; exact p.elim
   | some s =>
     simp only [eg] at p;exact hr Z F1 ρ1 μ1 δ1 σ H1 xs ds s Q S1 (hx.bor S1 ea) eg fun v H' F' l' S' vr=>p H' F' ρ1 l' .refl S' v vr
theorem JR {x:Str} {id:String} {r:List V->Hp->VK->Prop} {g:List D->Option Slot} {os:List Opn} (hc:CallR X (.builtin id) r) (hr:RLJ X r g) (hg:Gl X x) (hm:X.mg x=none) (hv:bootBuiltins x=some (.builtin id)) (ha:Ll X W (e :: es) os)
  (hn:x ≠ "__name__":=by decide) (hdb:(x == ("__debug__" : Str))=false:=by decide)
  (he:starEach (e :: es) X.env=(false,eval e X.env) :: starEach es X.env:=by rfl) (hpl:(backTo pos (starEach es X.env)).any (·.1)=false:=by rfl):JE X W (.Call (.Name x p) (e :: es) [] pos) (mC g os) :=
 (pe_callB hc hg hm hv ha hn hdb he hpl).imp (P8 hr)
theorem Li {x:Str} {T:String} {r:List V->Hp->VK->Prop} {g:List D->Option Slot} {os:List Opn} (hc:CallR X (.type T) r) (hr:RLJ X r g) (hg:Gl X x) (hm:X.mg x=none) (hv:bootBuiltins x=some (.type T)) (ha:Ll X W (e :: es) os)
  (hn:x ≠ "__name__":=by decide) (hdb:(x == ("__debug__" : Str))=false:=by decide)
  (he:starEach (e :: es) X.env=(false,eval e X.env) :: starEach es X.env:=by rfl) (hpl:(backTo pos (starEach es X.env)).any (·.1)=false:=by rfl):JE X W (.Call (.Name x p) (e :: es) [] pos) (mC g os) :=
 (pe_callTy hc hg hm hv ha hn hdb he hpl).imp (P8 hr)
theorem A0 {x:Str} {T:String} (hg:Gl X x) (hm:X.mg x=none) (hv:bootBuiltins x=some (.type T)) (hn:x ≠ "__name__":=by decide) (hdb:(x == ("__debug__" : Str))=false:=by decide):JE X W (.Name x pos) (mD (.ty T)) :=
 Ng (pe_bltn hg hm hv (v:=.ty T) rfl hn hdb) fun _ _=>.ty
theorem RLJ.or {r r':List V->Hp->VK->Prop} {g g':List D->Option Slot} (h:RLJ X r g) (h':RLJ X r' g'):RLJ X (fun x H Q=>r x H Q\/r' x H Q) (fun x=>(g x).or (g' x)):=by
 intro Z F ρ μ δ σ H xs ds s Q S b e q;have e:(g ds).or (g' ds)=some s:=e;cases eg:g ds with
 | some s' => rw [eg] at e; exact .inl (h Z F ρ μ δ σ H xs ds s Q S b (by rw [eg]; exact e) q)
 | none=>rw [eg] at e; exact .inr (h' Z F ρ μ δ σ H xs ds s Q S b e q)
theorem BorL.one {F H:Hp} {ρ:List Addr} {xs:List V} {d:D} (h:BorL X.K X.mg F ρ H xs [d]):∃ v,xs=[v]/\Bor X.K X.mg F ρ H v d:=by
 cases h with
 | cons h t=>cases t; exact ⟨_,rfl,h⟩
theorem BorL.two {F H:Hp} {ρ:List Addr} {xs:List V} {d d':D} (h:BorL X.K X.mg F ρ H xs [d,d']):∃ v w,xs=[v,w]/\Bor X.K X.mg F ρ H v d/\Bor X.K X.mg F ρ H w d':=by
 cases h with
 | cons h t=>obtain ⟨w,rfl,h'⟩:=t.one; exact ⟨_,w,rfl,h,h'⟩
theorem OL {r:List V->Hp->VK->Prop} {g:D->Option Slot} (h:∀ Z F ρ μ δ σ H x dx s Q,Sim X.K X.mg Z F ρ μ δ σ H->Bor X.K X.mg F ρ H x dx->g dx=some s->∃ v,(Q v H->r [x] H Q)/\∃ d,s = .fr d/\Rep X.K X.mg F ρ v d) :
  RLJ X r (fun ds=>match ds with | [d]=>g d | _=>none):=by
 intro Z F ρ μ δ σ H xs ds s Q S b e q;cases ds with
 | nil=>cases e
 | cons d r' =>
   cases r' with
   | cons _ _=>cases e
   | nil =>
     obtain ⟨v,rfl,hb⟩:=b.one;obtain ⟨w,h1,d',rfl,h2⟩:=h Z F ρ μ δ σ H v d s Q S hb e;exact h1 (q w H F .refl S ⟨h2,fun o p z=>by cases z⟩)
def W7:D->Option Slot
 | .str x=>if x.length<=16777216 then some (.fr (.int x.length)) else none
 | .lst x=>some (.fr (.int x.length))
 | .tup x=>some (.fr (.int x.length))
 | .fx .ro [] x=>some (.fr (.int x.length))
 | .fx .rc [] x=>some (.fr (.int x.length))
 | _=>none
def Zt:List D->Option Slot:=fun ds=>match ds with
 | [d]=>W7 d
 | _=>none
abbrev rLen (K:PySem.W.Frag):List V->Hp->VK->Prop:=fun xs H Q => ∃ x n,xs=[x]/\LenV K x H n/\Q (.int n) H
theorem AZ:RLJ X (rLen X.K) Zt:=OL fun Z F ρ μ δ σ H x dx s Q S b e=>by
 unfold W7 at e;cases dx <;> first | (cases e; done) | skip
 ·rename_i t
  cases b.str;by_cases hz:t.length<=16777216
  ·simp only [hz,if_true] at e
   cases e;exact ⟨.int (toS t).length,fun q=>⟨_,_,rfl,⟨by rw [Wz,YM]; exact hz,rfl⟩,q⟩,_,rfl,by rw [Wz]; exact .int⟩
  ·simp only [hz] at e; cases e
 ·cases e
  obtain ⟨p,vs,rfl,h,r⟩:=b.lst S;exact ⟨.int vs.length,fun q=>⟨_,_,rfl,.inl ⟨vs,.of h,rfl⟩,q⟩,_,rfl,by rw [r.len]; exact .int⟩
 ·cases e
  obtain ⟨p,vs,rfl,h,r⟩:=b.tup S;exact ⟨.int vs.length,fun q=>⟨_,_,rfl,.inr ⟨vs,h,rfl⟩,q⟩,_,rfl,by rw [r.len]; exact .int⟩
 ·rename_i b' ks' x'
  cases b' <;> cases ks' <;> first | (cases e; done) | skip
  ·cases e
   obtain ⟨p,vs,rfl,h,r⟩:=b.ro S;exact ⟨.int vs.length,fun q=>⟨_,_,rfl,.inl ⟨vs,h,rfl⟩,q⟩,_,rfl,by rw [r.len]; exact .int⟩
  cases e;obtain ⟨p,vs,rfl,h,r⟩:=b.rcT S;exact ⟨.int vs.length,fun q=>⟨_,_,rfl,.inr ⟨vs,h,rfl⟩,q⟩,_,rfl,by rw [r.len]; exact .int⟩
theorem AY:CallR X (.builtin "len") (rLen X.K):=call_len
def So:List D->Option Slot
 | [.int i,.int j]=>some (.fr (.int (if j > i then j else i)))
 | _=>none
def T_:List D->Option Slot
 | [.int i,.int j]=>some (.fr (.int (if j < i then j else i)))
 | _=>none
theorem Ec {f:Int->Int->Int} {g:List D->Option Slot} (hg:∀ ds s,g ds=some s->∃ i j,ds=[.int i,.int j]/\s = .fr (.int (f i j))):RLJ X (fun xs H Q => ∃ i j,xs=[.int i,.int j]/\Q (.int (f i j)) H) g:=by
 intro Z F ρ μ δ σ H xs ds s Q S b e q;obtain ⟨i,j,rfl,rfl⟩:=hg ds s e;obtain ⟨v,w,rfl,h1,h2⟩:=b.two;cases h1.int;cases h2.int;exact ⟨i,j,rfl,q _ H F .refl S ⟨.int,fun o p z=>by cases z⟩⟩
theorem Dr:RLJ X (fun xs H Q => ∃ i j,xs=[V.int i,V.int j]/\Q (.int (if j > i then j else i)) H) So:=Ec (f:=fun i j=>if j > i then j else i) fun ds s e=>by
 unfold So at e
 split at e
 ·cases e; exact ⟨_,_,rfl,rfl⟩
 ·cases e
theorem Dq:RLJ X (fun xs H Q => ∃ i j,xs=[V.int i,V.int j]/\Q (.int (if j < i then j else i)) H) T_:=Ec (f:=fun i j=>if j < i then j else i) fun ds s e=>by
 unfold T_ at e
 split at e
 ·cases e; exact ⟨_,_,rfl,rfl⟩
 ·cases e
def Eb:List D->Option (List Int)
 | []=>some []
 | .int i :: r=>(Eb r).map (i :: ·)
 | _ :: _=>none
def tA:List D->Option Slot:=fun ds=>match ds with
 | [d]=>match d with
   | .lst xs=>(Eb xs).map fun ns=>.fr (.int ns.sum)
   | _=>none
 | _=>none
def Nb:List D->Option (List Bool)
 | []=>some []
 | .bl i :: r=>(Nb r).map (i :: ·)
 | _ :: _=>none
theorem OK:∀ {ds:List D} {ns:List Bool},Nb ds=some ns->ds=ns.map .bl
 | [],ns,e=>by cases e; rfl
 | d :: r,ns,e=>by
   cases d <;> first | (cases e; done) | skip
   rename_i i
   unfold Nb at e;obtain ⟨m,e1,e2⟩:=Option.map_eq_some_iff.mp e;subst e2;rw [OK e1]; rfl
theorem RS:∀ ns:List Bool,Nb (ns.map .bl)=some ns
 | []=>rfl
 | n :: ns=>by show (Nb (ns.map D.bl)).map (n :: ·)=_; rw [RS ns]; rfl
def Tn:List D->Option Slot:=fun ds=>match ds with
 | [d]=>match d with
   | .lst xs=>(Nb xs).map fun ns=>.fr (.bl (ns.all id))
   | _=>none
 | _=>none
theorem JQ:RLJ X (rAll X.K) Tn :=
 OL (g:=fun d=>match d with | .lst xs=>(Nb xs).map fun ns=>.fr (.bl (ns.all id)) | _=>none) fun Z F ρ μ δ σ H x dx s Q S b e=>by
  cases dx <;> first | (cases e; done) | skip
  obtain ⟨ns,e1,e2⟩:=Option.map_eq_some_iff.mp e;subst e2;obtain ⟨p,vs,rfl,h,r⟩:=b.lst S;rw [OK e1] at r;have ev:=r.bls;subst ev;exact ⟨_,fun q=>⟨p,ns,rfl,.of h,q⟩,_,rfl,.bl⟩
def WQ:List D->Option Slot
 | [.lst xs]=>some (.fr (.tup xs))
 | [.tup xs]=>some (.fr (.tup xs))
 | _=>none
abbrev JN (K:PySem.W.Frag):List V->Hp->VK->Prop:=fun xs H Q => ∃ p ys,xs=[.ref p]/\((SqL K H p ys/\∀ l,H l=none->Q (.ref l) (upd H l (.tup ys)))\/(SqT K H p ys/\Q (.ref p) H))
theorem P7:RLJ X (JN X.K) WQ:=by
 intro Z F ρ μ δ σ H xs ds s Q S b e q;unfold WQ at e
 split at e
 ·cases e
  obtain ⟨v,rfl,hb⟩:=b.one;obtain ⟨p,vs,rfl,h,r⟩:=hb.lst S;refine ⟨p,vs,rfl,.inl ⟨.of h,fun l hl => ?_⟩⟩;obtain ⟨F',l',S',vr⟩:=RU S hl r;exact q _ _ F' l' S' vr
 ·cases e
  obtain ⟨v,rfl,hb⟩:=b.one;have rp:=hb.rep fun o e=>by cases o <;> cases e
  obtain ⟨p,vs,rfl,h,r⟩:=hb.tup S;exact ⟨p,vs,rfl,.inr ⟨h,q _ H F .refl S ⟨rp,fun o p z=>by cases z⟩⟩⟩
 ·cases e
theorem P6:CallR X (.type "tuple") (JN X.K):=call_tuple_of
def Dm:D->Option String
 | .non=>some "NoneType"
 | .bl _=>some "bool"
 | .int _=>some "int"
 | .str _=>some "str"
 | .lst _=>some "list"
 | .tup _=>some "tuple"
 | .dct _ _=>some "dict"
 | .fx .rc [] _=>some "tuple"
 | .fx .df _ _=>some "dict"
 | _=>none
def Yc:List D->Option Slot
 | [d,.ty T]=>match Dm d with
   | some t=>(kitB t T).map fun b=>tb b
   | none=>none
 | _=>none
theorem Bor.ty {F H:Hp} {ρ:List Addr} {v:V} {T:String} (h:Bor X.K X.mg F ρ H v (.ty T)):v = .ty T:=by
 cases h.rep (fun o e=>by cases o <;> cases e);rfl
theorem Ma {H:Hp} {p:Addr} {vs:List V} (h:SqT X.K H p vs):TyX X.K H (.ref p) (.type "tuple"):=by
 rcases h with (h | ⟨ob,h⟩) | ⟨o,its,n,hk,hc,_⟩
 ·exact .base (.tup h)
 ·exact .fTuple h
 ·exact .kTuple hk hc
theorem Dl {Z F H:Hp} {ρ:List Addr} {μ:Mem} {δ:Loc} {σ:St} {v:V} {d:D} {t:String} (S:Sim X.K X.mg Z F ρ μ δ σ H) (h:Bor X.K X.mg F ρ H v d) (e:Dm d=some t):TyX X.K H v (.type t):=by
 cases d <;> first | (cases e; done) | skip
 ·cases e; cases h.non; exact .base .non
 ·cases e; cases h.bl; exact .base (.bl _)
 ·cases e; cases h.int; exact .base (.int _)
 ·cases e; cases h.str; exact .base (.str _)
 ·cases e; obtain ⟨p,vs,rfl,q,_⟩:=h.lst S; exact .base (.lst q)
 ·cases e; obtain ⟨p,vs,rfl,q,_⟩:=h.tup S; exact Ma q
 ·rename_i b' ks' x'
  cases b' <;> first | (cases e; done) | skip
  ·cases ks' <;> first | (cases e; done) | skip
   cases e; obtain ⟨p,vs,rfl,q,_⟩:=h.rcT S; exact Ma q
  ·cases e; obtain ⟨p,o,vs,rfl,_,q,_⟩:=h.dcf S; exact .fDict q
 ·cases e
  obtain ⟨p,vs,rfl,q,_⟩:=h.dct S;rcases q with q | ⟨ob,q⟩
  ·exact .base (.dK q)
  ·exact .fDict q
theorem T9:RLJ X (rIsi X.K) Yc:=by
 intro Z F ρ μ δ σ H xs ds s Q S b e q;unfold Yc at e
 split at e
 ·rename_i d T
  cases et:Dm d with
  | none=>simp only [et] at e; cases e
  | some t =>
    simp only [et] at e;obtain ⟨k,e1,e2⟩:=Option.map_eq_some_iff.mp e;subst e2;obtain ⟨v,w,rfl,h1,h2⟩:=b.two;cases h2.ty;exact ⟨v,_,_,_,k,rfl,.ty T,Dl S h1 et,kit_ty e1,q _ H F .refl S .bl⟩
 ·cases e
def Lh (T:String):D->Bool
 | .str _=>T == "str"
 | .lst _=>T == "list"
 | _=>false
def xy (X:Cx) (r:V->List V->Hp->VK->Prop) (g:D->List D->Option Slot):Prop:=∀ Z F ρ μ δ σ H x xs dx ds s Q,Sim X.K X.mg Z F ρ μ δ σ H->Bor X.K X.mg F ρ H x dx->BorL X.K X.mg F ρ H xs ds->g dx ds=some s ->
 (∀ v H' F',Le Z F F'->Sim X.K X.mg Z F' ρ μ δ σ H'->VR X.K X.mg Z F' ρ δ σ H' v s->Q v H')->r x xs H Q
def mM (T:String) (g:D->List D->Option Slot) (o:Opn) (os:List Opn):ME:=fun δ μ=>(o.ev δ μ).bind fun r δ1 μ1=>match r.at δ1 μ1 with
 | some d0=>if Lh T d0=true then (RW os δ1 μ1).bind fun rs δ2 μ2=>match r.at δ2 μ2,OR.ats δ2 μ2 rs with
   | some d,some ds=>lift (g d ds) δ2 μ2
   | _,_=>.bad
   else .bad
 | none=>.bad
theorem Dk {Z F H:Hp} {ρ:List Addr} {μ:Mem} {δ:Loc} {σ:St} {v:V} {d:D} {T:String} (S:Sim X.K X.mg Z F ρ μ δ σ H) (h:Bor X.K X.mg F ρ H v d) (e:Lh T d=true):tyV X.K T v H:=by
 cases d <;> first | (cases e; done) | skip
 ·have e':(T == "str")=true:=e
  cases h.str;exact beq_iff_eq.mp e'
 ·have e':(T == "list")=true:=e
  obtain ⟨p,vs,rfl,q,_⟩:=h.lst S;exact .inl ⟨beq_iff_eq.mp e',vs,.of q⟩
theorem GL {T:String} {r:V->List V->Hp->VK->Prop} {g:D->List D->Option Slot} {oo:Opn} {os:List Opn} (hr:xy X r g):∀ σ H Q,Uw X W (mM T g oo os) σ H Q->tBM X.K T r (Nh X W oo) (DE X W os) σ H Q:=by
 intro σ H Q ⟨Z,F,ρ,μ,δ,S,q⟩;refine ⟨Z,F,ρ,μ,δ,S,(FinE.bind q).imp fun ra δ1 μ1 H1 F1 ρ1 l lr S1 ⟨_,_,_,p⟩ x hx => ?_⟩;cases e0:ra.at δ1 μ1 with
 | none=>simp only [e0] at p; exact p.elim
 | some d0 =>
   simp only [e0] at p;by_cases ht:Lh T d0=true
   ·rw [if_pos ht] at p
    refine ⟨Dk S1 (hx.bor S1 e0) ht,Z,F1,ρ1,μ1,δ1,S1,p.bind.imp fun rs δ2 μ2 H2 F2 ρ2 l2 lr2 S2 ⟨_,_,_,p2⟩ xs hxs => ?_⟩;cases ea:ra.at δ2 μ2 with
    | none=>simp only [ea] at p2; exact p2.elim
    | some d =>
      cases eb:OR.ats δ2 μ2 rs with
      | none=>simp only [ea,eb] at p2; exact p2.elim
      | some ds =>
        simp only [ea,eb] at p2;unfold lift at p2;cases eg:g d ds with
        | none=>simp only [eg] at p2; exact p2.elim
        | some s =>
          simp only [eg] at p2;exact hr Z F2 ρ2 μ2 δ2 σ H2 x xs d ds s Q S2 ((hx.up l2 lr2).bor S2 ea) (hxs.bor S2 eb) eg fun v H' F' l' S' vr=>p2 H' F' ρ2 l' .refl S' v vr
   ·rw [if_neg ht] at p; exact p.elim
theorem Dj {T id:String} {name:Str} {r:V->List V->Hp->VK->Prop} {g:D->List D->Option Slot} {oo:Opn} (pa:PlainAttrs T) (slot:PySem.Slot T name id) (hty:typeOf (.builtin id)=pure (.type "method_descriptor")) (hm:MtR X id r) (hr:xy X r g) (ho:JO X W o oo)
  (hbase:attributeBase o name X.env (eval o X.env)=eval o X.env:=by rfl) (hline:(apos.endLine == pos.line)=true:=by rfl) :
  JE X W (.Call (.Attribute o name apos) [] [] pos) (mM T g oo []):=by
 refine (pe_bm0 pa slot hty hm ho hbase hline).imp fun σ H Q h => ?_;obtain ⟨Z,F,ρ,μ,δ,S,q⟩:=GL hr σ H Q h;refine ⟨Z,F,ρ,μ,δ,S,q.imp fun ra δ1 μ1 H1 F1 ρ1 l lr S1 p x hx => ?_⟩;obtain ⟨ty,Z2,F2,ρ2,μ2,δ2,S2,q2⟩:=p x hx;exact ⟨ty,q2 H1 F2 ρ2 .refl .refl S2 [] .nil⟩
def Uv:D->List D->Option Slot
 | .str x,[]=>if x.all (· < 128)&&decide (x.length<=5592405) then some (.fr (.str (x.map PyProof.Rows.lo1))) else none
 | _,_=>none
theorem JM {x:Tx} (h:x.all (· < 128)=true):Txt.lower (toS x)=toS (x.map PyProof.Rows.lo1):=by
 rw [PyProof.Rows.lower_ascii fun c hc=>of_decide_eq_true (List.all_eq_true.mp h c hc)];simp [toS]
theorem BorL.nil_of {F H:Hp} {ρ:List Addr} {xs:List V} (h:BorL X.K X.mg F ρ H xs []):xs=[]:=by cases h; rfl
theorem GJ:xy X (fun x xs H Q => ∃ a,x = .str a/\xs=[]/\a.length<=5592405/\Q (.str (Txt.lower a)) H) Uv:=by
 intro Z F ρ μ δ σ H x xs dx ds s Q S bx bs e q;unfold Uv at e
 split at e
 ·rename_i t
  by_cases h:(t.all (· < 128)&&decide (t.length<=5592405))=true
  ·rw [if_pos h] at e
   cases e;have h':=Bool.and_eq_true_iff.mp h;cases bx.str;exact ⟨_,rfl,bs.nil_of,by rw [Wz]; exact of_decide_eq_true h'.2,by rw [JM h'.1]; exact q _ H F .refl S ⟨.str,fun o p z=>by cases z⟩⟩
  ·rw [if_neg h] at e; cases e
 ·cases e
def Qx (sep:Tx):List Tx->Tx
 | []=>[]
 | [x]=>x
 | x :: r=>x++sep++Qx sep r
end
end FL
namespace FL
open PySem L2
section
variable {K : PySem.W.Frag} {mg : Str -> Option Value} {Z F F' : Hp} {ρ ρ' : List Addr} {μ : Mem} {δ : Loc} {σ : St} {H H' : Hp} {p : Addr} {o : HO} {v : V} {s : Slot}
theorem Sim.put {i:Nat} (S:Sim K mg Z F ρ μ δ σ H) (h:VR K mg Z F ρ δ σ H v s):Sim K mg Z F ρ μ (δ.set i (some s)) (σ.set i (some v)) H:=by
 by_cases hi:i < δ.length
 ·exact S.store h hi
 ·rw [List.set_eq_of_length_le (by omega),List.set_eq_of_length_le (by rw [S.len]; omega)]
  exact S
theorem Sim.drop (S:Sim K mg Z F ρ μ δ σ H):Sim K mg Z F ρ μ [] [] H :=
 ⟨S.le,S.zk,rfl,fun i s e=>by simp at e,fun i j p s s' e=>by simp at e,S.mem,S.mlen,S.nod⟩
theorem Sim.guard (S:Sim K mg Z F ρ μ δ σ H) (hp:H p=some o) (fr:Free Z F ρ p) (no:∀ (i:Nat) s,δ[i]?=some (some (.own s))->σ[i]?≠some (some (.ref p))):Sim K mg (upd Z p o) F ρ μ δ σ H:=by
 refine ⟨S.le,fun q u h => ?_,S.len,fun i t e => ?_,S.apart,fun k c e => ?_,S.mlen,S.nod⟩
 ·by_cases z:q=p
  ·subst z; rw [upd_same] at h; cases h; exact hp
  ·rw [upd_ne z] at h; exact S.zk q u h
 ·obtain ⟨w,e1,r⟩:=S.slot i t e
  refine ⟨w,e1,?_⟩;cases t with
  | fr d=>exact r
  | own c =>
    obtain ⟨q,ev,f1,r⟩:=r;subst ev;have ne:q≠p:=fun z=>by subst z; exact no i c e e1
    exact ⟨q,rfl,⟨f1.f,by rw [upd_ne ne]; exact f1.z,f1.r⟩,r⟩
 ·obtain ⟨a,e1,f1,f2,r⟩:=S.mem k c e
  have ne:a≠p:=fun z=>by subst z; exact fr.r (List.mem_of_getElem? e1)
  exact ⟨a,e1,f1,f2.at (upd_ne ne),r⟩
theorem Xw {q:Addr} (h:upd Z p o q=none):q≠p/\Z q=none:=by
 by_cases z:q=p
 ·subst z; rw [upd_same] at h; cases h
 ·rw [upd_ne z] at h; exact ⟨z,h⟩
theorem Sim.unguard (S:Sim K mg (upd Z p o) F ρ μ δ σ H) (hz:Z p=none) (ho:∀ ob kvs,o ≠ .frz ob (.dK kvs):=by intro _ _ h; cases h):Sim K mg Z F ρ μ δ σ H:=by
 refine ⟨S.le,fun q u h=>S.zk q u ?_,S.len,fun i t e => ?_,S.apart,fun k c e => ?_,S.mlen,S.nod⟩
 ·rw [upd_ne (fun z=>by subst z; rw [hz] at h; cases h)]; exact h
 ·obtain ⟨w,e1,r⟩:=S.slot i t e
  refine ⟨w,e1,?_⟩;cases t with
  | fr d=>exact r
  | own c =>
    obtain ⟨q,ev,f1,r⟩:=r;exact ⟨q,ev,⟨f1.f,(Xw f1.z).2,f1.r⟩,r⟩
 ·obtain ⟨a,e1,f1,f2,r⟩:=S.mem k c e
  have ne:a≠p:=fun z=>by
   subst z;by_cases hc:c.isF=true
   ·obtain ⟨ob,kvs,f2⟩:=f2.2 hc
    rw [upd_same] at f2; exact ho ob kvs (Option.some.inj f2)
   ·have f2:=f2.1 (by simpa using hc)
    rw [upd_same] at f2; cases f2
  exact ⟨a,e1,f1,f2.at (upd_ne ne).symm,r⟩
theorem Sim.unguardR (S:Sim K mg (upd Z p o) F ρ μ δ σ H) (hz:Z p=none) (hm:p∉ρ):Sim K mg Z F ρ μ δ σ H:=by
 refine ⟨S.le,fun q u h=>S.zk q u ?_,S.len,fun i t e => ?_,S.apart,fun k c e => ?_,S.mlen,S.nod⟩
 ·rw [upd_ne (fun z=>by subst z; rw [hz] at h; cases h)]; exact h
 ·obtain ⟨w,e1,r⟩:=S.slot i t e
  refine ⟨w,e1,?_⟩;cases t with
  | fr d=>exact r
  | own c =>
    obtain ⟨q,ev,f1,r⟩:=r;exact ⟨q,ev,⟨f1.f,(Xw f1.z).2,f1.r⟩,r⟩
 ·obtain ⟨a,e1,f1,f2,r⟩:=S.mem k c e
  have ne:a≠p:=fun z=>by subst z; exact hm (List.mem_of_getElem? e1)
  exact ⟨a,e1,f1,f2.at (upd_ne ne).symm,r⟩
theorem Sim.guarded (S:Sim K mg (upd Z p o) F ρ μ δ σ H):H p=some o:=S.zk p o upd_same
theorem Sim.guardNo (S:Sim K mg (upd Z p o) F ρ μ δ σ H):∀ (i:Nat) s,δ[i]?=some (some (.own s))->σ[i]?≠some (some (.ref p)):=by
 intro i c e e1;obtain ⟨w,e2,q,ev,f1,r⟩:=S.slot i _ e;rw [e1] at e2; cases e2; cases ev;exact (Xw f1.z).1 rfl
theorem Le.unguard (l:Le (upd Z p o) F F'):Le Z F F':=⟨l.to,fun q u h=>(l.new q u h).elim .inl fun z=>.inr (Xw z).2⟩
theorem LeR.unguard (l:LeR (upd Z p o) ρ ρ'):LeR Z ρ ρ':=⟨l.to,fun q h=>(l.new q h).elim .inl fun z=>.inr (Xw z).2⟩
theorem Free.on (fr:Free Z F ρ p) (l:Le (upd Z p o) F F') (lr:LeR (upd Z p o) ρ ρ'):Free Z F' ρ' p:=by
 refine ⟨?_,fr.z,fun h => ?_⟩
 ·cases e:F' p with
  | none=>rfl
  | some u =>
    rcases l.new p u e with h | h
    ·rw [fr.f] at h; cases h
    ·exact absurd rfl (Xw h).1
 ·rcases lr.new p h with h | h
  ·exact fr.r h
  ·exact absurd rfl (Xw h).1
def P5 (δ:Loc) (σ:St) (p:Addr):Prop:=∃ (i:Nat) (s:Own),δ[i]?=some (some (.own s))/\σ[i]?=some (some (.ref p))
open Classical in
def zone (Z H:Hp) (δ:Loc) (σ:St):Hp:=fun p=>if P5 δ σ p then H p else Z p
theorem RR (h:P5 δ σ p):zone Z H δ σ p=H p:=if_pos h
theorem Vo (h : ¬ P5 δ σ p):zone Z H δ σ p=Z p:=if_neg h
theorem Sim.held (S:Sim K mg Z F ρ μ δ σ H) (h:P5 δ σ p):Free Z F ρ p/\∃ o,H p=some o:=by
 obtain ⟨i,c,e1,e2⟩:=h;obtain ⟨w,e3,q,ev,f1,r⟩:=S.slot i _ e1;rw [e2] at e3; cases e3; cases ev;exact ⟨f1,r.some⟩
theorem Sim.zone_none (S:Sim K mg Z F ρ μ δ σ H) (h:zone Z H δ σ p=none) : ¬ P5 δ σ p/\Z p=none:=by
 by_cases c:P5 δ σ p
 ·rw [RR c] at h
  obtain ⟨_,o,e⟩:=S.held c;rw [e] at h; cases h
 ·rw [Vo c] at h; exact ⟨c,h⟩
theorem Sim.enter (S:Sim K mg Z F ρ μ δ σ H):Sim K mg (zone Z H δ σ) F ρ μ [] [] H:=by
 refine ⟨S.le,fun q u h => ?_,rfl,fun i s e=>by simp at e,fun i j p s s' e=>by simp at e,fun k c e => ?_,S.mlen,S.nod⟩
 ·by_cases c:P5 δ σ q
  ·rw [RR c] at h; exact h
  ·rw [Vo c] at h; exact S.zk q u h
 ·obtain ⟨a,e1,f1,f2,r⟩:=S.mem k c e
  exact ⟨a,e1,f1,f2.at (Vo fun h=>(S.held h).1.r (List.mem_of_getElem? e1)),r⟩
theorem Sim.leLeave (S:Sim K mg Z F ρ μ δ σ H) (l:Le (zone Z H δ σ) F F'):Le Z F F':=⟨l.to,fun q u h=>(l.new q u h).elim .inl fun z=>.inr (S.zone_none z).2⟩
theorem Sim.leRLeave (S:Sim K mg Z F ρ μ δ σ H) (l:LeR (zone Z H δ σ) ρ ρ'):LeR Z ρ ρ':=⟨l.to,fun q h=>(l.new q h).elim .inl fun z=>.inr (S.zone_none z).2⟩
theorem Sim.leave {μ':Mem} (S:Sim K mg Z F ρ μ δ σ H) (S1:Sim K mg (zone Z H δ σ) F' ρ' μ' [] [] H') (l:Le (zone Z H δ σ) F F') (lr:LeR (zone Z H δ σ) ρ ρ'):Sim K mg Z F' ρ' μ' δ σ H':=by
 refine ⟨S1.le,fun q u h=>S1.zk q u ?_,S.len,fun i t e => ?_,S.apart,fun k c e => ?_,S1.mlen,S1.nod⟩
 ·rw [Vo fun c=>by rw [(S.held c).1.z] at h; cases h]; exact h
 ·obtain ⟨w,e1,r⟩:=S.slot i t e
  refine ⟨w,e1,?_⟩;cases t with
  | fr d=>exact Rep.up l.to lr.to r
  | own c =>
    obtain ⟨q,ev,f1,r⟩:=r;subst ev;have hq:P5 δ σ q:=⟨i,c,e,e1⟩;obtain ⟨o,eo⟩:=r.some;have z1:zone Z H δ σ q=some o:=by rw [RR hq]; exact eo
    refine ⟨q,rfl,⟨?_,f1.z,fun hm => ?_⟩,r.up l.to lr.to (by rw [S1.zk q o z1,eo])⟩
    ·cases e2:F' q with
     | none=>rfl
     | some u =>
       rcases l.new q u e2 with h | h
       ·rw [f1.f] at h; cases h
       ·rw [z1] at h; cases h
    ·rcases lr.new q hm with h | h
     ·exact f1.r h
     ·rw [z1] at h; cases h
 ·obtain ⟨a,e1,f1,f2,r⟩:=S1.mem k c e
  refine ⟨a,e1,f1,f2.at (Vo fun h => ?_).symm,r⟩;obtain ⟨fr,o,eo⟩:=S.held h;rcases lr.new a (List.mem_of_getElem? e1) with z | z
  ·exact fr.r z
  ·rw [RR h,eo] at z; cases z
theorem Sim.came (S:Sim K mg Z F ρ μ δ σ H) (h:RG K mg (zone Z H δ σ) F' ρ' H' v s):VR K mg Z F' ρ' δ σ H' v s:=by
 cases s with
 | fr d=>exact ⟨h,fun o p z=>by cases z⟩
 | own c =>
   obtain ⟨q,ev,f1,r⟩:=h;obtain ⟨n1,n2⟩:=S.zone_none f1.z;refine ⟨⟨q,ev,⟨f1.f,n2,f1.r⟩,r⟩,fun o p z1 z2 i o' e1 e2 => ?_⟩;rw [ev] at z2; cases z2;exact n1 ⟨i,o',e1,e2⟩
end
inductive OutS where
 | nx (δ:Loc) (μ:Mem)
 | rt (s:Slot) (μ:Mem)
 | bk (δ:Loc) (μ:Mem)
 | ct (δ:Loc) (μ:Mem)
 | exc (x:Exc) (δ:Loc) (μ:Mem)
 | bad
abbrev MS:=Loc->Mem->OutS
def Out.thn {α:Type} (r:Out α) (f:α->Loc->Mem->OutS):OutS :=
 match r with
 | .ok a δ μ=>f a δ μ
 | .exc x δ μ=>.exc x δ μ
 | .bad=>.bad
def OutS.seq (r:OutS) (k:MS):OutS :=
 match r with
 | .nx δ μ=>k δ μ
 | .rt s μ=>.rt s μ
 | .bk δ μ=>.bk δ μ
 | .ct δ μ=>.ct δ μ
 | .exc x δ μ=>.exc x δ μ
 | .bad=>.bad
def OutS.loop (r:OutS) (k:MS):OutS :=
 match r with
 | .nx δ μ=>k δ μ
 | .ct δ μ=>k δ μ
 | .bk δ μ=>.nx δ μ
 | .rt s μ=>.rt s μ
 | .exc x δ μ=>.exc x δ μ
 | .bad=>.bad
section
variable (X : Cx) (W : WX)
def FinS (Z F:Hp) (ρ:List Addr) (D:Ends):OutS->Prop
 | .nx δ μ => ∀ σ' H' F' ρ',Le Z F F'->LeR Z ρ ρ'->Sim X.K X.mg Z F' ρ' μ δ σ' H'->D.nx σ' H'
 | .bk δ μ => ∀ σ' H' F' ρ',Le Z F F'->LeR Z ρ ρ'->Sim X.K X.mg Z F' ρ' μ δ σ' H'->D.bk σ' H'
 | .ct δ μ => ∀ σ' H' F' ρ',Le Z F F'->LeR Z ρ ρ'->Sim X.K X.mg Z F' ρ' μ δ σ' H'->D.ct σ' H'
 | .rt s μ => ∀ v H' F' ρ',Le Z F F'->LeR Z ρ ρ'->Sim X.K X.mg Z F' ρ' μ [] [] H'->RG X.K X.mg Z F' ρ' H' v s->D.rt v H'
 | .exc x δ μ => ∀ c d σ' H' F' ρ',Le Z F F'->LeR Z ρ ρ'->Sim X.K X.mg Z F' ρ' μ δ σ' H'->ExcR X.K X.mg F' ρ' c d x->W c d σ' H'
 | .bad=>False
def Ea (m:MS):TS:=fun D σ H => ∃ Z F ρ μ δ,Sim X.K X.mg Z F ρ μ δ σ H/\FinS X W Z F ρ D (m δ μ)
end
theorem _root_.L2.PS.imp {X:Cx} {s:Stmt} {t t':TS} (h:PS X s t) (hi:∀ D σ H,t' D σ H->t D σ H):PS X s t':=⟨fun pins s σ H D I q=>h.run pins s σ H D I (hi D σ H q)⟩
theorem _root_.L2.PSs.imp {X:Cx} {s:List Stmt} {t t':TS} (h:PSs X s t) (hi:∀ D σ H,t' D σ H->t D σ H):PSs X s t':=⟨fun pins s σ H D I q=>h.run pins s σ H D I (hi D σ H q)⟩
abbrev JS (X:Cx) (W:WX) (s:Stmt) (m:MS):Prop:=PS X s (Ea X W m)
abbrev L' (X:Cx) (W:WX) (s:List Stmt) (m:MS):Prop:=PSs X s (Ea X W m)
section
variable {X : Cx} {W : WX} {Z F F1 : Hp} {ρ ρ1 : List Addr} {D : Ends} {σ : St} {H : Hp} {μ : Mem} {δ : Loc}
theorem FinS.mono {r:OutS} (h:FinS X W Z F ρ D r) (l:Le Z F F1) (lr:LeR Z ρ ρ1):FinS X W Z F1 ρ1 D r:=by
 cases r with
 | nx δ μ=>exact fun σ' H' F' ρ' l' lr' S=>h σ' H' F' ρ' (l.trans l') (lr.trans lr') S
 | bk δ μ=>exact fun σ' H' F' ρ' l' lr' S=>h σ' H' F' ρ' (l.trans l') (lr.trans lr') S
 | ct δ μ=>exact fun σ' H' F' ρ' l' lr' S=>h σ' H' F' ρ' (l.trans l') (lr.trans lr') S
 | rt s μ=>exact fun v H' F' ρ' l' lr' S r=>h v H' F' ρ' (l.trans l') (lr.trans lr') S r
 | exc x δ μ=>exact fun c d σ' H' F' ρ' l' lr' S e=>h c d σ' H' F' ρ' (l.trans l') (lr.trans lr') S e
 | bad=>exact h
theorem FinS.thn {α:Type} {r:Out α} {f:α->Loc->Mem->OutS} (h:FinS X W Z F ρ D (r.thn f)) :
  FinE X W Z F ρ σ (fun a δ μ F' ρ' H' => Sim X.K X.mg Z F' ρ' μ δ σ H'/\FinS X W Z F' ρ' D (f a δ μ)) r:=by
 cases r with
 | ok a δ μ=>exact fun H' F' ρ' l lr S=>⟨S,h.mono l lr⟩
 | exc x δ μ=>exact fun c d H' F' ρ' l lr S e=>h c d σ H' F' ρ' l lr S e
 | bad=>exact h
theorem FinS.nx {δ:Loc} {μ:Mem} {σ':St} {H':Hp} (h:FinS X W Z F ρ D (.nx δ μ)) (S:Sim X.K X.mg Z F ρ μ δ σ' H'):D.nx σ' H':=h σ' H' F ρ .refl .refl S
theorem FinS.seq {r:OutS} {k:MS} (h:FinS X W Z F ρ D (r.seq k)):FinS X W Z F ρ { D with nx:=Ea X W k D } r:=by
 cases r with
 | nx δ μ=>exact fun σ' H' F' ρ' l lr S=>⟨Z,F',ρ',μ,δ,S,FinS.mono h l lr⟩
 | bk δ μ=>exact h
 | ct δ μ=>exact h
 | rt s μ=>exact h
 | exc x δ μ=>exact h
 | bad=>exact h
theorem FinS.loop {r:OutS} {k:MS} {N:St->Hp->Prop} (h:FinS X W Z F ρ D (r.loop k)) (hN:∀ σ' H' F' ρ' μ δ,Le Z F F'->LeR Z ρ ρ'->Sim X.K X.mg Z F' ρ' μ δ σ' H'->FinS X W Z F' ρ' D (k δ μ)->N σ' H') :
  FinS X W Z F ρ { D with nx:=N,ct:=N,bk:=D.nx } r:=by
 cases r with
 | nx δ μ=>exact fun σ' H' F' ρ' l lr S=>hN σ' H' F' ρ' μ δ l lr S (FinS.mono h l lr)
 | ct δ μ=>exact fun σ' H' F' ρ' l lr S=>hN σ' H' F' ρ' μ δ l lr S (FinS.mono h l lr)
 | bk δ μ=>exact h
 | rt s μ=>exact h
 | exc x δ μ=>exact h
 | bad=>exact h
variable {st : Stmt} {sts rest : List Stmt} {e : Expr} {pos : Pos}
def ZW:MS:=fun δ μ=>.nx δ μ
def Z4 (m n:MS):MS:=fun δ μ=>(m δ μ).seq n
theorem ZG:L' X W [] ZW:=pss_nil.imp fun D σ H ⟨Z,F,ρ,μ,δ,S,q⟩=>q.nx S
theorem Z8 {m n:MS} (h:JS X W st m) (t:L' X W rest n):L' X W (st :: rest) (Z4 m n) :=
 (pss_cons h t).imp fun D σ H ⟨Z,F,ρ,μ,δ,S,q⟩=>⟨Z,F,ρ,μ,δ,S,FinS.seq q⟩
theorem Z6 {m:MS} (h:JS X W st m):L' X W [st] m:=pss_one h
def W6 (m:ME):MS:=fun δ μ=>(m δ μ).thn fun _ δ1 μ1=>.nx δ1 μ1
theorem Zf {m:ME} (he:JE X W e m) (hs:swapsWith e none pos.line X.env=pure false:=by rfl):JS X W (.Expr e pos) (W6 m) :=
 (ps_expr he hs).imp fun D σ H ⟨Z,F,ρ,μ,δ,S,q⟩=>⟨Z,F,ρ,μ,δ,S,(FinS.thn q).imp fun a δ1 μ1 H1 F1 ρ1 l lr S1 ⟨_,p⟩ v vr=>p.nx S1⟩
def ZF (m:ME):MS:=fun δ μ=>(m δ μ).thn fun s _ μ1=>.rt s μ1
theorem Zx {m:ME} (he:JE X W e m):JS X W (.Return (some e) pos) (ZF m) :=
 (ps_ret he).imp fun D σ H ⟨Z,F,ρ,μ,δ,S,q⟩=>⟨Z,F,ρ,μ,δ,S,(FinS.thn q).imp fun a δ1 μ1 H1 F1 ρ1 l lr S1 ⟨_,p⟩ v vr=>p v H1 F1 ρ1 .refl .refl S1.drop vr.r⟩
def ZR (t:MT) (m n:MS):MS:=fun δ μ=>(t δ μ).thn fun b δ1 μ1=>if b=true then m δ1 μ1 else n δ1 μ1
theorem Y5 {c:Expr} {a b:List Stmt} {t:MT} {m n:MS} (hc:JT X W c t) (ha:L' X W a m) (hb:L' X W b n):JS X W (.If c a b pos) (ZR t m n):=by
 refine (ps_if hc ha hb).imp fun D σ H ⟨Z,F,ρ,μ,δ,S,q⟩=>⟨Z,F,ρ,μ,δ,S,(FinS.thn q).imp fun b δ1 μ1 H1 F1 ρ1 l lr S1 ⟨_,p⟩ => ?_⟩;cases b with
 | true=>exact ⟨Z,F1,ρ1,μ1,δ1,S1,p⟩
 | false=>exact ⟨Z,F1,ρ1,μ1,δ1,S1,p⟩
def ZK (i:Nat) (m:ME):MS:=fun δ μ=>(m δ μ).thn fun s δ1 μ1=>.nx (δ1.set i (some s)) μ1
theorem JL {i:Nat} {m:ME}:∀ D σ H,Ea X W (ZK i m) D σ H->tAsg (Uw X W m) (gName i) D σ H:=by
 intro D σ H ⟨Z,F,ρ,μ,δ,S,q⟩;exact ⟨Z,F,ρ,μ,δ,S,(FinS.thn q).imp fun a δ1 μ1 H1 F1 ρ1 l lr S1 ⟨_,p⟩ v vr=>p.nx (S1.put vr)⟩
theorem Di {i:Nat} {x:Str} {m:ME} {pos':Pos} (hN:X.N.Nodup) (hi:X.N[i]?=some x) (hx:L2.Loc X.env.scope x) (he:JE X W e m) (hs:swapsWith e (some (.Name x pos')) pos.line X.env=pure false:=by rfl) (hf:X.fn x=true\/X.env.scope.names.lookup x=some .local:=by first | exact .inl rfl | exact .inr rfl | assumption) :
  JS X W (.Assign [.Name x pos'] e pos) (ZK i m):=(ps_set hN hi hx he hs hf).imp JL
end
end FL
namespace FL
open PySem L2
section
variable {X : Cx} {W : WX} {e a b : Expr} {es : List Expr} {pos : Pos}
abbrev VY:=D->Loc->Option Loc
abbrev P4:=List D->Loc->Option Loc
def D_ (X:Cx) (f:VY) (is:List Nat):TG:=fun v σ H Q => ∃ Z F ρ μ δ d,Sim X.K X.mg Z F ρ μ δ σ H/\Rep X.K X.mg F ρ v d/\∃ δ',f d δ=some δ' /\
 ∀ σ',(∀ j:Nat,j∉is->σ'[j]?=σ[j]?)->σ'.length=σ.length->Sim X.K X.mg Z F ρ μ δ' σ' H->Q σ' H
def xv (X:Cx) (f:P4) (is:List Nat):TGs:=fun vs σ H Q => ∃ Z F ρ μ δ ds,Sim X.K X.mg Z F ρ μ δ σ H/\RepL X.K X.mg F ρ vs ds/\∃ δ',f ds δ=some δ' /\
 ∀ σ',(∀ j:Nat,j∉is->σ'[j]?=σ[j]?)->σ'.length=σ.length->Sim X.K X.mg Z F ρ μ δ' σ' H->Q σ' H
theorem _root_.L2.PG.imp {X:Cx} {e:Expr} {t t':TG} (h:PG X e t) (hi:∀ v σ H Q,t' v σ H Q->t v σ H Q):PG X e t':=⟨fun pins s σ H v u Q I r q=>h.run pins s σ H v u Q I r (hi v σ H Q q)⟩
theorem _root_.L2.PGs.imp {X:Cx} {e:List Expr} {t t':TGs} (h:PGs X e t) (hi:∀ v σ H Q,t' v σ H Q->t v σ H Q):PGs X e t':=⟨fun pins s σ H v u Q I r q=>h.run pins s σ H v u Q I r (hi v σ H Q q)⟩
abbrev JG (X:Cx) (e:Expr) (f:VY) (is:List Nat):Prop:=PG X e (D_ X f is)
abbrev zr (X:Cx) (e:List Expr) (f:P4) (is:List Nat):Prop:=PGs X e (xv X f is)
def Zq (i:Nat):VY:=fun d δ=>some (δ.set i (some (.fr d)))
theorem AX {i:Nat} {x:Str} (hN:X.N.Nodup) (hi:X.N[i]?=some x) (hx:L2.Loc X.env.scope x) (hf:X.fn x=true\/X.env.scope.names.lookup x=some .local:=by first | exact .inl rfl | exact .inr rfl | assumption):JG X (.Name x pos) (Zq i) [i] :=
 (pg_name hN hi hx hf).imp fun v σ H Q ⟨Z,F,ρ,μ,δ,d,S,r,δ',e1,q⟩=>by
  cases e1;refine q _ (fun j hj => ?_) (by simp) (S.put ⟨r,fun o p z=>by cases z⟩);rw [List.getElem?_set_ne (fun z=>hj (by simp [z]))]
def Vn:P4:=fun ds δ=>match ds with
 | []=>some δ
 | _=>none
def XB (f:VY) (g:P4):P4:=fun ds δ=>match ds with
 | d :: r=>match f d δ with
   | some δ' => g r δ'
   | none=>none
 | []=>none
theorem Wx:zr X [] Vn []:=pgs_nil.imp fun vs σ H Q ⟨Z,F,ρ,μ,δ,ds,S,r,δ',e1,q⟩=>by
 unfold Vn at e1;cases ds with
 | cons _ _=>cases e1
 | nil =>
   cases e1;cases r;exact ⟨rfl,q _ (fun _ _=>rfl) rfl S⟩
theorem Ze {f:VY} {g:P4} {is js:List Nat} (h:JG X e f is) (t:zr X es g js) (hs:(assignEach (e :: es) X.env).map (·.2)=assign e X.env :: (assignEach es X.env).map (·.2):=by rfl):zr X (e :: es) (XB f g) (is++js) :=
 (pgs_cons h t hs).imp fun vs σ H Q ⟨Z,F,ρ,μ,δ,ds,S,r,δ',e1,q⟩=>by
  unfold XB at e1;cases r with
  | nil=>cases e1
  | @cons v d vs ds h1 t1 =>
    simp only at e1;cases ef:f d δ with
    | none=>rw [ef] at e1; cases e1
    | some δ1 =>
      rw [ef] at e1;refine ⟨v,vs,rfl,Z,F,ρ,μ,δ,d,S,h1,δ1,ef,fun σ1 k1 l1 S1=>⟨Z,F,ρ,μ,δ1,ds,S1,t1,δ',e1,fun σ2 k2 l2 S2=>q σ2 (fun j hj => ?_) (l2.trans l1) S2⟩⟩;rw [k2 j (fun z=>hj (List.mem_append_right _ z)),k1 j (fun z=>hj (List.mem_append_left _ z))]
def Vm (n:Nat) (g:P4):VY:=fun d δ=>match d with
 | .tup ds=>if ds.length=n then g ds δ else none
 | _=>none
theorem OJ {k:Nat} {g:P4} {is:List Nat} {n:Nat} (hc:X.calm=true) (h:zr X es g is) (hn:(assignEach es X.env).length=n:=by rfl) (hst:(assignEach es X.env).findIdx? (·.1)=none:=by rfl):JG X (.Tuple es k pos) (Vm n g) is :=
 (pg_tup hc h hn hst).imp fun v σ H Q ⟨Z,F,ρ,μ,δ,d,S,r,δ',e1,q⟩=>by
  unfold Vm at e1;cases d <;> first | (cases e1; done) | skip
  rename_i ds
  by_cases hl:ds.length=n
  ·simp only [hl,if_true] at e1
   obtain ⟨p,vs,rfl,hq,rl⟩:=Bor.tup S (Bor.fr r);exact ⟨p,vs,rfl,hq,by rw [rl.len]; exact hl,Z,F,ρ,μ,δ,ds,S,rl,δ',e1,q⟩
  ·simp only [hl] at e1; cases e1
def JJ (f:VY) (m:ME):MS:=fun δ μ=>(m δ μ).thn fun s δ1 μ1=>match f s.d δ1 with
 | some δ2=>.nx δ2 μ1
 | none=>.bad
theorem Dh {f:VY} {is:List Nat} {tg:Expr} {m:ME} (he:JE X W e m) (hg:JG X tg f is) (hs:swapsWithSole [tg] e pos.line X.env=pure false:=by rfl) (hw:swappedStores [tg] e X.env=pure none:=by rfl)
  (h1:(assignEach [tg] X.env).map (·.2)=[assign tg X.env]:=by rfl):JS X W (.Assign [tg] e pos) (JJ f m) :=
 (ps_asg he.locked hg hs hw h1).imp fun _ σ H ⟨Z,F,ρ,μ,δ,S,q⟩=>⟨Z,F,ρ,μ,δ,S,(FinS.thn q).imp fun s δ1 μ1 H1 F1 ρ1 l lr S1 ⟨_,p⟩ v r=>by
  cases ef:f s.d δ1 with
  | none=>simp only [ef] at p; exact p.elim
  | some δ2 =>
    simp only [ef] at p;exact ⟨Z,F1,ρ1,μ1,δ1,s.d,S1,r,δ2,ef,fun σ' _ _ S' => p.nx S'⟩⟩
def BG (X:Cx) (Z F:Hp) (ρ:List Addr) (J:It) (ds:List D):Prop:=∀ Z' F' ρ' μ δ σ H (i:Nat),(∀ p o,F p=some o->F' p=some o)->(∀ (k:Nat) p,ρ[k]?=some p->ρ'[k]?=some p)->Sim X.K X.mg Z' F' ρ' μ δ σ H->(∀ p o,Z p=some o->Z' p=some o) ->
 (ds.length<=i->J.stop i H)/\∀ d,ds[i]?=some d->J.go i H/\∀ x H',J.yld i H x H'->∃ F2,Le Z' F' F2/\Sim X.K X.mg Z' F2 ρ' μ δ σ H'/\Rep X.K X.mg F2 ρ' x d
def xu (X:Cx) (W:WX) (m:MM (List D)):TI:=fun σ H R => ∃ Z F ρ μ δ,Sim X.K X.mg Z F ρ μ δ σ H /\
 FinE X W Z F ρ σ (fun ds _ _ F' ρ' H' => ∀ J,BG X Z F' ρ' J ds->R J H') (m δ μ)
theorem _root_.L2.PI.imp {X:Cx} {tg e:Expr} {t t':TI} (h:PI X tg e t) (hi:∀ σ H Q,t' σ H Q->t σ H Q):PI X tg e t':=⟨fun pins s σ H R I q=>h.run pins s σ H R I (hi σ H R q)⟩
abbrev JI (X:Cx) (W:WX) (tg e:Expr) (m:MM (List D)):Prop:=PI X tg e (xu X W m)
theorem OI {Z F:Hp} {ρ:List Addr} {p:Addr} {vs:List V} {ds:List D} (hq:∀ Z' F' ρ' μ δ σ H,(∀ p o,F p=some o->F' p=some o)->Sim X.K X.mg Z' F' ρ' μ δ σ H->SqL X.K H p vs) (r:RepL X.K X.mg F ρ vs ds):BG X Z F ρ (Itl X.K p) ds:=by
 intro Z' F' ρ' μ δ σ H i to tr S zz;have q:=hq Z' F' ρ' μ δ σ H to S;refine ⟨fun hl=>⟨vs,q,by rw [r.len]; exact hl⟩,fun d hd => ?_⟩;obtain ⟨v,hv,rv⟩:=r.get hd;refine ⟨⟨vs,v,q,hv⟩,fun x H' y => ?_⟩;obtain ⟨rfl,y⟩:=y;have:=y vs q;rw [hv] at this; cases this;exact ⟨F',.refl,S,rv.up to tr⟩
theorem L_ {Z F:Hp} {ρ:List Addr} {p:Addr} {vs:List V} {ds:List D} (hq:∀ Z' F' ρ' μ δ σ H,(∀ p o,F p=some o->F' p=some o)->Sim X.K X.mg Z' F' ρ' μ δ σ H->SqT X.K H p vs) (r:RepL X.K X.mg F ρ vs ds):BG X Z F ρ (Itt X.K p) ds:=by
 intro Z' F' ρ' μ δ σ H i to tr S zz;have q:=hq Z' F' ρ' μ δ σ H to S;refine ⟨fun hl=>⟨vs,q,by rw [r.len]; exact hl⟩,fun d hd => ?_⟩;obtain ⟨v,hv,rv⟩:=r.get hd;refine ⟨⟨vs,v,q,hv⟩,fun x H' y => ?_⟩;obtain ⟨rfl,y⟩:=y;have:=y vs q;rw [hv] at this; cases this;exact ⟨F',.refl,S,rv.up to tr⟩
def chars (x:Tx):List D:=x.map fun c=>.str [c]
theorem GH {Z F:Hp} {ρ:List Addr} {x:Tx}:BG X Z F ρ (Its (toS x)) (chars x):=by
 intro Z' F' ρ' μ δ σ H i to tr S zz;refine ⟨fun hl => ?_,fun d hd => ?_⟩
 ·show (toS x).cps.size<=i
  simpa [chars,toS] using hl
 ·obtain ⟨c,hc,rfl⟩:∃ c,x[i]?=some c/\D.str [c]=d:=by
   unfold chars at hd;rw [List.getElem?_map] at hd;cases e:x[i]? with
   | none=>rw [e] at hd; cases hd
   | some c=>rw [e] at hd; exact ⟨c,rfl,by injection hd⟩
  have hi:i < x.length:=(List.getElem?_eq_some_iff.mp hc).1;have hc2:(toS x).cps[i]?=some c:=by simpa [toS] using hc
  refine ⟨by show i < (toS x).cps.size; simpa [toS] using hi,fun v H' y => ?_⟩;obtain ⟨rfl,c',e',rfl⟩:=y;have e2:some c'=some c:=e'.symm.trans hc2;cases e2;exact ⟨F',.refl,S,Rep.str (x:=[c])⟩
def G4:D->Option (List D)
 | .lst xs=>some xs
 | .fx .ro [] xs=>some xs
 | .fx .rc [] xs=>some xs
 | .tup xs=>some xs
 | .str x=>some (chars x)
 | _=>none
abbrev xt (K:PySem.W.Frag) (te:TE):TI:=fun σ H R=>te σ H fun v H1=>(∃ a,v = .ref a/\(∃ xs,SqL K H1 a xs)/\R (Itl K a) H1)\/(∃ a,v = .ref a/\(∃ xs,SqT K H1 a xs)/\R (Itt K a) H1)\/∃ x,v = .str x/\R (Its x) H1
theorem JH {tg:Expr} {te:TE} (he:PE X e te):PI X tg e (xt X.K te):=by
 refine ⟨fun pins s σ H R I h=>thn (he.run pins s σ H _ I h) fun v s1 ⟨y,H1,I1,r1,q⟩ => ?_⟩;rcases q with ⟨a,rfl,⟨xs,hq⟩,q⟩ | ⟨a,rfl,⟨xs,hq⟩,q⟩ | ⟨x,rfl,q⟩
 ·cases r1
  obtain ⟨vals,_,isl,_⟩:=I1.list hq;exact wpAny_pyIter_list isl.isList (pi_one (tk:=s1.toks) I1 _ (turn_list a _) ⟨_,Heap.get?_push_size _ rfl,rfl,rfl⟩ q)
 ·cases r1
  obtain ⟨vals,_,ist,_⟩:=I1.tuple hq;exact wpAny_pyIter_tuple (show s1.heap.IsTuple a vals.toArray from ist) (pi_one (tk:=s1.toks) I1 _ (turn_tuple a _) ⟨_,Heap.get?_push_size _ rfl,rfl,rfl⟩ q)
 ·obtain ⟨t,rfl⟩:=r1
  cases hw:x.cps.all (· < 128)
  ·exact wpAny_pyIter_wide hw (pi_one (tk:=s1.toks) I1 _ (turn_str _ x t "str_iterator" (Or.inr rfl)) ⟨_,Heap.get?_push_size _ rfl,rfl,rfl⟩ q)
  ·exact wpAny_pyIter_ascii hw (pi_one (tk:=s1.toks) I1 _ (turn_str _ x t "str_ascii_iterator" (Or.inl rfl)) ⟨_,Heap.get?_push_size _ rfl,rfl,rfl⟩ q)
def Uc (m:ME):MM (List D):=fun δ μ=>(m δ μ).bind fun s δ1 μ1=>match G4 s.d with
 | some ds=>.ok ds δ1 μ1
 | none=>.bad
theorem Sim.frozen {K:PySem.W.Frag} {mg:Str->Option Value} {Z F H:Hp} {ρ:List Addr} {μ:Mem} {δ:Loc} {σ:St} {p:Addr} {vs:List V} (S:Sim K mg Z F ρ μ δ σ H) (h:F p=some (.lst vs)):H p=some (.lst vs):=by
 rcases S.le _ _ h with q | ⟨ob,kvs,e,q⟩
 ·exact q
 ·cases e
theorem VU {tg:Expr} {m:ME} (he:JE X W e m):JI X W tg e (Uc m):=by
 refine (JH he.locked).imp fun σ H R ⟨Z,F,ρ,μ,δ,S,q⟩=>⟨Z,F,ρ,μ,δ,S,(FinE.bind q).imp fun s δ1 μ1 H1 F1 ρ1 l lr S1 ⟨_,_,_,p⟩ v r => ?_⟩;cases ea:G4 s.d with
 | none=>simp only [ea] at p; exact p.elim
 | some ds =>
   simp only [ea] at p;have p':=p H1 F1 ρ1 .refl .refl S1;unfold G4 at ea;generalize s.d=d at ea r;cases d <;> first | (cases ea; done) | skip
   ·cases ea
    cases (Bor.fr (H:=H1) r).str;exact .inr (.inr ⟨_,rfl,p' _ GH⟩)
   ·cases ea
    cases r with
    | @lst a vs _ h r =>
      exact .inl ⟨a,rfl,⟨vs,.of (S1.frozen h)⟩,p' _ (OI (fun Z' F' ρ' μ δ σ H to S=>.of (S.frozen (to _ _ h))) r)⟩
   ·cases ea
    cases r with
    | @tup a vs _ h r =>
      exact .inr (.inl ⟨a,rfl,⟨vs,h.elim (fun h=>.inl (S1.rd h)) .inr⟩,p' _ (L_ (fun Z' F' ρ' μ δ σ H to S=>h.elim (fun h=>.inl (S.rd (Rd.up to h))) .inr) r)⟩)
   ·rename_i b' ks' x'
    cases b' <;> cases ks' <;> first | (cases ea; done) | skip
    ·cases ea
     cases r with
     | @ro a vs _ h r =>
       exact .inl ⟨a,rfl,⟨vs,h.elim (fun h=>.inl (S1.rd h)) .inr⟩,p' _ (OI (fun Z' F' ρ' μ δ σ H to S=>h.elim (fun h=>.inl (S.rd (Rd.up to h))) .inr) r)⟩
    cases ea;cases r with
    | @rc o a vs _ h hd r =>
      exact .inr (.inl ⟨a,rfl,⟨vs,.inl (S1.rd (.inr ⟨o,h⟩))⟩,p' _ (L_ (fun Z' F' ρ' μ δ σ H to S=>.inl (S.rd (Rd.up to (.inr ⟨o,h⟩)))) r)⟩)
def Zj (lo:Int) (n:Nat):List D:=(List.range n).map fun i=>.int (lo+(i:Nat))
theorem Qw {Z F:Hp} {ρ:List Addr} {lo:Int} {n:Nat}:BG X Z F ρ (Itr lo n) (Zj lo n):=by
 intro Z' F' ρ' μ δ σ H i to tr S zz;refine ⟨fun hl => ?_,fun d hd => ?_⟩
 ·show n<=i
  simpa [Zj] using hl
 ·unfold Zj at hd
  rw [List.getElem?_map] at hd;by_cases hi:i < n
  ·rw [List.getElem?_range hi] at hd
   cases hd;refine ⟨hi,fun x H' y => ?_⟩;obtain ⟨rfl,rfl⟩:=y;exact ⟨F',.refl,S,.int⟩
  ·rw [List.getElem?_eq_none (by simp; omega)] at hd; cases hd
def Xv (o:Opn):MM (List D):=fun δ μ=>(RW [o] δ μ).bind fun rs δ1 μ1=>match OR.ats δ1 μ1 rs with
 | some [.int j]=>if -(2 ^ 62)<=j/\j < 2 ^ 62 then .ok (Zj 0 j.toNat) δ1 μ1 else .bad
 | _=>.bad
def U5 (o o':Opn):MM (List D):=fun δ μ=>(RW [o,o'] δ μ).bind fun rs δ1 μ1=>match OR.ats δ1 μ1 rs with
 | some [.int i,.int j]=>if (-(2 ^ 62)<=i/\i < 2 ^ 62)/\(-(2 ^ 62)<=j/\j < 2 ^ 62) then .ok (Zj i (j - i).toNat) δ1 μ1 else .bad
 | _=>.bad
theorem Lg {tg:Expr} {o:Opn} {p:Pos} (hg:Gl X "range") (hm:X.mg "range" = none) (ha:Ll X W [a] [o]) (hs:starEach [a] X.env=[(false,eval a X.env)]:=by rfl):JI X W tg (.Call (.Name "range" p) [a] [] pos) (Xv o):=by
 refine (pi_range1 hg hm ha hs).imp fun σ H R ⟨Z,F,ρ,μ,δ,S,q⟩=>⟨Z,F,ρ,μ,δ,S,(FinE.bind q).imp fun rs δ1 μ1 H1 F1 ρ1 l lr S1 ⟨_,_,_,p⟩ vs hv => ?_⟩
 split at p
 ·rename_i j ej
  obtain ⟨v,rfl,hb⟩:=(hv.bor S1 ej).one;cases hb.int;by_cases c : -(2 ^ 62)<=j/\j < 2 ^ 62
  ·rw [if_pos c] at p
   exact ⟨j,rfl,c.1,c.2,p H1 F1 ρ1 .refl .refl S1 _ Qw⟩
  ·rw [if_neg c] at p; exact p.elim
 ·exact p.elim
theorem Lf {tg:Expr} {o o':Opn} {p:Pos} (hg:Gl X "range") (hm:X.mg "range" = none) (ha:Ll X W [a,b] [o,o']) (hs:starEach [a,b] X.env=[(false,eval a X.env),(false,eval b X.env)]:=by rfl) (hs2:starEach [b] X.env=[(false,eval b X.env)]:=by rfl):JI X W tg (.Call (.Name "range" p) [a,b] [] pos) (U5 o o'):=by
 refine (pi_range2 hg hm ha hs hs2).imp fun σ H R ⟨Z,F,ρ,μ,δ,S,q⟩=>⟨Z,F,ρ,μ,δ,S,(FinE.bind q).imp fun rs δ1 μ1 H1 F1 ρ1 l lr S1 ⟨_,_,_,p⟩ vs hv => ?_⟩
 split at p
 ·rename_i i j ej
  obtain ⟨v,w,rfl,hb,hc⟩:=(hv.bor S1 ej).two;cases hb.int;cases hc.int;by_cases c:(-(2 ^ 62)<=i/\i < 2 ^ 62)/\(-(2 ^ 62)<=j/\j < 2 ^ 62)
  ·rw [if_pos c] at p
   exact ⟨i,j,rfl,⟨c.1.1,c.1.2,c.2.1,c.2.2⟩,p H1 F1 ρ1 .refl .refl S1 _ Qw⟩
  ·rw [if_neg c] at p; exact p.elim
 ·exact p.elim
def Zv (f:VY) (m:MS):D->MS:=fun d δ μ=>match f d δ with
 | some δ' => m δ' μ
 | none=>.bad
def Wn (g:D->MS):List D->MS
 | []=>fun δ μ=>.nx δ μ
 | d :: ds=>fun δ μ=>(g d δ μ).loop (Wn g ds)
def WD (mi:MM (List D)) (f:VY) (m:MS):MS:=fun δ μ=>(mi δ μ).thn fun ds δ1 μ1=>Wn (Zv f m) ds δ1 μ1
theorem Uu {tg iter:Expr} {body:List Stmt} {mi:MM (List D)} {f:VY} {is:List Nat} {m:MS} (hp:PassesOwn (model X.prog X.w) X.A X.env X.xe) (hc:X.calm=true) (hi:JI X W tg iter mi) (hg:JG X tg f is) (hb:L' X W body m)
  (hs:∀ x,foldedSetIterable iter X.env x=pure x:=by intro _; rfl):JS X W (.For tg iter body [] pos) (WD mi f m):=by
 refine (ps_for hp hc hi hg hb hs).imp fun E σ H ⟨Z,F,ρ,μ,δ,S,q⟩=>⟨Z,F,ρ,μ,δ,S,(FinS.thn q).imp fun ds δ1 μ1 H1 F1 ρ1 l lr S1 ⟨_,p⟩ J hJ => ?_⟩
 let Wd:Nat->Nat->St->Hp->Prop:=fun i k σ H=>k=ds.length - i/\i<=ds.length/\∃ F' ρ' μ δ,(∀ p o,F1 p=some o->F' p=some o)/\(∀ (k:Nat) p,ρ1[k]?=some p->ρ'[k]?=some p)/\Sim X.K X.mg Z F' ρ' μ δ σ H/\FinS X W Z F' ρ' E (Wn (Zv f m) (ds.drop i) δ μ)
 refine ⟨Wd,⟨ds.length,by simp,Nat.zero_le _,F1,ρ1,μ1,δ1,fun _ _ h=>h,fun _ _ h=>h,S1,by rw [List.drop_zero]; exact p⟩,?_⟩;rintro i k σ2 H2 ⟨rfl,hle,F2,ρ2,μ2,δ2,to,tr,S2,p2⟩;obtain ⟨j1,j2⟩:=hJ Z F2 ρ2 μ2 δ2 σ2 H2 i to tr S2 (fun _ _ h=>h);by_cases hlt:i < ds.length
 ·refine .inr ?_
  have hd:ds.drop i=ds[i] :: ds.drop (i+1):=List.drop_eq_getElem_cons hlt;obtain ⟨go,yl⟩:=j2 ds[i] (List.getElem?_eq_getElem hlt);refine ⟨go,fun σ' H' => Wd (i+1) (ds.length - (i+1)) σ' H',fun σ' H' w=>⟨ds.length - (i+1),by omega,w⟩,fun x H' y => ?_⟩;obtain ⟨F3,l3,S3,r3⟩:=yl x H' y;rw [hd] at p2;unfold Wn at p2;cases ef:f ds[i] δ2 with
  | none =>
    have e:Zv f m ds[i] δ2 μ2 = .bad:=by unfold Zv; rw [ef]
    simp only [e] at p2;exact p2.elim
  | some δ3 =>
    have e:Zv f m ds[i] δ2 μ2=m δ3 μ2:=by unfold Zv; rw [ef]
    simp only [e] at p2;refine ⟨Z,F3,ρ2,μ2,δ2,_,S3,r3,δ3,ef,fun σ4 _ _ S4=>⟨Z,F3,ρ2,μ2,δ3,S4,(p2.mono l3 .refl).loop fun σ' H' F' ρ' μ' δ' l' lr' S' q' => ?_⟩⟩;exact ⟨rfl,hlt,F',ρ',μ',δ',fun p o h=>l'.to p o (l3.to p o (to p o h)),fun k p h=>lr'.to k p (tr k p h),S',q'⟩
 ·have e:i=ds.length:=by omega
  subst e;rw [List.drop_length] at p2;exact .inl ⟨j1 (Nat.le_refl _),p2.nx S2⟩
def Out.cut {α:Type} (r:Out α):Out α:=match r with
 | .exc _ _ _=>.bad
 | r=>r
def ZJ (δ:Loc):List Nat->Loc
 | []=>δ
 | v :: vs=>(ZJ δ vs).set v none
theorem Sim.wipe {K:PySem.W.Frag} {mg:Str->Option Value} {Z F H:Hp} {ρ:List Addr} {μ:Mem} {δ:Loc} {σ:St} (S:Sim K mg Z F ρ μ δ σ H):∀ vs,Sim K mg Z F ρ μ (ZJ δ vs) (L2.wipe σ vs) H
 | []=>S
 | v :: vs=>(Sim.wipe S vs).forget
theorem Sim.agree {K:PySem.W.Frag} {mg:Str->Option Value} {Z F H:Hp} {ρ:List Addr} {μ:Mem} {δ:Loc} {σ σ':St} (S:Sim K mg Z F ρ μ δ σ H) (hl:σ'.length=σ.length) (ha:∀ (i:Nat) s,δ[i]?=some (some s)->σ'[i]?=σ[i]?):Sim K mg Z F ρ μ δ σ' H :=
 ⟨S.le,S.zk,hl.trans S.len,fun i s e=>by rw [ha i s e]; exact S.slot i s e,fun i j p s s' e1 e2 e3 e4=>S.apart i j p s s' e1 e2 (by rw [← ha i _ e1]; exact e3) (by rw [← ha j _ e2]; exact e4),S.mem,S.mlen,S.nod⟩
theorem X6 {δ:Loc} {i:Nat} {s:Slot}:∀ {vs:List Nat},(ZJ δ vs)[i]?=some (some s)->i∉vs
 | [],_=>by simp
 | v :: vs,h=>by
   unfold ZJ at h;by_cases z:i=v
   ·subst z
    by_cases hl:i < (ZJ δ vs).length
    ·rw [List.getElem?_set_self hl] at h; cases h
    ·rw [List.getElem?_eq_none (by simpa using hl)] at h; cases h
   ·rw [List.getElem?_set_ne (Ne.symm z)] at h
    have:=X6 h;simp [z,this]
theorem wipe_out {σ:St} {i:Nat}:∀ {vs:List Nat},i∉vs->(L2.wipe σ vs)[i]?=σ[i]?
 | [],_=>rfl
 | v :: vs,h=>by
   unfold L2.wipe;rw [List.getElem?_set_ne (fun z=>h (by simp [z]))];exact wipe_out fun z=>h (List.mem_cons_of_mem _ z)
theorem XZ {σ σ':St} (hl:σ'.length=σ.length):∀ {vs:List Nat},(∀ j:Nat,j∉vs->σ'[j]?=σ[j]?)->L2.wipe σ' vs=L2.wipe σ vs:=by
 intro vs h
 apply List.ext_getElem?
 intro i;by_cases hi:i∈vs
 ·have no:∀ (τ:St),τ.length=σ.length->∀ vs:List Nat,i∈vs->(L2.wipe τ vs)[i]?=if i < σ.length then some none else none:=by
   intro τ hτ vs
   induction vs with
   | nil=>intro z; cases z
   | cons v vs ih =>
     intro z;unfold L2.wipe;by_cases e:i=v
     ·subst e
      by_cases hlt:i < σ.length
      ·rw [List.getElem?_set_self (by rw [wipe_length,hτ]; exact hlt),if_pos hlt]
      ·rw [List.getElem?_eq_none (by rw [List.length_set,wipe_length,hτ]; omega),if_neg hlt]
     ·rw [List.getElem?_set_ne (Ne.symm e)]
      exact ih ((List.mem_cons.mp z).resolve_left e)
  rw [no σ' hl vs hi,no σ rfl vs hi]
 ·rw [wipe_out hi,wipe_out hi]
  exact h i hi
def Sn (f:VY) (tests:MT) (elt:ME) (vs:List Nat):List D->List D->ME
 | [],acc=>fun δ μ=>.ok (.own (.lst acc)) δ μ
 | d :: ds,acc=>fun δ μ=>match f d δ with
   | none=>.bad
   | some δ' => (tests δ' μ).cut.bind fun b δ2 μ2=>if b=true then (elt δ2 μ2).cut.bind fun s δ3 μ3=>if acc.length < 16777216 then Sn f tests elt vs ds (acc++[s.d]) (ZJ δ3 vs) μ3 else .bad
     else Sn f tests elt vs ds acc (ZJ δ2 vs) μ2
def Tj (mi:MM (List D)) (f:VY) (tests:MT) (elt:ME) (vs:List Nat):ME:=fun δ μ=>(mi δ μ).bind fun ds δ1 μ1=>Sn f tests elt vs ds [] (ZJ δ1 vs) μ1
abbrev W0:WX:=fun _ _ _ _=>False
theorem FinE.cut {Y:Cx} {Z F:Hp} {ρ:List Addr} {σ σ':St} {α β:Type} {P:β->Loc->Mem->Hp->List Addr->Hp->Prop} {r:Out α} {g:α->Loc->Mem->Out β} {p:Addr} {o:HO} (hK:Y.K=X.K) (hm:Y.mg=X.mg) (h:FinE X W Z F ρ σ P (r.cut.bind g)) :
  FinE Y W0 (upd Z p o) F ρ σ' (fun a δ μ F' ρ' H' => Sim X.K X.mg (upd Z p o) F' ρ' μ δ σ' H'/\Le (upd Z p o) F F'/\LeR (upd Z p o) ρ ρ'/\FinE X W Z F' ρ' σ P (g a δ μ)) r:=by
 cases r with
 | ok a δ μ =>
   intro H' F' ρ' l lr S;rw [hK,hm] at S;exact ⟨S,l,lr,FinE.mono h l.unguard lr.unguard⟩
 | exc x δ μ=>exact h.elim
 | bad=>exact h
theorem L9 {Y:Cx->Prop} {mi:MM (List D)} {f:VY} {tests:MT} {elt:ME} {vs is:List Nat} {B:Cx} (hK:B.K=X.K) (hm:B.mg=X.mg) (hsub:∀ j∈is,j∈vs):∀ σ H Q,Uw X W (Tj mi f tests elt vs) σ H Q->tLc (xu X W mi) (D_ X f is) (JX B W0 tests) (Uw B W0 elt) vs σ H Q:=by
 intro σ H Q ⟨Z,F,ρ,μ,δ,S,q⟩;refine ⟨Z,F,ρ,μ,δ,S,(FinE.bind q).imp fun ds δ1 μ1 H1 F1 ρ1 l lr S1 ⟨_,_,_,p⟩ J hJ A hA => ?_⟩;obtain ⟨n1,n2,n3,n4⟩:=S1.notIn hA
 let P:Slot->Loc->Mem->Hp->List Addr->Hp->Prop:=fun s δ' _ F' ρ' H' => ∀ v,VR X.K X.mg Z F' ρ' δ' σ H' v s->Q v H'
 let Wd:Nat->Nat->Hp->Prop:=fun i k H=>k=ds.length - i/\i<=ds.length/\∃ F' ρ' μ δ vals acc,(∀ p o,F1 p=some o->F' p=some o)/\(∀ (k:Nat) p,ρ1[k]?=some p->ρ'[k]?=some p)/\Sim X.K X.mg Z F' ρ' μ (ZJ δ vs) (L2.wipe σ vs) H /\
  Free Z F' ρ' A/\(∀ (i:Nat) s,(ZJ δ vs)[i]?=some (some (.own s))->(L2.wipe σ vs)[i]?≠some (some (.ref A)))/\H A=some (.lst vals)/\RepL X.K X.mg F' ρ' vals acc/\FinE X W Z F' ρ' σ P (Sn f tests elt vs (ds.drop i) acc (ZJ δ vs) μ)
 have wout:∀ {δ:Loc} {s:Slot} (i:Nat),(ZJ δ vs)[i]?=some (some s)->(L2.wipe σ vs)[i]?=σ[i]?:=fun i h=>wipe_out (X6 h);have Sw:=(S1.laid (o:=.lst []) hA).wipe vs;refine ⟨Wd,⟨ds.length,by simp,Nat.zero_le _,F1,ρ1,μ1,δ1,[],[],fun _ _ h=>h,fun _ _ h=>h,Sw,⟨n1,n2,n3⟩,fun i s e1 e2 => ?_,upd_same,.nil,by rw [List.drop_zero]; exact p⟩,?_⟩
 ·obtain ⟨w,e3,q',eq',f',r'⟩:=Sw.slot i _ e1
  rw [e2] at e3; cases e3; cases eq';have e4:=wout i e1;rw [e2] at e4;have e5:δ1[i]?=some (some (.own s)):=by
   have:∀ vs:List Nat,(ZJ δ1 vs)[i]?=some (some (.own s))->δ1[i]?=some (some (.own s)):=by
    intro vs
    induction vs with
    | nil=>exact id
    | cons v vs ih =>
      intro h;have hn:=X6 h;unfold ZJ at h;rw [List.getElem?_set_ne (fun z=>hn (by simp [z]))] at h;exact ih h
   exact this vs e1
  exact n4 i s e5 e4.symm
 rintro i k H2 ⟨rfl,hle,F2,ρ2,μ2,δ2,vals,acc,to,tr,S2,fA,nA,hL,rL,p2⟩;obtain ⟨j1,j2⟩:=hJ Z F2 ρ2 μ2 _ _ H2 i to tr S2 (fun _ _ h=>h);by_cases hlt:i < ds.length
 ·refine .inr ?_
  have hd:ds.drop i=ds[i] :: ds.drop (i+1):=List.drop_eq_getElem_cons hlt;have SG:=S2.guard hL fA nA;obtain ⟨go,yl⟩:=hJ (upd Z A (.lst vals)) F2 ρ2 μ2 _ _ H2 i to tr SG (fun q u hq=>by rw [upd_ne (fun z=>by subst z; rw [fA.z] at hq; cases hq)]; exact hq) |>.2 ds[i] (List.getElem?_eq_getElem hlt);refine ⟨go,fun H' => Wd (i+1) (ds.length - (i+1)) H',fun H' w=>⟨ds.length - (i+1),by omega,w⟩,fun x H' y => ?_⟩;obtain ⟨F3,l3,S3,r3⟩:=yl x H' y;rw [hd] at p2;unfold Sn at p2;cases ef:f ds[i] (ZJ δ2 vs) with
  | none=>simp only [ef] at p2; exact p2.elim
  | some δ3 =>
    simp only [ef] at p2;refine ⟨_,F3,ρ2,μ2,_,_,S3,r3,δ3,ef,fun σ4 hσ hl4 S4 => ?_⟩;have ws:L2.wipe σ4 vs=L2.wipe σ vs:=by
     have h1:=XZ (σ:=L2.wipe σ vs) (σ':=σ4) hl4 (vs:=vs) fun j hj=>hσ j fun z=>hj (hsub j z);rw [h1]
     apply XZ (wipe_length _ _)
     intro j hj;exact wipe_out hj
    refine ⟨by rw [ws,XZ (σ:=σ) (σ':=σ) rfl fun _ _=>rfl],?_⟩
    -- the tests
    refine ⟨_,F3,ρ2,μ2,δ3,by rw [hK,hm]; exact S4,(FinE.cut (p:=A) (o:=.lst vals) hK hm (p2.mono l3.unguard .refl)).imp fun b δ5 μ5 H5 F5 ρ5 l5 lr5 _ ⟨S5,l5',lr5',p5⟩ => ?_⟩;have fin:∀ {F6:Hp} {ρ6:List Addr} {μ6:Mem} {δ6:Loc} {H6 H7:Hp} {vals':List V} {acc':List D},Sim X.K X.mg (upd Z A (.lst vals)) F6 ρ6 μ6 δ6 σ4 H6->Le (upd Z A (.lst vals)) F3 F6->LeR (upd Z A (.lst vals)) ρ2 ρ6 ->
     (∀ a,a≠A->H7 a=H6 a)->H7 A=some (.lst vals')->RepL X.K X.mg F6 ρ6 vals' acc'->FinE X W Z F6 ρ6 σ P (Sn f tests elt vs (ds.drop (i+1)) acc' (ZJ δ6 vs) μ6)->Wd (i+1) (ds.length - (i+1)) H7:=by
     intro F6 ρ6 μ6 δ6 H6 H7 vals' acc' S6 l6 lr6 hne hA7 rL' p6;have fA6:Free Z F6 ρ6 A:=(fA.on l3 .refl).on l6 lr6;have S7:=(S6.unguard fA.z).heap hne fA6.f fA6.z fA6.r S6.guardNo;have S8:=S7.wipe vs;rw [ws] at S8;refine ⟨rfl,hlt,F6,ρ6,μ6,δ6,vals',acc',fun p o h=>l6.to p o (l3.to p o (to p o h)),fun k p h=>lr6.to k p (tr k p h),S8,fA6,fun i' s e1 e2 => ?_,hA7,rL',p6⟩;obtain ⟨w,e3,q',eq',f',r'⟩:=S8.slot i' _ e1;rw [e2] at e3; cases e3; cases eq';have e4:(L2.wipe σ4 vs)[i']?=σ4[i']?:=wipe_out (X6 e1);rw [ws,e2] at e4;have e5:δ6[i']?=some (some (.own s)):=by
      have:∀ vs:List Nat,(ZJ δ6 vs)[i']?=some (some (.own s))->δ6[i']?=some (some (.own s)):=by
       intro vs
       induction vs with
       | nil=>exact id
       | cons v vs ih =>
         intro h;have hn:=X6 h;unfold ZJ at h;rw [List.getElem?_set_ne (fun z=>hn (by simp [z]))] at h;exact ih h
      exact this vs e1
     exact S6.guardNo i' s e5 e4.symm
    cases b with
    | false =>
      simp only [if_neg Bool.false_ne_true] at p5 ⊢;exact fin S5 l5' lr5' (fun _ _=>rfl) S5.guarded (rL.up (fun p o h=>l5'.to p o (l3.to p o h)) lr5'.to) p5
    | true =>
      simp only [if_true] at p5 ⊢;refine ⟨_,F5,ρ5,μ5,δ5,by rw [hK,hm]; exact S5,(FinE.cut (p:=A) (o:=.lst vals) hK hm p5).imp fun s δ6 μ6 H6 F6 ρ6 l6 lr6 _ ⟨S6,l6',lr6',p6⟩ v vr => ?_⟩;rw [hK,hm] at vr;obtain ⟨F7,l7,S7,r7⟩:=S6.lock vr;by_cases hz:acc.length < 16777216
      ·rw [if_pos hz] at p6
       have rL6:=rL.up (fun p o h=>l7.to p o (l6'.to p o (l5'.to p o (l3.to p o h)))) fun k p h=>lr6'.to k p (lr5'.to k p h);refine ⟨vals,S7.guarded,by rw [rL.len,YM]; exact hz,?_⟩;exact fin S7 (l5'.trans (l6'.trans l7)) (lr5'.trans lr6') (fun a ne=>upd_ne ne) upd_same (rL6.app (.cons r7 .nil)) (p6.mono l7.unguard .refl)
      ·rw [if_neg hz] at p6; exact p6.elim
 ·have e:i=ds.length:=by omega
  subst e;rw [List.drop_length] at p2;refine .inl ⟨j1 (Nat.le_refl _),?_⟩;have S3:Sim X.K X.mg Z F2 ρ2 μ2 (ZJ δ2 vs) σ H2:=S2.agree (wipe_length _ _).symm fun i s e=>(wout i e).symm;exact p2 H2 F2 ρ2 .refl .refl S3 (.ref A) ⟨⟨A,rfl,fA,vals,hL,rL⟩,fun o p z1 z2 i o' e1 e2=>by
   cases z2;exact nA i o' e1 (by rw [wout i e1]; exact e2)⟩
abbrev G3 (X:Cx) (W:WX) (ifs:List Expr) (m:MT):Prop:=PTs X ifs (JX X W m)
def Vx:MT:=fun δ μ=>.ok true δ μ
theorem T8:G3 X W [] Vx:=⟨fun pins s σ H Q I ⟨Z,F,ρ,μ,δ,S,q⟩=>pts_nil.run pins s σ H Q I (q H F ρ .refl .refl S)⟩
theorem VT {c:Expr} {m:MT} (h:JT X W c m):G3 X W [c] m:=pts_one h
theorem AW {elt tg iter:Expr} {ifs:List Expr} {scope:Scope} {own:List (Str×Nat)} {mi:MM (List D)} {f:VY} {is:List Nat} {tests:MT} {m:ME} (hc:X.calm=true) (hN:X.N.Nodup) (hi:JI X W tg iter mi) (ok:BlkOk X.N X.env.scope scope own)
  (hg:∀ (s:Shared) (H:Hp) (C:Addr) (cl:List (Str×Addr)) (fp:List Addr),JG (X.blk s H scope (compEnvC scope cl C X.env) fp) tg f is) (ht:∀ (s:Shared) (H:Hp) (C:Addr) (cl:List (Str×Addr)) (fp:List Addr),G3 (X.blk s H scope (compEnvC scope cl C X.env) fp) W0 ifs tests)
  (he:∀ (s:Shared) (H:Hp) (C:Addr) (cl:List (Str×Addr)) (fp:List Addr),JE (X.blk s H scope (compEnvC scope cl C X.env) fp) W0 elt m) (hsub:∀ j∈is,j∈own.map (·.2)) (hs:∀ x,foldedSetIterable iter X.env x=pure x:=by intro _; rfl) :
  JE X W (.ListComp elt [⟨tg,iter,ifs,0⟩] scope pos) (Tj mi f tests m (own.map (·.2))) :=
 (pe_lc (g:=D_ X f is) (tt:=JX X W0 tests) (te:=Uw X W0 m) hc hN hi ok hg ht he hs).imp (L9 (Y:=fun _=>True) (B:=X) rfl rfl hsub)
theorem JF {i:Nat} {y:Str} {py:Pos} {elt tg iter:Expr} {ifs:List Expr} {scope:Scope} {own:List (Str×Nat)} {spos:Pos} {mi:MM (List D)} {f:VY} {is:List Nat} {tests:MT} {m:ME} (hc:X.calm=true) (hN:X.N.Nodup) (hy:X.N[i]?=some y) (hyl:X.env.scope.names.lookup y=some .local)
  (hsw:swapsWith (.ListComp elt [⟨tg,iter,ifs,0⟩] scope pos) (some (.Name y py)) spos.line X.env=pure true) (hi:JI X W tg iter mi) (ok:BlkOk X.N X.env.scope scope own)
  (hg:∀ (s:Shared) (H:Hp) (C:Addr) (cl:List (Str×Addr)) (fp:List Addr),JG (X.blk s H scope (compEnvC scope cl C X.env) fp) tg f is) (ht:∀ (s:Shared) (H:Hp) (C:Addr) (cl:List (Str×Addr)) (fp:List Addr),G3 (X.blk s H scope (compEnvC scope cl C X.env) fp) W0 ifs tests)
  (he:∀ (s:Shared) (H:Hp) (C:Addr) (cl:List (Str×Addr)) (fp:List Addr),JE (X.blk s H scope (compEnvC scope cl C X.env) fp) W0 elt m) (hsub:∀ j∈is,j∈own.map (·.2)) (hs:∀ x,foldedSetIterable iter X.env x=pure x:=by intro _; rfl) :
  JS X W (.Assign [.Name y py] (.ListComp elt [⟨tg,iter,ifs,0⟩] scope pos) spos) (ZK i (Tj mi f tests m (own.map (·.2)))) :=
 (ps_setLc (g:=D_ X f is) (tt:=JX X W0 tests) (te:=Uw X W0 m) hc hN hy hyl hsw hi ok hg ht he hs).imp fun E σ H h=>by
  obtain ⟨Z,F,ρ,μ,δ,S,q⟩:=h;refine L9 (Y:=fun _=>True) (B:=X) rfl rfl hsub σ H _ ⟨Z,F,ρ,μ,δ,S,(FinS.thn q).imp fun a δ1 μ1 H1 F1 ρ1 l lr S1 ⟨_,p⟩ v vr=>p.nx (S1.put vr)⟩
def UN (i j:Nat) (ma mb:ME):MS:=fun δ μ=>(ma δ μ).thn fun s δ1 μ1=>(mb δ1 μ1).thn fun t δ2 μ2=>.nx ((δ2.set i (some s)).set j (some t)) μ2
theorem OH {i j:Nat} {ma mb:ME}:∀ E σ H,Ea X W (UN i j ma mb) E σ H->tPar i j (tCons (Uw X W ma) (tCons (Uw X W mb) tNil)) E σ H:=by
 intro E σ H ⟨Z,F,ρ,μ,δ,S,q⟩;refine ⟨Z,F,ρ,μ,δ,S,(FinS.thn q).imp fun s δ1 μ1 H1 F1 ρ1 l lr S1 ⟨_,p⟩ v vr => ?_⟩;cases s with
 | fr d =>
   refine ⟨Z,F1,ρ1,μ1,δ1,S1,(FinS.thn p).imp fun t δ2 μ2 H2 F2 ρ2 l2 lr2 S2 ⟨_,p2⟩ w wr=>⟨v,w,rfl,p2.nx ?_⟩⟩;have r:Rep X.K X.mg F2 ρ2 v d:=Rep.up l2.to lr2.to vr.r;refine (S2.put (i:=i) (v:=v) (s:=.fr d) ⟨r,fun o p z=>by cases z⟩).put ⟨wr.r,fun o p z1 z2 k o' e1 e2 => ?_⟩;by_cases z:k=i
   ·subst z
    by_cases hl:k < δ2.length
    ·rw [List.getElem?_set_self hl] at e1; cases e1
    ·rw [List.getElem?_eq_none (by simpa using hl)] at e1; cases e1
   ·rw [List.getElem?_set_ne (Ne.symm z)] at e1 e2
    exact wr.no o p z1 z2 k o' e1 e2
 | own c =>
   obtain ⟨A,ev,fA,rA⟩:=vr.r;obtain ⟨o,hA⟩:=rA.some;have SG:=S1.guard hA fA (vr.no c A rfl ev);refine ⟨upd Z A o,F1,ρ1,μ1,δ1,SG,?_⟩;have p':=FinS.thn (σ:=σ) p;generalize mb δ1 μ1=r2 at p';cases r2 with
   | bad=>exact p'
   | exc x δ2 μ2=>exact fun c' d' H2 F2 ρ2 l2 lr2 S2 er=>p' c' d' H2 F2 ρ2 l2.unguard lr2.unguard (S2.unguardR fA.z (fA.on l2 lr2).r) er
   | ok t δ2 μ2 =>
     intro H2 F2 ρ2 l2 lr2 S2 w wr;obtain ⟨_,p2⟩:=p' H2 F2 ρ2 l2.unguard lr2.unguard (S2.unguardR fA.z (fA.on l2 lr2).r);refine ⟨v,w,rfl,p2.nx ?_⟩;have fA2:=fA.on l2 lr2;have hA2:H2 A=some o:=S2.guarded;have vr2:VR X.K X.mg Z F2 ρ2 δ2 σ H2 v (.own c):=⟨⟨A,ev,fA2,rA.up l2.to lr2.to (by rw [hA2,hA])⟩,fun o' p' z1 z2=>by
      rw [ev] at z2; cases z2;exact S2.guardNo⟩
     have S3:=(S2.unguardR fA.z (fA.on l2 lr2).r).put (i:=i) vr2;cases t with
     | fr d=>exact S3.put ⟨wr.r,fun o p z=>by cases z⟩
     | own c2 =>
       obtain ⟨B,ew,fB,rB⟩:=wr.r;have nBA:B≠A:=(Xw fB.z).1;refine S3.put ⟨⟨B,ew,⟨fB.f,(Xw fB.z).2,fB.r⟩,rB⟩,fun o p z1 z2 k o' e1 e2 => ?_⟩;rw [ew] at z2; cases z2;by_cases z:k=i
       ·subst z
        by_cases hl:k < σ.length
        ·rw [List.getElem?_set_self hl,ev] at e2
         cases e2;exact nBA rfl
        ·rw [List.getElem?_eq_none (by simpa using hl)] at e2; cases e2
       ·rw [List.getElem?_set_ne (Ne.symm z)] at e1 e2
        exact wr.no c2 B rfl ew k o' e1 e2
theorem Dg {i j:Nat} {x y:Str} {ma mb:ME} {px py pt:Pos} {kt k2 pt2} (hc:X.calm=true) (hN:X.N.Nodup) (hi:X.N[i]?=some x) (hj:X.N[j]?=some y) (hij:i≠j)
  (hx:X.env.scope.names.lookup x=some .local) (hy:X.env.scope.names.lookup y=some .local) (ha:JE X W a ma) (hb:JE X W b mb)
  (hw:swappedStores [.Tuple [.Name x px,.Name y py] kt pt] (.Tuple [a,b] k2 pt2) X.env=pure (some [x,y]))
  (hs:swapsWithSole [.Tuple [.Name x px,.Name y py] kt pt] (.Tuple [a,b] k2 pt2) pos.line X.env=pure false:=by rfl)
  (h1:starEach [a,b] X.env=(false,eval a X.env) :: starEach [b] X.env:=by rfl) (h2:starEach [b] X.env=(false,eval b X.env) :: starEach [] X.env:=by rfl) :
  JS X W (.Assign [.Tuple [.Name x px,.Name y py] kt pt] (.Tuple [a,b] k2 pt2) pos) (UN i j ma mb):=by
 exact (ps_par hc hN hi hj hij hx hy (pa_cons ha (pa_cons hb pa_nil h2) h1) hw hs).imp OH
theorem OG {m:ME} {σ:L2.St} {H:Hp} {Q Q':VK} (h:Uw X W m σ H Q) (hq:∀ v H,Q v H->Q' v H):Uw X W m σ H Q' :=
 let ⟨Z,F,ρ,μ,δ,S,q⟩:=h
 ⟨Z,F,ρ,μ,δ,S,q.imp fun _ _ _ _ _ _ _ _ _ p v vr=>hq _ _ (p v vr)⟩
theorem FinS.laid {r:OutS} {E:Ends} {Z F:Hp} {ρ:List Addr} (h:FinS X W Z F ρ E r):FinS X W Z F ρ { E with nx:=fun σ H => ∀ p o,H p=none->E.nx σ (upd H p o) } r:=by
 cases r with
 | nx δ μ=>exact fun σ' H' F' ρ' l lr S p o hp=>h σ' _ F' ρ' l lr (S.laid hp)
 | bk δ μ=>exact h
 | ct δ μ=>exact h
 | rt s μ=>exact h
 | exc x δ μ=>exact h
 | bad=>exact h
theorem GG {i j:Nat} {x y:Str} {ma mb:ME} {px py pt:Pos} {kt k2 pt2} (hc:X.calm=true) (hN:X.N.Nodup) (hi:X.N[i]?=some x) (hj:X.N[j]?=some y)
  (hx:L2.Loc X.env.scope x) (hy:L2.Loc X.env.scope y) (fx:X.fn x=true) (fy:X.fn y=true) (ha:JE X W a ma) (hb:JE X W b mb)
  (hw:swappedStores [.Tuple [.Name x px,.Name y py] kt pt] (.Tuple [a,b] k2 pt2) X.env=pure none)
  (hs:swapsWithSole [.Tuple [.Name x px,.Name y py] kt pt] (.Tuple [a,b] k2 pt2) pos.line X.env=pure false:=by rfl)
  (h1:starEach [a,b] X.env=(false,eval a X.env) :: starEach [b] X.env:=by rfl) (h2:starEach [b] X.env=(false,eval b X.env) :: starEach [] X.env:=by rfl) :
  JS X W (.Assign [.Tuple [.Name x px,.Name y py] kt pt] (.Tuple [a,b] k2 pt2) pos) (UN i j ma mb):=by
 have tg:PG X (.Tuple [.Name x px,.Name y py] kt pt) (gTup X.K 2 (gCons (gName i) (gCons (gName j) gNil))):=pg_tup hc (pgs_cons (pg_name hN hi hx (.inl fx)) (pgs_cons (pg_name hN hj hy (.inl fy)) pgs_nil));refine (ps_asg (pe_tup (pa_cons ha (pa_cons hb pa_nil h2) h1)) tg hs hw).imp fun E σ H ⟨Z,F,ρ,μ,δ,S,q⟩ => ?_;have z:=OH (X:=X) (W:=W) (i:=i) (j:=j) (ma:=ma) (mb:=mb) _ σ H ⟨Z,F,ρ,μ,δ,S,FinS.laid q⟩;refine OG z fun v H1 z1=>OG z1 fun u H2 z2 => ?_;obtain ⟨v',w',ev,z3⟩:=z2;cases ev;refine ⟨by rw [sizeLine_eq]; simp,fun p hp=>⟨p,_,rfl,.inl (.inl upd_same),rfl,_,_,rfl,_,_,rfl,rfl,z3 p _ hp⟩⟩
end
end FL
namespace FL
open PySem L2
section
variable {X : Cx} {W : WX} {e a b o : Expr} {es : List Expr} {pos p apos : Pos}
def cutD {α:Type} (xs:List α) (lo hi:Option Int):List α:=(xs.drop (HT.sIx xs.length 0 lo)).take (HT.sIx xs.length xs.length hi - HT.sIx xs.length 0 lo)
def uG (X:Cx) (r:V->Option Int->Option Int->Hp->VK->Prop) (g:D->Option Int->Option Int->Option Slot):Prop:=∀ Z F ρ μ δ σ H x dx lo hi s Q,Sim X.K X.mg Z F ρ μ δ σ H->Bor X.K X.mg F ρ H x dx->g dx lo hi=some s ->
 (∀ v H' F',Le Z F F'->Sim X.K X.mg Z F' ρ μ δ σ H'->VR X.K X.mg Z F' ρ δ σ H' v s->Q v H')->r x lo hi H Q
def tw (X:Cx) (W:WX) (m:MM (Option Int)):TO:=fun σ H Q => ∃ Z F ρ μ δ,Sim X.K X.mg Z F ρ μ δ σ H/\FinE X W Z F ρ σ (fun i _ _ _ _ H' => Q i H') (m δ μ)
theorem _root_.L2.PO.imp {X:Cx} {e:Option Expr} {t t':TO} (h:PO X e t) (hi:∀ σ H Q,t' σ H Q->t σ H Q):PO X e t':=⟨fun pins s σ H Q I q=>h.run pins s σ H Q I (hi σ H Q q)⟩
abbrev JP (X:Cx) (W:WX) (e:Option Expr) (m:MM (Option Int)):Prop:=PO X e (tw X W m)
def UM:MM (Option Int):=fun δ μ=>.ok none δ μ
def mP (m:ME):MM (Option Int):=fun δ μ=>(m δ μ).bind fun s δ1 μ1=>match s with
 | .fr (.int i)=>.ok (some i) δ1 μ1
 | _=>.bad
theorem U4:JP X W none UM:=po_none.imp fun σ H Q ⟨Z,F,ρ,μ,δ,S,q⟩=>q H F ρ .refl .refl S
theorem Ww {m:ME} (h:JE X W e m):JP X W (some e) (mP m):=by
 refine (po_some h).imp fun σ H Q ⟨Z,F,ρ,μ,δ,S,q⟩=>⟨Z,F,ρ,μ,δ,S,(FinE.bind q).imp fun s δ1 μ1 H1 F1 ρ1 l lr S1 ⟨_,_,_,p⟩ v vr => ?_⟩;cases s with
 | own o=>exact p.elim
 | fr d =>
   cases d with
   | int i =>
     cases vr.r;exact ⟨i,rfl,p H1 F1 ρ1 .refl .refl S1⟩
   | _=>exact p.elim
def QP (g:D->Option Int->Option Int->Option Slot) (o:Opn) (lo hi:MM (Option Int)):ME:=fun δ μ=>(o.ev δ μ).bind fun r δ1 μ1=>(lo δ1 μ1).bind fun l δ2 μ2=>(hi δ2 μ2).bind fun h δ3 μ3 =>
 match r.at δ3 μ3 with
 | some d=>lift (g d l h) δ3 μ3
 | none=>.bad
theorem JD {lo hi:Option Expr} {p2:Pos} {r:V->Option Int->Option Int->Hp->VK->Prop} {g:D->Option Int->Option Int->Option Slot} {oo:Opn} {ml mh:MM (Option Int)} (hs:SlR X r) (hr:uG X r g) (ho:JO X W e oo) (hl:JP X W lo ml) (hh:JP X W hi mh) :
  JE X W (.Subscript e (.Slice lo hi none p2) pos) (QP g oo ml mh):=by
 refine (pe_slice hs ho hl hh).imp fun σ H Q ⟨Z,F,ρ,μ,δ,S,q⟩=>⟨Z,F,ρ,μ,δ,S,(FinE.bind q).imp fun ra δ1 μ1 H1 F1 ρ1 l1 lr1 S1 ⟨_,_,_,p⟩ x hx => ?_⟩;refine ⟨Z,F1,ρ1,μ1,δ1,S1,p.bind.imp fun l δ2 μ2 H2 F2 ρ2 l2 lr2 S2 ⟨_,_,_,p2⟩ => ?_⟩;refine ⟨Z,F2,ρ2,μ2,δ2,S2,p2.bind.imp fun h δ3 μ3 H3 F3 ρ3 l3 lr3 S3 ⟨_,_,_,p3⟩ => ?_⟩;cases ea:ra.at δ3 μ3 with
 | none=>simp only [ea] at p3; exact p3.elim
 | some d =>
   simp only [ea] at p3;unfold lift at p3;cases eg:g d l h with
   | none=>simp only [eg] at p3; exact p3.elim
   | some s =>
     simp only [eg] at p3;exact hr Z F3 ρ3 μ3 δ3 σ H3 x d l h s Q S3 (((hx.up l2 lr2).up l3 lr3).bor S3 ea) eg fun v H' F' l' S' vr=>p3 H' F' ρ3 l' .refl S' v vr
def UE:D->Option Int->Option Int->Option Slot
 | .str x,lo,hi=>if x.length<=16777216 then some (.fr (.str (cutD x lo hi))) else none
 | .lst x,lo,hi=>some (.own (.lst (cutD x lo hi)))
 | .fx .ro [] x,lo,hi=>some (.own (.lst (cutD x lo hi)))
 | .tup x,lo,hi=>some (.fr (.tup (cutD x lo hi)))
 | _,_,_=>none
abbrev JC (K:PySem.W.Frag):V->Option Int->Option Int->Hp->VK->Prop:=fun x lo hi H Q=>rSlS x lo hi H Q\/(rSlL K x lo hi H Q\/rSlA K x lo hi H Q)
theorem GF:SlR X (JC X.K):=sl_str.or (sl_list.or sl_tupA)
theorem Ld {α:Type} {xs:List α} {lo hi:Option Int} (h1:HT.sIx xs.length 0 lo=0) (h2:HT.sIx xs.length xs.length hi=xs.length):cutD xs lo hi=xs:=by
 unfold cutD;rw [h1,h2]; simp
theorem GB:uG X (JC X.K) UE:=by
 intro Z F ρ μ δ σ H x dx lo hi s Q S bx e q;unfold UE at e;cases dx <;> first | (cases e; done) | skip
 ·rename_i t
  by_cases hz:t.length<=16777216
  ·simp only [hz,if_true] at e
   cases e;cases bx.str;refine .inl ⟨_,rfl,by rw [Wz,YM]; exact hz,?_⟩;have ec:cutS (toS t) lo hi=toS (cutD t lo hi):=by
    unfold cutS cutD;rw [Wz];rfl
   rw [ec];exact q _ H F .refl S ⟨.str,fun o p z=>by cases z⟩
  ·simp only [hz] at e; cases e
 ·rename_i ds
  cases e;obtain ⟨p,vs,rfl,h,r⟩:=bx.lst S;refine .inr (.inl ⟨p,vs,rfl,.of h,fun a ha => ?_⟩);have r2:RepL X.K X.mg F ρ (cutV vs lo hi) (cutD ds lo hi):=by unfold cutV cutD; rw [r.len]; exact (r.drop _).take _
  obtain ⟨S',vr⟩:=Ua S ha r2;exact q _ _ F .refl S' vr
 ·rename_i ds
  cases e;have rp:=bx.rep fun o e=>by cases o <;> cases e
  obtain ⟨p,vs,rfl,h,r⟩:=bx.tup S;refine .inr (.inr ⟨p,vs,rfl,h,fun hw => ?_,fun _ a ha => ?_⟩)
  ·rw [r.len] at hw
   rw [Ld hw.1 hw.2] at q;exact q _ H F .refl S ⟨rp,fun o p z=>by cases z⟩
  ·have r2:RepL X.K X.mg F ρ (cutV vs lo hi) (cutD ds lo hi):=by unfold cutV cutD; rw [r.len]; exact (r.drop _).take _
   obtain ⟨F',l',S',vr⟩:=RU S ha r2;exact q _ _ F' l' S' vr
 ·rename_i b' ks' ds
  cases b' <;> cases ks' <;> first | (cases e; done) | skip
  cases e;obtain ⟨p,vs,rfl,h,r⟩:=bx.ro S;refine .inr (.inl ⟨p,vs,rfl,h,fun a ha => ?_⟩);have r2:RepL X.K X.mg F ρ (cutV vs lo hi) (cutD ds lo hi):=by unfold cutV cutD; rw [r.len]; exact (r.drop _).take _
  obtain ⟨S',vr⟩:=Ua S ha r2;exact q _ _ F .refl S' vr
def recv (δ:Loc) (μ:Mem):OR->Option (Own×(Own->Loc×Mem))
 | .d (.obj k)=>match μ[k]? with
   | some (.fdc _ _)=>none
   | some c=>some (c,fun c' => (δ,μ.set k c'))
   | none=>none
 | .d _=>none
 | .i j=>match δ[j]? with
   | some (some (.own c))=>some (c,fun c' => (δ.set j (some (.own c')),μ))
   | some (some (.fr (.obj k)))=>match μ[k]? with
     | some (.fdc _ _)=>none
     | some c=>some (c,fun c' => (δ,μ.set k c'))
     | none=>none
   | _=>none
theorem U3 {K:PySem.W.Frag} {mg:Str->Option Value} {Z F H:Hp} {ρ:List Addr} {μ:Mem} {δ:Loc} {σ:St} {v:V} {r:OR} {c:Own} {w:Own->Loc×Mem} (S:Sim K mg Z F ρ μ δ σ H) (h:OrR K mg F ρ σ v r) (e:recv δ μ r=some (c,w)) :
  ∃ p,v = .ref p/\OwnR K mg F ρ H p c/\∀ o c',OwnR K mg F ρ (upd H p o) p c'->Sim K mg Z F ρ (w c').2 (w c').1 σ (upd H p o):=by
 have mem:∀ {k:Nat},Rep K mg F ρ v (.obj k)->(match μ[k]? with | some (.fdc _ _)=>(none:Option (Own×(Own->Loc×Mem))) | some c=>some (c,fun c' => (δ,μ.set k c')) | none=>none)=some (c,w) ->
   ∃ p,v = .ref p/\OwnR K mg F ρ H p c/\∀ o c',OwnR K mg F ρ (upd H p o) p c'->Sim K mg Z F ρ (w c').2 (w c').1 σ (upd H p o):=by
  intro k hr he;cases hr with
  | @obj _ p hp =>
    cases em:μ[k]? with
    | none=>simp only [em] at he; cases he
    | some c0 =>
      obtain ⟨a,ea,_,_,r⟩:=S.mem k _ em;rw [hp] at ea; cases ea;cases c0 <;> first
       | (simp only [em] at he; cases he; exact ⟨p,rfl,r,fun o c' hc=>S.writeM em hp hc⟩)
       | (simp only [em] at he; cases he; done)
 cases r with
 | d d =>
   cases d <;> first | (cases e; done) | skip
   exact mem h e
 | i j =>
   have h':σ[j]?=some (some v):=h;unfold recv at e;cases ej:δ[j]? with
   | none=>simp only [ej] at e; cases e
   | some so =>
     cases so with
     | none=>simp only [ej] at e; cases e
     | some s =>
       obtain ⟨u,eu,rr⟩:=S.slot j s ej;rw [h'] at eu; cases eu;cases s with
       | own c0 =>
         simp only [ej] at e;cases e;obtain ⟨p,rfl,_,ro⟩:=rr;exact ⟨p,rfl,ro,fun o c' hc=>S.write ej h' hc⟩
       | fr d =>
         cases d <;> first | (simp only [ej] at e; cases e; done) | skip
         simp only [ej] at e;exact mem rr e
def Vl (T:String):Own->Bool
 | .lst _=>T == "list"
 | .dct _ _=>T == "dict"
 | .tab _ _=>false
 | .ins _ _ _ _=>false
 | .idc _=>false
 | .tpk _=>false
 | .fdc _ _=>false
def GA (X:Cx) (r:V->List V->Hp->VK->Prop) (g:Own->List D->Option (D×Own)):Prop:=∀ Z F ρ μ δ σ H p c xs ds d c' Q,Sim X.K X.mg Z F ρ μ δ σ H->OwnR X.K X.mg F ρ H p c->RepL X.K X.mg F ρ xs ds->g c ds=some (d,c') ->
 (∀ v o,Rep X.K X.mg F ρ v d->OwnR X.K X.mg F ρ (upd H p o) p c'->Q v (upd H p o))->r (.ref p) xs H Q
def VS (T:String) (g:Own->List D->Option (D×Own)) (o:Opn) (ms:List ME):ME:=fun δ μ=>(o.ev δ μ).bind fun r δ1 μ1=>match recv δ1 μ1 r with
 | some (c0,_)=>if Vl T c0=true then (XF ms δ1 μ1).bind fun ds δ2 μ2=>match recv δ2 μ2 r with
   | some (c,w)=>match g c ds with
     | some (d,c')=>.ok (.fr d) (w c').1 (w c').2
     | none=>.bad
   | none=>.bad
   else .bad
 | none=>.bad
theorem Gz {F H:Hp} {ρ:List Addr} {p:Addr} {c:Own} {T:String} (hT:T = "list") (h:OwnR X.K X.mg F ρ H p c) (e:Vl T c=true):tyV X.K T (.ref p) H:=by
 subst hT;cases c with
 | lst xs=>obtain ⟨vs,h,r⟩:=h; exact .inl ⟨rfl,vs,.of h⟩
 | dct ks xs =>
   have e':(("list" : String) == "dict")=true:=e;exact absurd e' (by decide)
 | tab P q=>cases e
 | ins c kd ks xs=>cases e
 | idc k=>cases e
 | tpk ks=>cases e
 | fdc ks xs=>cases e
theorem Lc {T:String} {r:V->List V->Hp->VK->Prop} {g:Own->List D->Option (D×Own)} {oo:Opn} {ms:List ME} (hT:T = "list") (hr:GA X r g):∀ σ H Q,Uw X W (VS T g oo ms) σ H Q->tBM X.K T r (Nh X W oo) (El X W ms) σ H Q:=by
 intro σ H Q ⟨Z,F,ρ,μ,δ,S,q⟩;refine ⟨Z,F,ρ,μ,δ,S,(FinE.bind q).imp fun ra δ1 μ1 H1 F1 ρ1 l lr S1 ⟨_,_,_,p⟩ x hx => ?_⟩;cases e0:recv δ1 μ1 ra with
 | none=>simp only [e0] at p; exact p.elim
 | some cw =>
   obtain ⟨c0,w0⟩:=cw;simp only [e0] at p;obtain ⟨pa,rfl,ow,_⟩:=U3 S1 hx e0;by_cases ht:Vl T c0=true
   ·rw [if_pos ht] at p
    refine ⟨Gz hT ow ht,Z,F1,ρ1,μ1,δ1,S1,p.bind.imp fun ds δ2 μ2 H2 F2 ρ2 l2 lr2 S2 ⟨_,_,_,p2⟩ xs hxs => ?_⟩;cases e1:recv δ2 μ2 ra with
    | none=>simp only [e1] at p2; exact p2.elim
    | some cw =>
      obtain ⟨c,w⟩:=cw;simp only [e1] at p2;cases eg:g c ds with
      | none=>simp only [eg] at p2; exact p2.elim
      | some dc =>
        obtain ⟨d,c'⟩:=dc;simp only [eg] at p2;obtain ⟨pa',ep,ow2,hw⟩:=U3 S2 (hx.up l2 lr2) e1;cases ep;exact hr Z F2 ρ2 μ2 δ2 σ H2 _ c xs ds d c' Q S2 ow2 hxs eg fun v o' rv ho=>p2 _ F2 ρ2 .refl .refl (hw o' c' ho) v ⟨rv,fun o p z=>by cases z⟩
   ·rw [if_neg ht] at p; exact p.elim
theorem JB {id:String} {name:Str} {r:V->List V->Hp->VK->Prop} {g:Own->List D->Option (D×Own)} {oo:Opn} {ms:List ME} (pa:PlainAttrs "list") (slot:PySem.Slot "list" name id) (hty:typeOf (.builtin id)=pure (.type "method_descriptor")) (hm:MtR X id r) (hr:GA X r g) (ho:JO X W o oo) (ha:JA X W (e :: es) ms)
  (hbase:attributeBase o name X.env (eval o X.env)=eval o X.env:=by rfl)
  (hfew:((backTo pos (starEach (e :: es) X.env)).all (fun x => !x.1)&&(backToKw pos (keywordEach [] X.env)).all (fun x=>x.1.isSome)
   && decide ((e :: es).length+([]:List Keyword).length+(if ([]:List Keyword).isEmpty then 0 else 1) < 30))=true:=by rfl)
  (hline:(apos.endLine == pos.line)=true:=by rfl) (hs:starEach (e :: es) X.env=(false,eval e X.env) :: starEach es X.env:=by rfl) (hplain:(backTo pos (starEach es X.env)).any (·.1)=false:=by rfl) :
  JE X W (.Call (.Attribute o name apos) (e :: es) [] pos) (VS "list" g oo ms) :=
 (pe_bm pa slot hty hm ho ha hbase hfew hline hs hplain).imp (Lc rfl hr)
def Zp:Own->List D->Option (D×Own)
 | .lst xs,[d]=>if xs.length < 16777216 then some (.non,.lst (xs++[d])) else none
 | _,_=>none
theorem RepL.single {F:Hp} {ρ:List Addr} {vs:List V} {d:D} (h:RepL X.K X.mg F ρ vs [d]):∃ v,vs=[v]/\Rep X.K X.mg F ρ v d:=by
 cases h with
 | cons h t=>cases t; exact ⟨_,rfl,h⟩
theorem Jz:GA X rAppend Zp:=by
 intro Z F ρ μ δ σ H p c xs ds d c' Q S ow rx e q;unfold Zp at e
 split at e
 ·rename_i ys d0
  by_cases hz:ys.length < 16777216
  ·rw [if_pos hz] at e
   cases e;obtain ⟨v,rfl,hv⟩:=rx.single;obtain ⟨vs,hH,r⟩:=ow;exact ⟨p,vs,v,rfl,rfl,hH,by rw [r.len,YM]; exact hz,q _ _ .non ⟨_,upd_same,r.app (.cons hv .nil)⟩⟩
  ·rw [if_neg hz] at e; cases e
 ·cases e
def AV (X:Cx) (t:TSet) (g:Own->D->D->Option Own):Prop:=∀ Z F ρ μ δ σ H p c i v di dv c' Q,Sim X.K X.mg Z F ρ μ δ σ H->OwnR X.K X.mg F ρ H p c->Bor X.K X.mg F ρ H i di->Rep X.K X.mg F ρ v dv->g c di dv=some c' ->
 (∀ o,OwnR X.K X.mg F ρ (upd H p o) p c'->Q (upd H p o))->t (.ref p) i v H Q
def XA (g:Own->D->D->Option Own) (oo oi:Opn) (m:ME):MS:=fun δ μ=>(m δ μ).thn fun s δ1 μ1=>(oo.ev δ1 μ1).thn fun r δ2 μ2=>(oi.ev δ2 μ2).thn fun ri δ3 μ3=>match recv δ3 μ3 r,ri.at δ3 μ3 with
 | some (c,w),some di=>match g c di s.d with
   | some c' => .nx (w c').1 (w c').2
   | none=>.bad
 | _,_=>.bad
theorem Gy {i:Expr} {spos:Pos} {t:TSet} {g:Own->D->D->Option Own} {oo oi:Opn} {m:ME} (hp:PSet X t) (hr:AV X t g) (he:JE X W e m) (ho:JO X W o oo) (hi:JO X W i oi)
  (ha:∀ v,assign (.Subscript o i spos) X.env v=(do
   let ov ← holding [v] (eval o X.env)
   let iv ← holding [v,ov] (eval i X.env)
   standAt spos
   holding [v,ov,iv] (setItem ov iv v)
   release [v,ov,iv] []):=by intro _; rfl)
  (hs:swapsWithSole [.Subscript o i spos] e pos.line X.env=pure false:=by rfl) (hw:swappedStores [.Subscript o i spos] e X.env=pure none:=by rfl)
  (h1:(assignEach [.Subscript o i spos] X.env).map (·.2)=[assign (.Subscript o i spos) X.env]:=by rfl):JS X W (.Assign [.Subscript o i spos] e pos) (XA g oo oi m):=by
 refine (ps_asg he.locked (L2.pg_sub ho hi hp ha) hs hw h1).imp fun E σ H ⟨Z,F,ρ,μ,δ,S,q⟩=>⟨Z,F,ρ,μ,δ,S,(FinS.thn q).imp fun s δ1 μ1 H1 F1 ρ1 l1 lr1 S1 ⟨_,p1⟩ v rv => ?_⟩;refine ⟨Z,F1,ρ1,μ1,δ1,S1,(FinS.thn p1).imp fun r δ2 μ2 H2 F2 ρ2 l2 lr2 S2 ⟨_,p2⟩ x hx => ?_⟩;refine ⟨Z,F2,ρ2,μ2,δ2,S2,(FinS.thn p2).imp fun ri δ3 μ3 H3 F3 ρ3 l3 lr3 S3 ⟨_,p3⟩ y hy => ?_⟩;cases e0:recv δ3 μ3 r with
 | none=>simp only [e0] at p3; exact p3.elim
 | some cw =>
   obtain ⟨c,w⟩:=cw;cases e1:ri.at δ3 μ3 with
   | none=>simp only [e0,e1] at p3; exact p3.elim
   | some di =>
     simp only [e0,e1] at p3;cases eg:g c di s.d with
     | none=>simp only [eg] at p3; exact p3.elim
     | some c' =>
       simp only [eg] at p3;obtain ⟨pa,rfl,ow,hw'⟩:=U3 S3 (hx.up l3 lr3) e0;exact hr Z F3 ρ3 μ3 δ3 σ H3 pa c y v di s.d c' _ S3 ow (hy.bor S3 e1) ((Rep.up l2.to lr2.to rv).up l3.to lr3.to) eg fun o' ho' => p3.nx (hw' o' c' ho')
def VE:Own->D->D->Option Own
 | .lst xs,.int k,d=>match ixN xs.length k with
   | some j=>some (.lst (xs.set j d))
   | none=>none
 | _,_,_=>none
theorem Df:AV X rSetL VE:=by
 intro Z F ρ μ δ σ H p c i v di dv c' Q S ow bi rv e q;unfold VE at e
 split at e
 ·rename_i xs k
  cases ej:ixN xs.length k with
  | none=>simp only [ej] at e; cases e
  | some j =>
    simp only [ej] at e;cases e;cases bi.int;obtain ⟨vs,hH,r⟩:=ow;exact ⟨p,vs,k,j,rfl,rfl,hH,by rw [r.len]; exact ej,q _ ⟨_,upd_same,r.set rv j⟩⟩
 ·cases e
end
end FL
namespace FL
open PySem PySem.Spec PyProof.Rows L2
structure RmG (k:Nat) (A:Around):Prop where
 r:Room k A
 g:A.guards=some []
theorem RmG.mono {j k:Nat} {A:Around} (r:RmG k A) (h:j<=k):RmG j A:=⟨r.r.mono h,r.g⟩
theorem RmG.deeper {k:Nat} {A:Around} (r:RmG (k+1) A) (env:Env):RmG k (A.deeper env):=⟨r.r.deeper env,r.g⟩
structure FnG (P:Program) (w:World) (K:PySem.W.Frag) (mg:Str->Option Value) (base:Heap) (Y:CXT) (k:Nat) (f:Addr) (fd:FuncData) (ps:List Str) (sp:Sp):Prop where
 len:∀ vs H Q E,sp vs H Q E->vs.length=ps.length
 run:∀ (A:Around) (outer:List Env) (s:Shared) (H:Hp) (args:Args) (us:List Value) (vs:List V) (Q:VK) (E:XK),RmG k A->Env0 P w K mg base A outer s H->BindsTo s fd args (ps.zip us)->Vals vs us->sp vs H Q E ->
  codeAny (model P w) A (.call (.ref f) args) (CR Y outer P w H s Q E) s
theorem FnG.mono {P:Program} {w:World} {K:PySem.W.Frag} {mg:Str->Option Value} {base:Heap} {Y:CXT} {j k:Nat} {f:Addr} {fd:FuncData} {ps:List Str} {sp:Sp} (h:FnG P w K mg base Y j f fd ps sp) (le:j<=k):FnG P w K mg base Y k f fd ps sp :=
 ⟨h.len,fun A outer s H args us vs Q E hr=>h.run A outer s H args us vs Q E (hr.mono le)⟩
structure Fd (K:PySem.W.Frag) (x qual:Str) (st:Stmt) (f:Addr) (fd:FuncData) (dV:Value):Prop where
 ex:∃ (oc:Value) (od:Option Addr) (kV doc pm:Value) (an:Option Addr) (cdv ct:Value) (osl:Array (Option Value)),
  fd=PySem.W.fnOf x qual (defArgs st) (defBody st) (defScope st) dV kV doc pm an cdv ct/\K.lookup f=some { cls:=oc,dict:=od,data:=.func fd,slots:=osl }/\PySem.W.codeIn K cdv qual=true
theorem De {Y:CXT} {P:Program} {w:World} {K:PySem.W.Frag} {mg:Str->Option Value} {base:Heap} {k:Nat} {f:Addr} {x qual:Str} {st:Stmt} {fd:FuncData} {N ps:List Str} {sp:Sp} {dV:Value} (F:Fd K x qual st f fd dV) (S:FnScope N ps (defScope st))
  (len:∀ vs H Q E,sp vs H Q E->vs.length=ps.length)
  (hbody:∀ (cdv:Value) (A:Around) (outer:List Env) (s:Shared) (H:Hp) (vs:List V) (Q:VK) (E:XK),RmG k (A.deeper (envOfC qual (defScope st) s.heap.objs.size f cdv))->sp vs H Q E ->
   ∃ t,PSs (cxOf Y P w K mg base N qual (defScope st) f cdv A outer s H E) (defBody st) t/\t { nx:=fun _ H' => Q .non H',rt:=Q } (L2.start N vs) H):FnG P w K mg base Y (k+1) f fd ps sp:=by
 obtain ⟨oc,od,kV,doc,pm,an,cdv,ct,osl,rfl,lk,hcd⟩:=F.ex;refine ⟨len,fun A outer s H args us vs Q E hr e0 hb r hsp => ?_⟩;have hlen:=len _ _ _ _ hsp;have Nk:K.In s.heap:=e0.mod.kin.keeps fun b o e=>(e0.bs b o e).1;have lim:s.heap.NoLimit:=e0.mod.nolimit.keeps fun b o e=>(e0.bs b o e).1;have kinds:∀ y∈ps.zip us,(defScope st).names.lookup y.1=some .local\/((defScope st).names.lookup y.1=some .cell/\((cellsFrom (s.heap.objs.size+1) (defScope st).names []).lookup y.1).isSome=true):=fun ⟨n,u⟩ hy=>by
  rcases S.par n (List.of_mem_zip hy).1 with q | q
  ·exact Or.inl q
  ·exact Or.inr ⟨q,PySem.W.cellsFrom_some _ _ _ (Or.inl q)⟩
 refine codeAny_call_function hr.r.depth (Nk _ _ lk) rfl S.co S.gen rfl (PySem.W.codeRec_of Nk hcd) (hb _ _ _ _ ?_);refine wpAny_newFunctionEnv_cells S.kind kinds fun env eenv s1 xx => ?_;subst eenv;refine ⟨lim.keeps xx.toInCall.keep,codeAny_func ?_⟩;obtain ⟨t,ht,hq⟩:=hbody cdv A outer s H vs Q E (hr.deeper _) hsp;have I:Inv (cxOf Y P w K mg base N qual (defScope st) f cdv A outer s H E) [] (L2.start N vs) H s1:=inv_start S hr.r.hd e0 hlen r xx;refine wpAny_mono (ht.run [] s1 (L2.start N vs) H _ I hq) (fun fl s' hs => ?_) fun e s' hs=>hs;cases fl with
 | ret u =>
   obtain ⟨v,σ',H',J,rv,q⟩:=hs;exact ⟨v,H',J.os,J.bare,J.base,J.hok,rv,q⟩
 | next =>
   obtain ⟨σ',H',J,q⟩:=hs;exact ⟨.non,H',J.os,J.bare,J.base,J.hok,rfl,q⟩
 | brk =>
   obtain ⟨_,_,_,z⟩:=hs;exact z.elim
 | cont =>
   obtain ⟨_,_,_,z⟩:=hs;exact z.elim
inductive OutF where
 | ok (s:Slot) (μ:Mem)
 | exc (x:Exc) (μ:Mem)
 | bad
abbrev MF:=List D->Mem->OutF
def ZZ (n:Nat) (ds:List D):Loc:=ds.map (fun d=>some (.fr d))++List.replicate (n - ds.length) none
def OutS.fin (r:OutS):OutF:=match r with
 | .nx _ μ=>.ok (.fr .non) μ
 | .rt s μ=>.ok s μ
 | .exc x _ μ=>.exc x μ
 | _=>.bad
theorem sealed {α:Type} (a:α):∃ r:α,r=a:=⟨a,rfl⟩
def Zu (n:Nat) (m:MS):MF:=Classical.choose (sealed fun ds μ=>(m (ZZ n ds) μ).fin)
theorem WO {n:Nat} {m:MS} {ds:List D} {μ:Mem}:Zu n m ds μ=(m (ZZ n ds) μ).fin:=congrFun (congrFun (Classical.choose_spec (sealed fun ds μ=>(m (ZZ n ds) μ).fin)) ds) μ
section
variable (K : PySem.W.Frag) (mg : Str -> Option Value)
def FinF (Z F:Hp) (ρ:List Addr) (Q:VK) (E:XK):OutF->Prop
 | .ok s μ => ∀ v H' F' ρ',Le Z F F'->LeR Z ρ ρ'->Sim K mg Z F' ρ' μ [] [] H'->RG K mg Z F' ρ' H' v s->Q v H'
 | .exc x μ => ∀ c d H' F' ρ',Le Z F F'->LeR Z ρ ρ'->Sim K mg Z F' ρ' μ [] [] H'->ExcR K mg F' ρ' c d x->E c d H'
 | .bad=>False
def spM (m:MF) (n:Nat):Sp:=fun vs H Q E=>vs.length=n/\∃ Z F ρ μ ds,Sim K mg Z F ρ μ [] [] H/\RepL K mg F ρ vs ds/\FinF K mg Z F ρ Q E (m ds μ)
end
theorem Lb {N:List Str} {vs:List V} {i:Nat} (hi:i < vs.length):(L2.start N vs)[i]?=some (vs[i]?):=by
 unfold L2.start;rw [List.getElem?_append_left (by simpa using hi),List.getElem?_map];rw [List.getElem?_eq_getElem hi]; rfl
theorem Sim.begin {K:PySem.W.Frag} {mg:Str->Option Value} {Z F H:Hp} {ρ:List Addr} {μ:Mem} {N:List Str} {vs:List V} {ds:List D} (S:Sim K mg Z F ρ μ [] [] H) (r:RepL K mg F ρ vs ds):Sim K mg Z F ρ μ (ZZ N.length ds) (L2.start N vs) H:=by
 have hl:=r.len;have none_own:∀ (i:Nat) c,(ZZ N.length ds)[i]?≠some (some (.own c)):=by
  intro i c h;unfold ZZ at h;by_cases hi:i < ds.length
  ·rw [List.getElem?_append_left (by simpa using hi),List.getElem?_map,List.getElem?_eq_getElem hi] at h
   cases h
  ·rw [List.getElem?_append_right (by simpa using hi),List.getElem?_replicate] at h
   split at h <;> cases h
 refine ⟨S.le,S.zk,?_,fun i s e => ?_,fun i j p s s' e=>absurd e (none_own i s),S.mem,S.mlen,S.nod⟩
 ·unfold L2.start ZZ
  rw [List.length_append,List.length_append,List.length_map,List.length_map,List.length_replicate,List.length_replicate,hl]
 ·by_cases hi:i < ds.length
  ·have hv:i < vs.length:=by rw [hl]; exact hi
   unfold ZZ at e;rw [List.getElem?_append_left (by simpa using hi),List.getElem?_map,List.getElem?_eq_getElem hi] at e;cases e;obtain ⟨v,ev,rv⟩:=r.get (List.getElem?_eq_getElem hi);exact ⟨v,by rw [Lb hv,ev],rv⟩
  ·unfold ZZ at e
   rw [List.getElem?_append_right (by simpa using hi),List.getElem?_replicate] at e
   split at e <;> cases e
structure Cs (X:Cx) (W:WX) (k:Nat) (N:List Str) (sc:Scope):Prop where
 calm:X.calm=true
 rm:RmG k X.A
 tk:Takes X W
 hN:X.N=N
 hsc:X.env.scope=sc
 nd:N.Nodup
structure Cd (X:Cx) (W:WX) (k:Nat) (N:List Str) (sc:Scope):Prop extends Cs X W k N sc where
 hp:PassesOwn (model X.prog X.w) X.A X.env X.xe
 fn:∀ x,L2.Loc X.env.scope x->X.fn x=true
theorem AU {P:Program} {w:World} {K:PySem.W.Frag} {mg:Str->Option Value} {base:Heap} {k n:Nat} {f:Addr} {x qual:Str} {st:Stmt} {fd:FuncData} {N ps:List Str} {m:MS} {dV:Value} (F:Fd K x qual st f fd dV) (S:FnScope N ps (defScope st)) (hn:ps.length=n)
  (hbody:∀ (X:Cx) (W:WX),X.prog=P->X.w=w->X.K=K->X.mg=mg->X.base=base->Cd X W k N (defScope st)->L' X W (defBody st) m):FnG P w K mg base (L2.CX P w) (k+1) f fd ps (spM K mg (Zu N.length m) n):=by
 subst hn;refine De F S (fun vs H Q E h=>h.1) (fun cdv A outer s H vs Q E hr h => ?_);obtain ⟨hl,Z,F0,ρ,μ,ds,S0,r,q⟩:=h;refine ⟨_,hbody (cxOf (L2.CX P w) P w K mg base N qual (defScope st) f cdv A outer s H E) (fun c d _ H=>E c d H) rfl rfl rfl rfl rfl ⟨⟨rfl,hr,takes_of rfl rfl rfl rfl,rfl,rfl,S.nd⟩,passes_of rfl,fun _ _=>rfl⟩,?_⟩;refine ⟨Z,F0,ρ,μ,_,S0.begin r,?_⟩;rw [WO] at q;generalize m (ZZ N.length ds) μ=o at q;cases o with
 | nx δ μ' => exact fun σ' H' F' ρ' l lr S' => q .non H' F' ρ' l lr S'.drop .non
 | rt s μ' => exact fun v H' F' ρ' l lr S' rv=>q v H' F' ρ' l lr S' rv
 | bk δ μ' => exact q.elim
 | ct δ μ' => exact q.elim
 | exc x δ μ' => exact fun c d σ' H' F' ρ' l lr S' er=>q c d H' F' ρ' l lr S'.drop er
 | bad=>exact q
section
variable {X : Cx} {W : WX} {k j : Nat} {N : List Str} {sc : Scope} {e : Expr} {es : List Expr} {pos p : Pos} {f : Addr} {fd : FuncData} {ps : List Str} {x : Str}
def ZX (m:MF) (ms:List ME) (dds:List D):ME:=fun δ μ=>(XF ms δ μ).bind fun ds δ1 μ1=>match m (ds++dds) μ1 with
 | .ok s μ2=>.ok s δ1 μ2
 | .exc x μ2=>.exc x δ1 μ2
 | .bad=>.bad
structure Fu (P:Program) (w:World) (K:PySem.W.Frag) (mg:Str->Option Value) (base:Heap) (k:Nat) (x:Str) (m:MF) (n:Nat) (dds:List D):Prop where
 ex:∃ (f:Addr) (fd:FuncData) (ps:List Str) (ds:List Value) (dvs:List V),FnG P w K mg base (L2.CX P w) k f fd ps (spM K mg m n)/\mg x=some (.ref f)/\PySem.W.keepIn K (.ref f)=true/\Binds K fd ps ds/\Vals dvs ds/\∀ F ρ,RepL K mg F ρ dvs dds
abbrev uF (X:Cx) (k:Nat) (x:Str) (m:MF) (n:Nat) (dds:List D):Prop:=Fu X.prog X.w X.K X.mg X.base k x m n dds
theorem T7:∀ {ms:List ME} {δ:Loc} {μ:Mem} {ds:List D} {δ':Loc} {μ':Mem},XF ms δ μ = .ok ds δ' μ'->ms.length=ds.length:=by
 intro ms
 induction ms with
 | nil=>intro δ μ ds δ' μ' e; cases e; rfl
 | cons m ms ih =>
   intro δ μ ds δ' μ' e;have e:((m δ μ).bind fun s δ1 μ1=>(XF ms δ1 μ1).bind fun ds δ2 μ2=>Out.ok (s.d :: ds) δ2 μ2) = .ok ds δ' μ':=e;cases em:m δ μ with
   | ok s δ1 μ1 =>
     rw [em] at e;have e:((XF ms δ1 μ1).bind fun ds δ2 μ2=>Out.ok (s.d :: ds) δ2 μ2) = .ok ds δ' μ':=e;cases er:XF ms δ1 μ1 with
     | ok ds2 δ2 μ2 =>
       rw [er] at e;cases e;rw [List.length_cons,List.length_cons,ih er]
     | exc x δ2 μ2=>rw [er] at e; cases e
     | bad=>rw [er] at e; cases e
   | exc x δ1 μ1=>rw [em] at e; cases e
   | bad=>rw [em] at e; cases e
theorem Jy {m:MF} {n:Nat} {dds:List D} {ms:List ME} {dvs:List V} (hdd:∀ F ρ,RepL X.K X.mg F ρ dvs dds) (hn:∀ ds,ms.length=ds.length->(ds++dds).length=n):∀ σ H Q,Uw X W (ZX m ms dds) σ H Q->tCallSD (spM X.K X.mg m n) dvs (WE W) (El X W ms) σ H Q:=by
 intro σ H Q ⟨Z,F,ρ,μ,δ,S,q⟩;refine ⟨Z,F,ρ,μ,δ,S,?_⟩;cases ea:XF ms δ μ with
 | bad=>unfold ZX at q; rw [ea] at q; exact q
 | exc x δ1 μ1=>unfold ZX at q; rw [ea] at q; exact q
 | ok ds δ1 μ1 =>
   unfold ZX at q;rw [ea,Out.bind_ok] at q;intro H1 F1 ρ1 l1 lr1 S1 vs hv;have q1:=q.mono l1 lr1;have hvd:=hv.app (hdd F1 ρ1);refine ⟨by rw [hvd.len]; exact hn ds (T7 ea),zone Z H1 δ1 σ,F1,ρ1,μ1,ds++dds,S1.enter,hvd,?_⟩;generalize m (ds++dds) μ1=o at q1;cases o with
   | ok s μ2=>exact fun v H' F' ρ' l lr S' rv=>q1 H' F' ρ' (S1.leLeave l) (S1.leRLeave lr) (S1.leave S' l lr) v (S1.came rv)
   | exc x μ2=>exact fun c d H' F' ρ' l lr S' er=>q1 c d H' F' ρ' (S1.leLeave l) (S1.leRLeave lr) (S1.leave S' l lr) er
   | bad=>exact q1
theorem Ti {Y:CXT} {sp:Sp} {dvs:List V} {ds:List Value} {E:L2.St->XK} {pins:List (Addr×Obj)} {σ:L2.St} {H:Hp} {s:Shared} {Q:VK} {us:List Value} {vs:List V} (F:FnG X.prog X.w X.K X.mg X.base Y j f fd ps sp) (hr:RmG j X.A) (hb:Binds X.K fd ps ds) (hd:Vals dvs ds) (hx:PassesAt Y X σ (E σ))
  (I:Inv X pins σ H s) (r:Vals vs us) (h:sp (vs++dvs) H Q (E σ)):wpAny (model X.prog X.w) X.A (call (.ref f) us) (EP X pins σ Q) X.xe s:=by
 have r':Vals (vs++dvs) (us++ds):=r.append hd;have hlen:(us++ds).length=ps.length:=by rw [← r'.length]; exact F.len _ _ _ _ h
 refine wpAny_call (codeAny_mono (F.run X.A X.stack s H ⟨us,[]⟩ _ _ Q (E σ) hr I.env0 (hb s us I.kIn hlen) r' h) fun res s' hq => ?_);cases res with
 | error e=>exact hx pins H s e s' I hq
 | ok fl =>
   cases fl with
   | ret u=>exact I.after hq
   | next=>exact False.elim hq
   | brk=>exact False.elim hq
   | cont=>exact False.elim hq
theorem Jx {Y:CXT} {sp:Sp} {dvs:List V} {ds:List Value} {E:L2.St->XK} {t:TA} (F:FnG X.prog X.w X.K X.mg X.base Y j f fd ps sp) (hr:RmG j X.A) (hg:Gl X x) (hm:X.mg x=some (.ref f)) (hk:PySem.W.keepIn X.K (.ref f)=true) (hb:Binds X.K fd ps ds) (hd:Vals dvs ds) (hx:∀ σ,PassesAt Y X σ (E σ))
  (ha:PA X (e :: es) t) (hdb:(x == ("__debug__" : Str))=false) (he:starEach (e :: es) X.env=(false,eval e X.env) :: starEach es X.env) (hpl:(backTo pos (starEach es X.env)).any (·.1)=false) :
  PE X (.Call (.Name x p) (e :: es) [] pos) (tCallSD sp dvs E t) :=
 ⟨fun pins s σ H Q I h=>wpAny_Call_Name_kw (ld_glob I hg hm (PySem.W.callWith_K (h₀:=X.base) I.ok.mod.kin hk (thn (ha.run pos pins s σ H _ I h) fun us s1 ⟨vs,H1,I1,r,q⟩=>⟨I1.kIn,Ti F hr hb hd (hx σ) I1 r q⟩) he hpl) hdb)⟩
def Th (sc:Scope) (x:Str):Bool:=decide (sc.names.lookup x=some .globalImplicit) && !(x == ("__debug__" : Str)) && !decide (x = "__name__")
theorem Cs.gl (C:Cs X W k N sc) (h:Th sc x=true):Gl X x/\(x == ("__debug__" : Str))=false/\x ≠ "__name__":=by
 unfold Th at h;simp only [Bool.and_eq_true,Bool.not_eq_true',decide_eq_true_eq,decide_eq_false_iff_not] at h;refine ⟨?_,h.1.2,h.2⟩
 show X.env.scope.names.lookup x=_;rw [C.hsc]; exact h.1.1
theorem Gx {m:MF} {n:Nat} {dds:List D} {ms:List ME} (C:Cs X W k N sc) (F:uF X j x m n dds) (hjk:j<=k) (hg:Th sc x=true) (ha:JA X W (e :: es) ms) (hn:ms.length+dds.length=n)
  (he:starEach (e :: es) X.env=(false,eval e X.env) :: starEach es X.env:=by rfl) (hpl:(backTo pos (starEach es X.env)).any (·.1)=false:=by rfl):JE X W (.Call (.Name x p) (e :: es) [] pos) (ZX m ms dds):=by
 obtain ⟨f,fd,ps,ds,dvs,F,hm,hk,hb,hd,hdd⟩:=F.ex;obtain ⟨g1,g2,g3⟩:=C.gl hg;exact (Jx F (C.rm.mono hjk) g1 hm hk hb hd (passAt C.tk) ha g2 he hpl).imp (Jy (ms:=ms) hdd fun ds hl=>by rw [List.length_append]; omega)
def RD (N:List Str) (sc:Scope) (i:Nat) (x:Str):Bool:=decide (N[i]?=some x)&&(decide (sc.names.lookup x=some .local)||(decide (sc.names.lookup x=some .cell)||decide (sc.names.lookup x=some .free))) && !(x == ("__debug__" : Str)) && !(x == ("__classdict__" : Str))
theorem Cs.var {i:Nat} (C:Cs X W k N sc) (h:RD N sc i x=true):PE X (.Name x p) (tVar i):=by
 unfold RD at h;simp only [Bool.and_eq_true,Bool.not_eq_true',decide_eq_true_eq,Bool.or_eq_true] at h;obtain ⟨⟨⟨h1,h2⟩,h3⟩,h4⟩:=h;refine pe_var (by rw [C.hN]; exact h1) ?_ h3 h4
 show X.env.scope.names.lookup x=_\/X.env.scope.names.lookup x=_\/X.env.scope.names.lookup x=_;rw [C.hsc]; exact h2
theorem Cs.v {i:Nat} (C:Cs X W k N sc) (h:RD N sc i x=true):JE X W (.Name x p) (mV i):=xN (C.var h)
theorem Cs.ov {i:Nat} (C:Cs X W k N sc) (h:RD N sc i x=true):JO X W (.Name x p) (.v i):=xO (C.var h)
def OF (N:List Str) (sc:Scope) (i:Nat) (x:Str):Bool:=decide (N[i]?=some x)&&(decide (sc.names.lookup x=some .local)||decide (sc.names.lookup x=some .cell))
theorem Cd.loc {i:Nat} (C:Cd X W k N sc) (h:OF N sc i x=true):X.N.Nodup/\X.N[i]?=some x/\L2.Loc X.env.scope x:=by
 unfold OF at h;simp only [Bool.and_eq_true,decide_eq_true_eq,Bool.or_eq_true] at h;refine ⟨by rw [C.hN]; exact C.nd,by rw [C.hN]; exact h.1,?_⟩
 show X.env.scope.names.lookup x=_\/X.env.scope.names.lookup x=_;rw [C.hsc]; exact h.2
theorem Cd.set {i:Nat} {m:ME} {pos':Pos} (C:Cd X W k N sc) (h:OF N sc i x=true) (he:JE X W e m) (hs:swapsWith e (some (.Name x pos')) pos.line X.env=pure false:=by rfl):JS X W (.Assign [.Name x pos'] e pos) (ZK i m) :=
 let ⟨a,b,c⟩:=C.loc h
 Di a b c he hs (.inl (C.fn x c))
theorem Cd.tg {i:Nat} (C:Cd X W k N sc) (h:OF N sc i x=true):JG X (.Name x pos) (Zq i) [i] :=
 let ⟨a,b,c⟩:=C.loc h
 AX a b c (.inl (C.fn x c))
def P2 (N:List Str) (sc:Scope) (i:Nat) (x:Str):Bool:=decide (N[i]?=some x)&&decide (sc.names.lookup x=some .local)
theorem Cs.own {i:Nat} (C:Cs X W k N sc) (h:P2 N sc i x=true):X.N.Nodup/\X.N[i]?=some x/\X.env.scope.names.lookup x=some .local:=by
 unfold P2 at h;simp only [Bool.and_eq_true,decide_eq_true_eq] at h;exact ⟨by rw [C.hN]; exact C.nd,by rw [C.hN]; exact h.1,by rw [C.hsc]; exact h.2⟩
theorem Cs.tg {i:Nat} (C:Cs X W k N sc) (h:P2 N sc i x=true):JG X (.Name x pos) (Zq i) [i] :=
 let ⟨a,b,c⟩:=C.own h
 AX a b (.inl c) (.inr c)
theorem Cs.blk (C:Cs X W k N sc) (scope:Scope) (s:Shared) (H:Hp) (c:Addr) (cl:List (Str×Addr)) (fp:List Addr):Cs (X.blk s H scope (compEnvC scope cl c X.env) fp) W0 k N (relS scope sc) :=
 ⟨C.calm,C.rm,fun _ _ ⟨_,_,_,_,_,_,_,_,_,_,_,_,_,_,_,_,z⟩=>z.elim,C.hN,by
  show relabel scope X.env=relS scope sc;rw [← C.hsc]; rfl,C.nd⟩
theorem Cs.lc {elt tg iter:Expr} {ifs:List Expr} {scope:Scope} {mi:MM (List D)} {f:VY} {is:List Nat} {tests:MT} {m:ME} {Tx:Program->World->PySem.W.Frag->(Str->Option Value)->Heap->Prop} (C:Cs X W k N sc) (T:Tx X.prog X.w X.K X.mg X.base) (own:List (Str×Nat)) (hi:JI X W tg iter mi) (ok:blkC N sc scope own=true)
  (hb:∀ (Y:Cx),Tx Y.prog Y.w Y.K Y.mg Y.base->Cs Y W0 k N (relS scope sc)->JG Y tg f is/\G3 Y W0 ifs tests/\JE Y W0 elt m) (hsub:(is.all fun j=>(own.map (·.2)).contains j)=true) (hs:∀ x,foldedSetIterable iter X.env x=pure x:=by intro _; rfl) :
  JE X W (.ListComp elt [⟨tg,iter,ifs,0⟩] scope pos) (Tj mi f tests m (own.map (·.2))) :=
 AW C.calm (by rw [C.hN]; exact C.nd) hi (by rw [C.hN,C.hsc]; exact blkOk_by ok) (fun s H c cl fp=>(hb (X.blk s H scope (compEnvC scope cl c X.env) fp) T (C.blk scope s H c cl fp)).1) (fun s H c cl fp=>(hb (X.blk s H scope (compEnvC scope cl c X.env) fp) T (C.blk scope s H c cl fp)).2.1)
  (fun s H c cl fp=>(hb (X.blk s H scope (compEnvC scope cl c X.env) fp) T (C.blk scope s H c cl fp)).2.2) (fun j hj=>by simpa using List.all_eq_true.mp hsub j hj) hs
theorem Cs.setLc {i:Nat} {y:Str} {py:Pos} {elt tg iter:Expr} {ifs:List Expr} {scope:Scope} {spos:Pos} {mi:MM (List D)} {f:VY} {is:List Nat} {tests:MT} {m:ME} {Tx:Program->World->PySem.W.Frag->(Str->Option Value)->Heap->Prop} (C:Cs X W k N sc) (T:Tx X.prog X.w X.K X.mg X.base) (own:List (Str×Nat)) (hy:P2 N sc i y=true)
  (hl:(py.line == pos.line)=true) (hl2:spos.line=pos.line) (hk:sc.kind = .function) (hna:(scope.names.any fun (n,k)=>n == y&&(k == .local||k == .cell))=false)
  (hi:JI X W tg iter mi) (ok:blkC N sc scope own=true)
  (hb:∀ (Y:Cx),Tx Y.prog Y.w Y.K Y.mg Y.base->Cs Y W0 k N (relS scope sc)->JG Y tg f is/\G3 Y W0 ifs tests/\JE Y W0 elt m) (hsub:(is.all fun j=>(own.map (·.2)).contains j)=true) (hs:∀ x,foldedSetIterable iter X.env x=pure x:=by intro _; rfl) :
  JS X W (.Assign [.Name y py] (.ListComp elt [⟨tg,iter,ifs,0⟩] scope pos) spos) (ZK i (Tj mi f tests m (own.map (·.2)))) :=
 let ⟨a,b,c⟩:=C.own hy
 JF C.calm a b c (sw_true (by rw [C.hsc]; exact hk) c hl hna) hi (by rw [C.hN,C.hsc]; exact blkOk_by ok) (fun s H c cl fp=>(hb (X.blk s H scope (compEnvC scope cl c X.env) fp) T (C.blk scope s H c cl fp)).1) (fun s H c cl fp=>(hb (X.blk s H scope (compEnvC scope cl c X.env) fp) T (C.blk scope s H c cl fp)).2.1)
  (fun s H c cl fp=>(hb (X.blk s H scope (compEnvC scope cl c X.env) fp) T (C.blk scope s H c cl fp)).2.2) (fun j hj=>by simpa using List.all_eq_true.mp hsub j hj) hs
end
end FL
namespace FL
open PySem PySem.Spec PyProof.Rows L2
def VD:D->D->Option Slot:=fun x y=>(Lk x y).or (Dy x y)
abbrev D9:R2:=fun x y H Q=>rI CMulW (fun i j=>.int (i * j)) x y H Q\/rRep x y H Q
section
variable {X : Cx} {W : WX} {k j : Nat} {N : List Str} {sc : Scope} {a b c e o : Expr} {es : List Expr} {pos p apos : Pos} {x : Str} {oa ob : Opn}
theorem Dd:OpR X (binaryOp .Mult) D9:=op_mulW.or op_rep
theorem C_:R2J X D9 VD:=R2J.or DC Bi
theorem Cs.hu (C:Cs X W k N sc):X.A.units+64 < cLine:=by have:=C.rm.r.un; omega
theorem WC (ha:JO X W a oa) (hb:JO X W b ob):JE X W (.BinOp a .Add b pos) (m2 ZP oa ob):=Tt Bk Bj ha hb
theorem Jw (ha:JO X W a oa) (hb:JO X W b ob):JE X W (.BinOp a .Sub b pos) (m2 gSub oa ob):=Tt Br Bq ha hb
theorem C9 (ha:JO X W a oa) (hb:JO X W b ob):JE X W (.BinOp a .Mult b pos) (m2 VD oa ob):=Tt Dd C_ ha hb
theorem C7 (ha:JO X W a oa) (hb:JO X W b ob):JE X W (.BinOp a .FloorDiv b pos) (m2 Tp oa ob):=Tt op_fdivW Bp ha hb
theorem La (ha:JO X W a oa) (hb:JO X W b ob):JE X W (.BinOp a .Mod b pos) (m2 VW oa ob):=Tt op_mod Bn ha hb
theorem C6 (ha:JO X W a oa) (hb:JO X W b ob):JE X W (.BinOp a .Pow b pos) (m2 Sd oa ob):=Tt op_pow Bm ha hb
theorem zq (ha:JO X W a oa) (hb:JO X W b ob):JE X W (.Compare a [.LtE] [b] pos) (m2 Tv oa ob):=P_ Nd Nc ha hb (nomark _)
theorem Cs.eq (C:Cs X W k N sc) (ha:JO X W a oa) (hb:JO X W b ob):JE X W (.Compare a [.Eq] [b] pos) (m2 (YC false) oa ob):=P_ (Dv C.hu) Du ha hb (nomark _)
theorem zp (ha:JO X W a oa) (hb:JO X W b ob) (hm:behindInMarks .In b=false:=by rfl):JE X W (.Compare a [.In] [b] pos) (m2 (To false) oa ob):=P_ A4 (Ds false) ha hb hm
theorem C5 (ha:JO X W a oa) (hb:JO X W b ob):JE X W (.Compare a [.Is] [b] pos) (m2 (WT false) oa ob):=P_ Ed (Ee false) ha hb (nomark _)
theorem xr (ha:JO X W a oa) (hb:JO X W b ob):JT X W (.Compare a [.Lt] [b] pos) (ZN (m2 Nl oa ob)):=WV Bc Bb ha hb (nomark _)
theorem tq (ha:JO X W a oa) (hb:JO X W b ob):JT X W (.Compare a [.Gt] [b] pos) (ZN (m2 Dw oa ob)):=WV xG xD ha hb (nomark _)
theorem tn (ha:JO X W a oa) (hb:JO X W b ob):JT X W (.Compare a [.GtE] [b] pos) (ZN (m2 Eh oa ob)):=WV xF xC ha hb (nomark _)
theorem Cs.eqT (C:Cs X W k N sc) (ha:JO X W a oa) (hb:JO X W b ob):JT X W (.Compare a [.Eq] [b] pos) (ZN (m2 (YC false) oa ob)):=WV (Dv C.hu) Du ha hb (nomark _)
theorem Cs.neT (C:Cs X W k N sc) (ha:JO X W a oa) (hb:JO X W b ob):JT X W (.Compare a [.NotEq] [b] pos) (ZN (m2 (YC true) oa ob)):=WV (A_ C.hu) A8 ha hb (nomark _)
theorem tm (ha:JO X W a oa) (hb:JO X W b ob) (hm:behindInMarks .In b=false:=by rfl):JT X W (.Compare a [.In] [b] pos) (ZN (m2 (To false) oa ob)):=WV A4 (Ds false) ha hb hm
theorem xq (ha:JO X W a oa) (hb:JO X W b ob) (hm:behindInMarks .NotIn b=false:=by rfl):JT X W (.Compare a [.NotIn] [b] pos) (ZN (m2 (To true) oa ob)):=WV A3 (Ds true) ha hb hm
theorem xp (ha:JO X W a oa) (hb:JO X W b ob):JT X W (.Compare a [.Is] [b] pos) (ZN (m2 (WT false) oa ob)):=WV Ed (Ee false) ha hb (nomark _)
theorem tj (ha:JO X W a oa) (hb:JO X W b ob) (hs:PlainIx b):JE X W (.Subscript a b pos) (m2 ZL oa ob):=Bs ix_seq xB ha hb hs
theorem Cs.bi {id:String} {r:List V->Hp->VK->Prop} {g:List D->Option Slot} {os:List Opn} (C:Cs X W k N sc) (h:Th sc x=true) (hm:X.mg x=none) (hv:bootBuiltins x=some (.builtin id)) (hc:CallR X (.builtin id) r) (hr:RLJ X r g) (ha:Ll X W (e :: es) os)
  (he:starEach (e :: es) X.env=(false,eval e X.env) :: starEach es X.env:=by rfl) (hpl:(backTo pos (starEach es X.env)).any (·.1)=false:=by rfl):JE X W (.Call (.Name x p) (e :: es) [] pos) (mC g os) :=
 let ⟨g1,g2,g3⟩:=C.gl h
 JR hc hr g1 hm hv ha g3 g2 he hpl
theorem Cs.bt {T:String} {r:List V->Hp->VK->Prop} {g:List D->Option Slot} {os:List Opn} (C:Cs X W k N sc) (h:Th sc x=true) (hm:X.mg x=none) (hv:bootBuiltins x=some (.type T)) (hc:CallR X (.type T) r) (hr:RLJ X r g) (ha:Ll X W (e :: es) os)
  (he:starEach (e :: es) X.env=(false,eval e X.env) :: starEach es X.env:=by rfl) (hpl:(backTo pos (starEach es X.env)).any (·.1)=false:=by rfl):JE X W (.Call (.Name x p) (e :: es) [] pos) (mC g os) :=
 let ⟨g1,g2,g3⟩:=C.gl h
 Li hc hr g1 hm hv ha g3 g2 he hpl
theorem Cs.ty {T:String} (C:Cs X W k N sc) (h:Th sc x=true) (hm:X.mg x=none) (hv:bootBuiltins x=some (.type T)):JE X W (.Name x pos) (mD (.ty T)) :=
 let ⟨g1,g2,g3⟩:=C.gl h
 A0 g1 hm hv g3 g2
theorem Cs.gInt {i:Int} (C:Cs X W k N sc) (h:Th sc x=true) (hm:∃ t,X.mg x=some (.int i t)):JE X W (.Name x pos) (mD (.int i)) :=
 let ⟨g1,g2,g3⟩:=C.gl h
 let ⟨t,hm⟩:=hm
 Nf g1 hm (v:=.int i) ⟨t,rfl⟩ (fun _ _=>.int) g2
theorem Cs.gStr {s:String} (C:Cs X W k N sc) (h:Th sc x=true) (hm:∃ t,X.mg x=some (.str (Str.ofString s) t)):JE X W (.Name x pos) (mD (.str (lit s))) :=
 let ⟨g1,g2,g3⟩:=C.gl h
 let ⟨t,hm⟩:=hm
 Nf g1 hm (v:=.str (Str.ofString s)) ⟨t,rfl⟩ (fun _ _=>by rw [U7]; exact .str) g2
def Vk (g g':D->D->Option Slot) (oa ob oc:Opn):ME:=fun δ μ=>(oa.ev δ μ).bind fun ra δ1 μ1=>(ob.ev δ1 μ1).bind fun rb δ2 μ2=>match ra.at δ2 μ2,rb.at δ2 μ2 with
 | some da,some db=>match g da db with
   | some (.fr (.bl true))=>(oc.ev δ2 μ2).bind fun rc δ3 μ3=>match rb.at δ3 μ3,rc.at δ3 μ3 with
     | some db',some dc=>lift (g' db' dc) δ3 μ3
     | _,_=>.bad
   | some (.fr (.bl false))=>.ok (.fr (.bl false)) δ2 μ2
   | _=>.bad
 | _,_=>.bad
theorem RC {r r':R2} {g g':D->D->Option Slot} {oc:Opn} (hr:R2J X r g) (hr':R2J X r' g'):∀ σ H Q,Uw X W (Vk g g' oa ob oc) σ H Q->tChain r r' (Nh X W oa) (Nh X W ob) (Nh X W oc) σ H Q:=by
 intro σ H Q ⟨Z,F,ρ,μ,δ,S,q⟩;refine ⟨Z,F,ρ,μ,δ,S,(FinE.bind q).imp fun ra δ1 μ1 H1 F1 ρ1 l1 lr1 S1 ⟨_,_,_,p1⟩ x hx => ?_⟩;refine ⟨Z,F1,ρ1,μ1,δ1,S1,p1.bind.imp fun rb δ2 μ2 H2 F2 ρ2 l2 lr2 S2 ⟨_,_,_,p2⟩ y hy => ?_⟩;cases ea:ra.at δ2 μ2 with
 | none=>simp only [ea] at p2; exact p2.elim
 | some da =>
   cases eb:rb.at δ2 μ2 with
   | none=>simp only [ea,eb] at p2; exact p2.elim
   | some db =>
     simp only [ea,eb] at p2;cases eg:g da db with
     | none=>simp only [eg] at p2; exact p2.elim
     | some s =>
       refine hr Z F2 ρ2 μ2 δ2 σ H2 x y da db s _ S2 ((hx.up l2 lr2).bor S2 ea) (hy.bor S2 eb) eg fun v H3 F3 l3 S3 vr => ?_;cases s with
       | own o=>simp only [eg] at p2; exact p2.elim
       | fr d =>
         cases d with
         | bl kk =>
           cases vr.r;refine ⟨kk,rfl,?_⟩;cases kk with
           | false =>
             simp only [eg] at p2;rw [if_neg Bool.false_ne_true];exact p2 H3 F3 ρ2 l3 .refl S3 _ .bl
           | true =>
             simp only [eg] at p2;rw [if_pos rfl];refine ⟨Z,F3,ρ2,μ2,δ2,S3,(p2.mono l3 .refl).bind.imp fun rc δ4 μ4 H4 F4 ρ4 l4 lr4 S4 ⟨_,_,_,p4⟩ w hw => ?_⟩;cases eb':rb.at δ4 μ4 with
             | none=>simp only [eb'] at p4; exact p4.elim
             | some db' =>
               cases ec:rc.at δ4 μ4 with
               | none=>simp only [eb',ec] at p4; exact p4.elim
               | some dc =>
                 simp only [eb',ec] at p4;unfold lift at p4;cases eg':g' db' dc with
                 | none=>simp only [eg'] at p4; exact p4.elim
                 | some s' =>
                   simp only [eg'] at p4;exact hr' Z F4 ρ4 μ4 δ4 σ H4 y w db' dc s' Q S4 (((hy.up l3 .refl).up l4 lr4).bor S4 eb') (hw.bor S4 ec) eg' fun v H' F' l' S' vr=>p4 H' F' ρ4 l' .refl S' v vr
         | _=>simp only [eg] at p2; exact p2.elim
theorem C4 {op op':CmpOp} {r r':R2} {g g':D->D->Option Slot} {oc:Opn} (ho:OpR X (compareOp op) r) (hr:R2J X r g) (ho':OpR X (compareOp op') r') (hr':R2J X r' g') (ha:JO X W a oa) (hb:JO X W b ob) (hc:JO X W c oc)
  (hm:lastMarks [op,op'] [b,c]=false:=by with_unfolding_all rfl):JE X W (.Compare a [op,op'] [b,c] pos) (Vk g g' oa ob oc):=(pe_chain ho ho' ha hb hc hm).imp (RC hr hr')
theorem C0 {op op':CmpOp} {r r':R2} {g g':D->D->Option Slot} {oc:Opn} (ho:OpR X (compareOp op) r) (hr:R2J X r g) (ho':OpR X (compareOp op') r') (hr':R2J X r' g') (ha:JO X W a oa) (hb:JO X W b ob) (hc:JO X W c oc)
  (hm:lastMarks [op,op'] [b,c]=false:=by with_unfolding_all rfl):JT X W (.Compare a [op,op'] [b,c] pos) (ZN (Vk g g' oa ob oc)):=(pt_chain ho ho' ha hb hc hm).imp (WW (RC hr hr'))
theorem Cs.par {i j:Nat} {x y:Str} {ma mb:ME} {px py pt:Pos} {kt k2 pt2} (C:Cs X W k N sc) (hi:P2 N sc i x=true) (hj:P2 N sc j y=true) (hij:i≠j) (ha:JE X W a ma) (hb:JE X W b mb)
  (hw:∀ env:Env,env.scope=sc->swappedStores [.Tuple [.Name x px,.Name y py] kt pt] (.Tuple [a,b] k2 pt2) env=pure (some [x,y]))
  (hs:swapsWithSole [.Tuple [.Name x px,.Name y py] kt pt] (.Tuple [a,b] k2 pt2) pos.line X.env=pure false:=by rfl)
  (h1:starEach [a,b] X.env=(false,eval a X.env) :: starEach [b] X.env:=by rfl) (h2:starEach [b] X.env=(false,eval b X.env) :: starEach [] X.env:=by rfl) :
  JS X W (.Assign [.Tuple [.Name x px,.Name y py] kt pt] (.Tuple [a,b] k2 pt2) pos) (UN i j ma mb) :=
 let ⟨n,i1,i2⟩:=C.own hi
 let ⟨_,j1,j2⟩:=C.own hj
 Dg C.calm n i1 j1 hij i2 j2 ha hb (hw X.env C.hsc) hs h1 h2
theorem CZ {oo:Opn} (ho:JO X W o oo) (hbase:attributeBase o "lower" X.env (eval o X.env)=eval o X.env:=by rfl) (hline:(apos.endLine == pos.line)=true:=by rfl):JE X W (.Call (.Attribute o "lower" apos) [] [] pos) (mM "str" Uv oo []) :=
 Dj PySem.F.plainAttrs_str PySem.F.slot_str_lower PySem.F.type_str_lower mt_lower GJ ho hbase hline
theorem T6 {ms:List ME} {oo:Opn} (ho:JO X W o oo) (ha:JA X W [e] ms) (hbase:attributeBase o "append" X.env (eval o X.env)=eval o X.env:=by rfl)
  (hline:(apos.endLine == pos.line)=true:=by rfl) (hs:starEach [e] X.env=(false,eval e X.env) :: starEach [] X.env:=by rfl)
  (hfew:((backTo pos (starEach [e] X.env)).all (fun x => !x.1)&&(backToKw pos (keywordEach [] X.env)).all (fun x=>x.1.isSome)
   && decide ([e].length+([]:List Keyword).length+(if ([]:List Keyword).isEmpty then 0 else 1) < 30))=true:=by rfl):JE X W (.Call (.Attribute o "append" apos) [e] [] pos) (VS "list" Zp oo ms) :=
 JB PySem.F.plainAttrs_list PySem.F.slot_list_append PySem.F.type_list_append mt_append Jz ho ha hbase hfew hline hs
theorem P1 {tg:Expr} {o:Opn} (C:Cs X W k N sc) (h:Th sc "range" = true) (hm:X.mg "range" = none) (ha:Ll X W [a] [o]) (hs:starEach [a] X.env=[(false,eval a X.env)]:=by rfl):JI X W tg (.Call (.Name "range" p) [a] [] pos) (Xv o) :=
 Lg (C.gl h).1 hm ha hs
theorem Gw {tg:Expr} {o o':Opn} (C:Cs X W k N sc) (h:Th sc "range" = true) (hm:X.mg "range" = none) (ha:Ll X W [a,b] [o,o']) (hs:starEach [a,b] X.env=[(false,eval a X.env),(false,eval b X.env)]:=by rfl) (hs2:starEach [b] X.env=[(false,eval b X.env)]:=by rfl):JI X W tg (.Call (.Name "range" p) [a,b] [] pos) (U5 o o') :=
 Lf (C.gl h).1 hm ha hs hs2
theorem Ut {lo hi:Option Expr} {p2:Pos} {oo:Opn} {ml mh:MM (Option Int)} (ho:JO X W e oo) (hl:JP X W lo ml) (hh:JP X W hi mh):JE X W (.Subscript e (.Slice lo hi none p2) pos) (QP UE oo ml mh):=JD GF GB ho hl hh
theorem Jv {i:Expr} {spos:Pos} {oo oi:Opn} {m:ME} (he:JE X W e m) (ho:JO X W o oo) (hi:JO X W i oi)
  (ha:∀ v,assign (.Subscript o i spos) X.env v=(do
   let ov ← holding [v] (eval o X.env)
   let iv ← holding [v,ov] (eval i X.env)
   standAt spos
   holding [v,ov,iv] (setItem ov iv v)
   release [v,ov,iv] []):=by intro _; rfl)
  (hs:swapsWithSole [.Subscript o i spos] e pos.line X.env=pure false:=by rfl) (hw:swappedStores [.Subscript o i spos] e X.env=pure none:=by rfl)
  (h1:(assignEach [.Subscript o i spos] X.env).map (·.2)=[assign (.Subscript o i spos) X.env]:=by rfl):JS X W (.Assign [.Subscript o i spos] e pos) (XA VE oo oi m) :=
 Gy set_list Df he ho hi ha hs hw h1
def Wm (m:ME):ME:=fun δ μ=>(m δ μ).bind fun s δ1 μ1=>match s with
 | .fr (.int i)=>.ok (.fr (.int (-i))) δ1 μ1
 | _=>.bad
theorem Tg {m:ME} (h:JE X W a m):JE X W (.UnaryOp .USub a pos) (Wm m):=by
 refine (pe_un un_neg h).imp fun σ H Q ⟨Z,F,ρ,μ,δ,S,q⟩=>⟨Z,F,ρ,μ,δ,S,(FinE.bind q).imp fun s δ1 μ1 H1 F1 ρ1 l lr S1 ⟨_,_,_,p⟩ v vr => ?_⟩;cases s with
 | own o=>exact p.elim
 | fr d =>
   cases d with
   | int i =>
     cases vr.r;exact ⟨i,rfl,p H1 F1 ρ1 .refl .refl S1 _ ⟨.int,fun o p z=>by cases z⟩⟩
   | _=>exact p.elim
end
theorem Fu.mk0 {P:Program} {w:World} {K:PySem.W.Frag} {mg:Str->Option Value} {base:Heap} {k n:Nat} {x:Str} {m:MF} {f:Addr} {fd:FuncData} {ps:List Str} (F:FnG P w K mg base (L2.CX P w) k f fd ps (spM K mg m n)) (hm:mg x=some (.ref f)) (hk:PySem.W.keepIn K (.ref f)=true)
  (hb:Binds K fd ps []):Fu P w K mg base k x m n []:=⟨f,fd,ps,[],[],F,hm,hk,hb,.nil,fun _ _=>.nil⟩
theorem Fd.binds {K:PySem.W.Frag} {x qual:Str} {st:Stmt} {f:Addr} {fd:FuncData} (F:Fd K x qual st f fd .none) {ps:List Str}
  (h:∀ (kV doc pm:Value) (an:Option Addr) (cdv ct:Value) (us:List Value),us.length=ps.length->bindArgs (PySem.W.fnOf x qual (defArgs st) (defBody st) (defScope st) .none kV doc pm an cdv ct) ⟨us,[]⟩=pure (ps.zip us)):Binds K fd ps []:=by
 obtain ⟨oc,od,kV,doc,pm,an,cdv,ct,osl,rfl,lk,hcd⟩:=F.ex;exact .all (h kV doc pm an cdv ct)
theorem AS {P:Program} {w:World} {K:PySem.W.Frag} {mg:Str->Option Value} {base:Heap} {k n:Nat} {f:Addr} {x qual:Str} {st:Stmt} {fd:FuncData} {N ps:List Str} {m:MS} {dV:Value} {sc:Scope} (F:Fd K x qual st f fd dV) (S:FnScope N ps sc) (hsc:defScope st=sc) (hn:ps.length=n)
  (hbody:∀ (X:Cx) (W:WX),X.prog=P->X.w=w->X.K=K->X.mg=mg->X.base=base->Cd X W k N sc->L' X W (defBody st) m):FnG P w K mg base (L2.CX P w) (k+1) f fd ps (spM K mg (Zu N.length m) n):=by
 subst hsc;exact AU F S hn hbody
end FL
namespace FL
open PySem PySem.Spec PyProof.Rows L2
abbrev WN (qual:Str) (scope:Scope) (L f:Addr) (cd:Value) (cc:Addr):Env:=PySem.W.ksEnv qual scope L f cd cc
def OE (P:Program) (w:World) (K:PySem.W.Frag) (mg:Str->Option Value) (base:Heap) (N:List Str) (qual:Str) (scope:Scope) (f:Addr) (cd:Value) (cc:Addr) (A:Around) (outer:List Env) (s:Shared) (H:Hp) (E:XK):Cx where
 prog:=P
 w:=w
 K:=K
 mg:=mg
 base:=base
 A:=A.deeper (WN qual scope s.heap.objs.size f cd cc)
 N:=N
 s_0:=s
 H_0:=H
 env:=WN qual scope s.heap.objs.size f cd cc
 outer:=outer
 stack:=WN qual scope s.heap.objs.size f cd cc :: outer
 ex:=[]
 calm:=true
 fn:=fun _=>false
 pn:=[]
 xe:=fun e s' => wpAny (model P w) (A.deeper (WN qual scope s.heap.objs.size f cd cc)) (leaving (WN qual scope s.heap.objs.size f cd cc) e) (fun _ s'' => L2.CX P w outer H s E e s'') (fun e' s'' => L2.CX P w outer H s E e' s'') s'
theorem Qv {P:Program} {w:World} {K:PySem.W.Frag} {mg:Str->Option Value} {base:Heap} {qual:Str} {scope:Scope} {f cc D:Addr} {cd:Value} {A:Around} {outer:List Env} {s:Shared} {H:Hp} {E:XK} {p0 p1:Str} {u0 u1:Value} {v0 v1:V} {h₁:Heap} {tk:Nat} {cl:Value} {cld:Option Addr} {csl:Array (Option Value)}
  (hk:scope.kind = .function) (hc:∀ y∈scope.names,y.2 ≠ .cell/\(y.2 = .free->y.1 = "__class__")) (h01:p0≠p1) (l0:scope.names.lookup p0=some .local) (l1:scope.names.lookup p1=some .local) (hd:A.handled=none) (e0:Env0 P w K mg base A outer s H)
  (hcell:K.lookup cc=some ⟨cl,cld,.cell (some (.ref D)),csl⟩) (r0:RelV v0 u0) (r1:RelV v1 u1) (hns:h₁.Ns s.heap.objs.size fun y=>([(p0,u0),(p1,u1)]:List (Str×Value)).reverse.lookup y) (kp:∀ b o,s.heap.get? b=some o->h₁.get? b=some o) :
  Inv (OE P w K mg base [p0,p1] qual scope f cd cc A outer s H E) [] [some v0,some v1] H { s with heap:=h₁,toks:=tk }:=by
 have noA:∀ b:Addr,b∉(OE P w K mg base [p0,p1] qual scope f cd cc A outer s H E).ex:=fun b z=>absurd (show b∈([]:List Addr) from z) (by simp);have look:∀ {y:Str} {c:Addr},([(("__class__" : Str),cc)]:List (Str×Addr)).lookup y=some c->y = "__class__" /\ c=cc:=fun {y c} e=>by
  rw [List.lookup_cons] at e;by_cases z:y = "__class__"
  ·subst z
   simp at e;exact ⟨rfl,e.symm⟩
  ·have:(y == ("__class__" : Str))=false:=by simpa using z
   rw [this] at e;cases e
 have hbase:=e0.mod.kin _ _ hcell;refine ⟨⟨e0.mod,hk,rfl,rfl,Nat.le_refl _,fun y z c e1 e2 => ?_,fun y hy => ?_,fun y c z _ => ?_,fun _=>hd,Around.frames_deeper e0.frames,.inr ⟨rfl,rfl⟩,fun b z=>absurd z (noA b),e0.bs,e0.bsz,fun b _ _=>noA b,fun b z=>absurd z (noA b),e0.funs,e0.frf⟩,
  rfl,e0.bare,Un.kept kp,⟨_,hns,fun i y v e1 e2 e3 => ?_⟩,fun y c e => ?_,e0.hok.fresh (Nat.le_refl _),fun y c e => ?_,fun q hq=>absurd (show q∈([]:List (Addr×Obj)) from hq) (by simp),e0.hok.kept kp,rfl⟩
 ·rw [(look e1).1,(look e2).1]
 ·have hy:scope.names.lookup y=some .cell\/scope.names.lookup y=some .free:=hy
  rcases hy with hy | hy
  ·exact absurd rfl (hc _ (PySem.mem_of_lookup hy)).1
  ·have e:=(hc _ (PySem.mem_of_lookup hy)).2 rfl
   have e:y = "__class__":=e;exact ⟨cc,by rw [e]; show ([(("__class__" : Str),cc)]:List (Str×Addr)).lookup ("__class__" : Str)=some cc; simp⟩
 ·have z:false=true:=z
  cases z
 ·match i,e1,e2 with
  | 0,e1,e2 =>
    cases e1;cases e2;refine ⟨u0,r0,.inl ⟨l0,?_⟩⟩
    show ([(p1,u1),(p0,u0)]:List (Str×Value)).lookup p0=some u0;rw [List.lookup_cons,show (p0 == p1)=false by simpa using h01];simp
  | 1,e1,e2 =>
    cases e1;cases e2;refine ⟨u1,r1,.inl ⟨l1,?_⟩⟩
    show ([(p1,u1),(p0,u0)]:List (Str×Value)).lookup p1=some u1;simp
  | i+2,e1,e2 =>
    have e1:([p0,p1]:List Str)[i+2]?=some y:=e1;simp at e1
 ·have e:([(("__class__" : Str),cc)]:List (Str×Addr)).lookup y=some c:=e
  rw [(look e).2];exact ⟨_,_,kp _ _ (e0.bs _ _ hbase).1,rfl⟩
 ·have e:([(("__class__" : Str),cc)]:List (Str×Addr)).lookup y=some c:=e
  rw [(look e).2];exact (e0.bs _ _ hbase).2
theorem Ju {X:Cx} {pins:List (Addr×Obj)} {σ:L2.St} {H:Hp} {s:Shared} {A:Around} {E:Value->Shared->Prop} {a C u:Addr} {us:List Value} {Q:Value->Shared->Prop} (T:OexC X.K C) (I:Inv X pins σ H s) (e:H a=some (exo a C none))
  (hu:s.heap.get? u=some (PySem.W.kxs_mw "ValueError.__init__" a)) (hl:us.length<=sizeLine) (h:∀ s',Inv X pins σ H s'->Q .none s'):wpAny (model X.prog X.w) A (call (.ref u) us) Q E s:=by
 obtain ⟨nm,q,N,bs,bm,sn,sub,ab,col,dd,k0,k1,k2,k3,k5,hC,hbm⟩:=T.cls;obtain ⟨t1,ho⟩:=exo_at I.hok e;obtain ⟨hp,g,d,t,os⟩:=s;refine wpAny_call (codeAny_of_tree ?_)
 show wpAny _ A.in1 (callAny (.ref u) ⟨us,[]⟩) _ _ _;simp only [callAny];refine wpAny_bind (wpAny_load hu ?_);simp only [PySem.W.kxs_mw,show (Value.type "method-wrapper" == Value.type "method" || Value.type "method-wrapper" == Value.type "builtin_function_or_method" || Value.type "method-wrapper" == Value.type "method-wrapper")=true by decide,if_true];refine PySem.W.KFB.if_so (by decide) ?_;refine wpAny_bind (PySem.W.check_bound_init F.excBase_ValueError.toExcCallFacts (I.kIn _ _ hC) ho rfl ?_);refine wpAny_bind (wpAny_pure (wpAny_pure ?_));refine ⟨plainId_quiet F.excBase_ValueError.init.plain _,codeAny_builtin F.excBase_ValueError.initEntry ?_⟩;refine PySem.W.exc_init_tree (cls:=.ref C) (t0:=t1) (dv:=none) (c2:=.none) (c3:=.none) (b4:=.bool false) ho hl fun h' k hx _ => ?_;have J:=I.write (t':=t) (x:=a) (e:=a) (o:=exo a C none) (by rw [e]; exact True.intro) (.inl rfl) k ⟨_,hx⟩ (exo_ok hx);have eu:upd H a (exo a C none)=H:=by
  funext b;by_cases hb:b=a
  ·rw [hb,upd_same,e]
  ·rw [upd_ne hb]
 rw [eu] at J;exact h _ J
def D8 (K:PySem.W.Frag) (D:Addr) (at_:Str):Sp:=fun vs H Q E => ∃ (a C:Addr) (r:V),vs=[.ref a,r]/\OexC K C/\PySem.W.mroIn K C (.ref D)=some true/\PySem.W.ks_superIn K C D "__init__" = some (some (.builtin "ValueError.__init__")) /\
 PySem.W.subIn K (.ref C) (.type "ValueError")=some true/\PySem.W.findIn K (.ref C) at_=some none/\H a=some (exo a C none)/\∀ dx,H dx=none->dx≠a->Q .non (upd (upd H dx (exd dx [(at_,r)])) a (exo a C (some dx)))
abbrev Js (p1:Str) (q:Nat->Pos):Expr:=.Call (.Attribute (.Call (.Name "super" (q 0)) [] [] (q 1)) "__init__" (q 2)) [.Name p1 (q 3)] [] (q 4)
abbrev K' (p0 p1 at_:Str) (q:Nat->Pos):List Stmt:=[.Expr (Js p1 q) (q 5),.Assign [.Attribute (.Name p0 (q 6)) at_ (q 7)] (.Name p1 (q 8)) (q 9)]
structure SupF (K:PySem.W.Frag) (P:Program) (fI D cc cda:Addr) (qual p0 p1 at_:Str) (params:Arguments) (q:Nat->Pos) (scope:Scope) (fd:FuncData):Prop where
 lk:∃ oc od dV kV doc pm an ct osl,fd=PySem.W.ksFn "__init__" qual params (K' p0 p1 at_ q) scope dV kV doc pm an (.ref cda) ct cc/\K.lookup fI=some { cls:=oc,dict:=od,data:=.func fd,slots:=osl }
 cd:PySem.W.codeIn K (.ref cda) qual=true
 code:∃ ccl cdd vs ccs file tf,K.lookup cda=some { cls:=ccl,dict:=cdd,data:=.fields vs,slots:=ccs }/\vs[2]?=some (.str file tf)/\((P.main.file:Str) == file)=true
 cell:∃ cl cld csl,K.lookup cc=some { cls:=cl,dict:=cld,data:=.cell (some (.ref D)),slots:=csl }
 clsD:∃ cdD,PySem.W.clsIn K D=some cdD
 any:PySem.W.nsIn K cStatics "thirdparty.any" = some none
 top:(P.main.scope.names.lookup ("super" : Str)).isSome=false
 ev:∃ pl:Sem Bool,∀ L:Addr,eval (Js p1 q) (WN qual scope L fI (.ref cda) cc)=(do
   let ov ← attributeBase (.Call (.Name "super" (q 0)) [] [] (q 1)) "__init__" (WN qual scope L fI (.ref cda) cc) (eval (.Call (.Name "super" (q 0)) [] [] (q 1)) (WN qual scope L fI (.ref cda) cc))
   standAt (q 2).atName
   let (f,first) ← holding [ov] (getMethod ov "__init__" pl)
   callWith (q 4) f first (backTo (q 4) (starEach [.Name p1 (q 3)] (WN qual scope L fI (.ref cda) cc))) [])
 sw1:∀ L:Addr,swapsWith (Js p1 q) none (q 5).line (WN qual scope L fI (.ref cda) cc)=pure false
 sw2:∀ L:Addr,swapsWith (.Name p1 (q 8)) (some (.Attribute (.Name p0 (q 6)) at_ (q 7))) (q 9).line (WN qual scope L fI (.ref cda) cc)=pure false
 self:∃ ar,(params.posonlyargs++params.args).head?=some ar/\ar.arg=p0
 kind:scope.kind = .function
 co:scope.isCoroutine=false
 gen:scope.isGenerator=false
 names:∀ y∈scope.names,y.2 ≠ .cell/\(y.2 = .free->y.1 = "__class__")
 ne:p0≠p1
 l0:scope.names.lookup p0=some .local
 l1:scope.names.lookup p1=some .local
 ls:scope.names.lookup ("super" : Str)=some .globalImplicit
 lc:scope.names.lookup ("__class__" : Str)=some .free
 d0:(p0 == ("__debug__" : Str))=false/\(p0 == ("__classdict__" : Str))=false
 d1:(p1 == ("__debug__" : Str))=false/\(p1 == ("__classdict__" : Str))=false
theorem CY {P:Program} {w:World} {K:PySem.W.Frag} {mg:Str->Option Value} {base:Heap} {fI D cc cda:Addr} {qual p0 p1 at_:Str} {params:Arguments} {q:Nat->Pos} {scope:Scope} {fd:FuncData} (S:SupF K P fI D cc cda qual p0 p1 at_ params q scope fd) (hsup:mg "super" = none) :
  FnOk P w K mg base (L2.CX P w) 2 fI fd [p0,p1] (D8 K D at_):=by
 refine ⟨fun vs H Q E ⟨_,_,_,e,_⟩=>by rw [e]; rfl,fun A outer s H args us vs Q E hr e0 hb r h => ?_⟩;obtain ⟨a,C,r1,rfl,T,hsub,hm,hB,hno,ha,hq⟩:=h;obtain ⟨oc,od,dV,kV,doc,pm,an,ct,osl,rfl,lk⟩:=S.lk;obtain ⟨ccl,cdd,cvs,ccs,file,tf,hcode,hvs,hfile⟩:=S.code;obtain ⟨cl,cld,csl,hcell⟩:=S.cell;obtain ⟨cdD,hD⟩:=S.clsD;obtain ⟨pl,ev⟩:=S.ev;obtain ⟨ar,har,har2⟩:=S.self;obtain ⟨u0,u1,rfl,ra,rr⟩:=vals2 r;cases ra;have KX:K.In s.heap:=e0.mod.kin.keeps fun b o e=>(e0.bs b o e).1;have lim:s.heap.NoLimit:=e0.mod.nolimit.keeps fun b o e=>(e0.bs b o e).1;have binds:[p0,p1].zip [Value.ref a,u1]=[(p0,Value.ref a),(p1,u1)]:=rfl;rw [binds] at hb;refine PySem.ks_codeAny_call_defAt hr.depth (KX _ _ lk) rfl lim (PySem.W.codeRec_of KX S.cd) rfl hb (fun y hy=>(S.names y hy).1) (fun y hy => ?_) (fun h₁ hns kp => ?_) S.co S.gen S.kind
 ·simp only [List.mem_cons,List.not_mem_nil,or_false] at hy
  rcases hy with rfl | rfl
  ·exact S.l0
  ·exact S.l1
 have I:Inv (OE P w K mg base [p0,p1] qual scope fI (.ref cda) cc A outer s H E) [] [some (.ref a),some r1] H { s with heap:=h₁,toks:=s.toks+([(p0,Value.ref a),(p1,u1)]:List (Str×Value)).length } :=
  Qv S.kind S.names S.ne S.l0 S.l1 hr.hd e0 hcell rfl rr hns kp
 have gv0:=hns;obtain ⟨mb,hmb,hbb⟩:=e0.mod.blt;have KX1:K.In h₁:=I.kIn;have ga:(fun y=>([(p0,Value.ref a),(p1,u1)]:List (Str×Value)).reverse.lookup y) p0=some (.ref a):=by
  show ([(p1,u1),(p0,Value.ref a)]:List (Str×Value)).lookup p0=some (.ref a);rw [List.lookup_cons,show (p0 == p1)=false by simpa using S.ne];simp
 show _root_.PySem.wpAt (model P w) (A.deeper (WN qual scope s.heap.objs.size fI (.ref cda) cc)) (.func (K' p0 p1 at_ q) (WN qual scope s.heap.objs.size fI (.ref cda) cc)) (execs (K' p0 p1 at_ q) (WN qual scope s.heap.objs.size fI (.ref cda) cc)) _ _ _;refine ks_wpAt_execs_cons (ks_wpAt_Expr_any (ks_wpAt_MethodCall (pl:=pl) ?_ (ev _)) (by unfold interactive; simp [S.kind]) (S.sw1 _));refine ks_wpAt_super_base S.ls S.lc (by decide) rfl (KX1 _ _ lk) rfl har rfl (KX1 _ _ hcode) rfl hvs hfile S.top ?_;have oD:∃ o:Obj,K.lookup D=some o/\o.data = .cls cdD:=by
  unfold PySem.W.clsIn at hD
  split at hD
  ·rename_i ho
   cases hD;exact ⟨_,ho,rfl⟩
  ·cases hD
 obtain ⟨oD,hoD,hdD⟩:=oD;have lcell:h₁.IsCell cc (some (.ref D)):=⟨_,KX1 _ _ hcell,rfl⟩;have hcl:([(("__class__" : Str),cc)]:List (Str×Addr)).lookup ("__class__" : Str)=some cc:=by simp
 obtain ⟨t1,hox⟩:=exo_at I.hok ha;refine PySem.W.ks_loadName_global S.kind S.ls (PySem.Calls.loadGlobal_builtin (mg:=mg) (by exact e0.mod.glob.keeps I.bk) hsup (by exact hmb.keeps I.bk) ((hbb "super" (by decide)).trans PyProof.Rows.Boot.«super») ⟨rfl,?_⟩);refine wpAny_loadName_free S.kind S.lc hcl lcell ?_;refine wpAny_loadName_local (m:=fun y=>([(p0,Value.ref a),(p1,u1)]:List (Str×Value)).reverse.lookup y) S.kind (by rw [har2]; exact S.l0) hns (by rw [har2]; exact ga) ?_;refine PySem.ks_wpAny_isType_cls (KX1 _ _ hoD) hdD ⟨rfl,?_⟩;refine PySem.ks_wpAny_call_super (KX1 _ _ hoD) hdD hox rfl (fun c z=>by cases z) (PySem.W.looks_mroIn KX1 hsub) fun h2 hso k2 => ?_;have KX2:K.In h2:=KX1.keeps k2;have I2:=I.kept (t':=s.toks+([(p0,Value.ref a),(p1,u1)]:List (Str×Value)).length) k2;obtain ⟨nm,qq,NN,bs,bm,sn,sub,ab,col,dd,x0,x1,x2,x3,x5,hC,hbm⟩:=T.cls;have hcd:∃ cd,PySem.W.clsIn K C=some cd:=by
  unfold PySem.W.clsIn;rw [hC];exact ⟨_,rfl⟩
 obtain ⟨cdC,hcC⟩:=hcd;have hal:PySem.W.alongIn K "__init__" ((cdC.mro.dropWhile (· != .ref D)).drop 1)=some (some (.builtin "ValueError.__init__")):=by
  unfold PySem.W.ks_superIn at hm;rw [hcC] at hm;exact hm
 have hox2:=k2 _ _ hox;have hne:a≠C:=fun z=>by
  have y:=KX2 _ _ hC;rw [← z,hox2] at y;have y2:=congrArg Obj.data (Option.some.inj y);cases y2
 refine PySem.W.kxs_getMethod PySem.W.kxs_ValueError hso (PySem.W.looks_opaque KX2 S.any) (l₀:=cdC.mro) (fun A Q E s k q=>wpAny_bind ((PySem.W.looks_clsIn KX2 hcC) A _ E s k (wpAny_pure q))) rfl KX2 hal ?_ hne (by decide) ?_
 ·exact (PySem.W.InstAt.type (od:=none) ⟨hox2,rfl,rfl,trivial⟩).andThen (PySem.W.looks_subIn KX2 hB)
 have k3:∀ b o,h2.get? b=some o->(h2.push (PySem.W.kxs_mw "ValueError.__init__" a)).get? b=some o:=fun b o e=>Heap.get?_push_of_some _ e;have I3:=I2.kept (t':=s.toks+([(p0,Value.ref a),(p1,u1)]:List (Str×Value)).length+1) k3;have hmw:=Heap.get?_push_size h2 (o:=PySem.W.kxs_mw "ValueError.__init__" a) rfl;refine PySem.W.kxs_callWith (i:="ValueError.__init__") (x:=a) rfl ?_;refine PySem.Calls.evalArgs_plain (PySem.Calls.spliced_cons ?_);have hns3:=hns.at fun o y=>k3 _ _ (k2 _ _ y);refine wpAny_Name (wpAny_loadName_local (v:=u1) S.kind S.l1 hns3 (by simp) ?_) S.d1.1;refine PySem.Calls.spliced_nil ⟨hmw,?_⟩;refine Ju (H:=H) (X:=OE P w K mg base [p0,p1] qual scope fI (.ref cda) cc A outer s H E) T I3 ha hmw (by rw [sizeLine_eq]; simp) fun s4 I4 => ?_;refine wpAt_of_wpAny ?_;have go:=(pss_one (ps_ost (f:=at_) (p':=q 7) (pos:=q 9) (pe_var (X:=OE P w K mg base [p0,p1] qual scope fI (.ref cda) cc A outer s H E) (i:=0) (pos:=q 6) rfl (.inl S.l0) S.d0.1 S.d0.2) (pe_var (i:=1) (pos:=q 8) rfl (.inl S.l1) S.d1.1 S.d1.2) (S.sw2 _))).run [] s4 [some (.ref a),some r1] H { nx:=fun σ' H' => Q .non H',rt:=fun _ _=>False } I4 ?_
 ·refine wpAny_mono go (fun fl s' hs => ?_) fun e s' hs=>hs
  cases fl with
  | next =>
    obtain ⟨σ',H',J,qz⟩:=hs;exact ⟨.non,H',J.os,J.bare,J.base,J.hok,rfl,qz⟩
  | ret u =>
    obtain ⟨v,σ',H',J,rv,qz⟩:=hs;exact False.elim qz
  | brk =>
    obtain ⟨_,_,_,qz⟩:=hs;exact False.elim qz
  | cont =>
    obtain ⟨_,_,_,qz⟩:=hs;exact False.elim qz
 ·exact ⟨r1,rfl,.ref a,rfl,a,C,rfl,T,hno,.inl ⟨ha,hq⟩⟩
structure Xc (P:Program) (w:World) (K:PySem.W.Frag) (mg:Str->Option Value) (base:Heap) (c at_:String):Prop where
 ex:∃ (C fI:Addr) (fd:FuncData) (ps:List Str),mg (Str.ofString c)=some (.ref C)/\OexC K C/\PySem.W.findIn K (.ref C) "__init__" = some (some (.ref fI))/\PySem.W.typeIn K (.ref fI)=some (.type "function") /\
  FnOk P w K mg base (L2.CX P w) 2 fI fd ps (D8 K C (Str.ofString at_))/\Binds K fd ps []/\PySem.W.mroIn K C (.ref C)=some true/\PySem.W.ks_superIn K C C "__init__" = some (some (.builtin "ValueError.__init__")) /\
  PySem.W.subIn K (.ref C) (.type "ValueError")=some true/\PySem.W.findIn K (.ref C) (Str.ofString at_)=some none
abbrev ti (X:Cx) (c at_:String):Prop:=Xc X.prog X.w X.K X.mg X.base c at_
def Y9 (c at_:String) (m:ME):MS:=fun δ μ=>(m δ μ).thn fun s δ1 μ1=>.exc ⟨c,at_,s.d⟩ δ1 μ1
theorem WM {X:Cx} {W:WX} {k:Nat} {N:List Str} {sc:Scope} {c at_:String} {e:Expr} {m:ME} {p pos pos':Pos} (C:Cs X W k N sc) (V:ti X c at_) (hk:3<=k) (hg:Th sc (Str.ofString c)=true) (he:JE X W e m)
  (hs:starEach [e] X.env=(false,eval e X.env) :: starEach [] X.env:=by rfl):JS X W (.Raise (some (.Call (.Name (Str.ofString c) p) [e] [] pos)) none pos') (Y9 c at_ m):=by
 obtain ⟨A,fI,fd,ps,h1,T,h3,h4,F,hb,h6,h7,h8,h9⟩:=V.ex;obtain ⟨g1,g2,g3⟩:=C.gl hg;have mk:=pmk_oex (pos:=pos) (p:=p) T h3 h4 F ((C.rm.mono hk).r) hb (.nil) (passes_call C.tk (fun _ _ _ _ z=>z.elim)) g1 h1 (Z7 he YY hs) g2 hs;refine (ps_raise C.calm C.tk mk).imp fun D σ H ⟨Z,F,ρ,μ,δ,S,q⟩ => ?_;refine ⟨Z,F,ρ,μ,δ,S,?_⟩;unfold Y9 at q
 show FinE X W Z F ρ σ _ ((m δ μ).bind fun s δ1 μ1=>(XF [] δ1 μ1).bind fun ds δ2 μ2=>.ok (s.d :: ds) δ2 μ2);cases em:m δ μ with
 | bad=>rw [em] at q; exact q
 | exc x δ1 μ1=>rw [em] at q; exact fun c d H' F' ρ' l lr S e=>q c d σ H' F' ρ' l lr S e
 | ok s δ1 μ1 =>
   rw [em] at q;intro H1 F1 ρ1 l1 lr1 S1 vs hv;cases hv with
   | @cons r _ _ _ hv hn =>
     cases hn;refine ⟨by simp,fun a ha => ?_⟩;refine ⟨a,A,_,rfl,T,h6,h7,h8,h9,upd_same,fun dx hdx hne => ?_⟩;have hdx1:H1 dx=none:=by
      rw [upd_ne hne] at hdx;exact hdx
     refine ⟨rfl,dx,[(Str.ofString at_,r)],upd_same,by rw [upd_ne hne,upd_same],hdx1,?_⟩;have eH:upd (del (upd (upd (upd H1 a (exo a A none)) dx (exd dx [(Str.ofString at_,r)])) a (exo a A (some dx))) a) dx (.xd [(Str.ofString at_,r)])=upd H1 dx (.xd [(Str.ofString at_,r)]):=by
      funext b;by_cases hb:b=dx
      ·rw [hb,upd_same,upd_same]
      ·rw [upd_ne hb,upd_ne hb]
       by_cases hb2:b=a
       ·rw [hb2,del_same,ha]
       ·rw [del_ne hb2,upd_ne hb2,upd_ne hb,upd_ne hb2]
     rw [eH];have S2:=S1.laid (o:=.xd [(Str.ofString at_,r)]) hdx1;have N1:=S1.notIn hdx1;obtain ⟨l3,S3⟩:=S2.freeze upd_same ⟨N1.1,N1.2.1,N1.2.2.1⟩ N1.2.2.2;exact q _ _ σ _ _ _ (l1.trans l3) lr1 S3 ⟨A,dx,_,rfl,rfl,h1,.inl upd_same,hv.up l3.to fun _ _ h=>h⟩
structure SupS (P:Program) (st:Stmt) (p0 p1 at_:Str) (q:Nat->Pos) (sc:Scope):Prop where
 scope:defScope st=sc
 body:defBody st=K' p0 p1 at_ q
 self:∃ ar,((defArgs st).posonlyargs++(defArgs st).args).head?=some ar/\ar.arg=p0
 top:(P.main.scope.names.lookup ("super" : Str)).isSome=false
 ev:∀ (qual:Str) (fI:Addr) (cda:Value) (cc:Addr),∃ pl:Sem Bool,∀ L:Addr,eval (Js p1 q) (WN qual sc L fI cda cc)=(do
   let ov ← attributeBase (.Call (.Name "super" (q 0)) [] [] (q 1)) "__init__" (WN qual sc L fI cda cc) (eval (.Call (.Name "super" (q 0)) [] [] (q 1)) (WN qual sc L fI cda cc))
   standAt (q 2).atName
   let (f,first) ← holding [ov] (getMethod ov "__init__" pl)
   callWith (q 4) f first (backTo (q 4) (starEach [.Name p1 (q 3)] (WN qual sc L fI cda cc))) [])
 sw1:∀ (qual:Str) (fI:Addr) (cda:Value) (cc L:Addr),swapsWith (Js p1 q) none (q 5).line (WN qual sc L fI cda cc)=pure false
 sw2:∀ (qual:Str) (fI:Addr) (cda:Value) (cc L:Addr),swapsWith (.Name p1 (q 8)) (some (.Attribute (.Name p0 (q 6)) at_ (q 7))) (q 9).line (WN qual sc L fI cda cc)=pure false
 kind:sc.kind = .function
 co:sc.isCoroutine=false
 gen:sc.isGenerator=false
 names:∀ y∈sc.names,y.2 ≠ .cell/\(y.2 = .free->y.1 = "__class__")
 ne:p0≠p1
 l0:sc.names.lookup p0=some .local
 l1:sc.names.lookup p1=some .local
 ls:sc.names.lookup ("super" : Str)=some .globalImplicit
 lc:sc.names.lookup ("__class__" : Str)=some .free
 d0:(p0 == ("__debug__" : Str))=false/\(p0 == ("__classdict__" : Str))=false
 d1:(p1 == ("__debug__" : Str))=false/\(p1 == ("__classdict__" : Str))=false
theorem AR {P:Program} {w:World} {K:PySem.W.Frag} {mg:Str->Option Value} {base:Heap} {c at_:String} {st:Stmt} {p0 p1:Str} {q:Nat->Pos} {sc:Scope} {C fI cc cda:Addr} {qual nm qn file:Str} {tf:Tok} {NN:Addr} {bs bm:List Value} {sn:List Str} {sub:List Value} {ab:Bool} {col:Option Bool} {dd:Option Addr} {k0 k1 k2 k3 k5:Option Value}
  {oc kV doc pm ct ccl cl:Value} {od an cdd cld:Option Addr} {osl ccs csl:Array (Option Value)} {vs:Array Value}
  (S:SupS P st p0 p1 (Str.ofString at_) q sc) (hm:mg (Str.ofString c)=some (.ref C)) (hsup:mg "super" = none) (hC:K.lookup C=some (excClassObj nm qn C NN bs bm true sn sub ab col dd k0 k1 k2 k3 k5 "ValueError.__new__")) (hbm:PySem.HandSPX.refsVE bm=true)
  (sa:PySem.W.findIn K (.ref C) "__setattr__" = some (some (.builtin "object.__setattr__"))) (exC:PySem.W.subIn K (.ref C) (.type "BaseException")=some true) (tyC:PySem.W.typeIn K (.ref C)=some (.type "type")) (kC:PySem.W.keepIn K (.ref C)=true)
  (iC:PySem.W.findIn K (.ref C) "__init__" = some (some (.ref fI))) (tI:PySem.W.typeIn K (.ref fI)=some (.type "function"))
  (lI:K.lookup fI=some { cls:=oc,dict:=od,data:=.func (PySem.W.ksFn "__init__" qual (defArgs st) (defBody st) (defScope st) .none kV doc pm an (.ref cda) ct cc),slots:=osl })
  (cI:PySem.W.codeIn K (.ref cda) qual=true) (lcd:K.lookup cda=some { cls:=ccl,dict:=cdd,data:=.fields vs,slots:=ccs }) (hvs:vs[2]?=some (.str file tf)) (hfile:((P.main.file:Str) == file)=true)
  (lcc:K.lookup cc=some { cls:=cl,dict:=cld,data:=.cell (some (.ref C)),slots:=csl }) (any:PySem.W.nsIn K cStatics "thirdparty.any" = some none) (mro:PySem.W.mroIn K C (.ref C)=some true)
  (sup:PySem.W.ks_superIn K C C "__init__" = some (some (.builtin "ValueError.__init__"))) (sB:PySem.W.subIn K (.ref C) (.type "ValueError")=some true) (fat:PySem.W.findIn K (.ref C) (Str.ofString at_)=some none)
  (hb:∀ us:List Value,us.length=[p0,p1].length->bindArgs (PySem.W.ksFn "__init__" qual (defArgs st) (defBody st) (defScope st) .none kV doc pm an (.ref cda) ct cc) ⟨us,[]⟩=pure ([p0,p1].zip us)):Xc P w K mg base c at_:=by
 have hcls:∃ cd,PySem.W.clsIn K C=some cd:=by
  unfold PySem.W.clsIn;rw [hC];exact ⟨_,rfl⟩
 obtain ⟨pl,ev⟩:=S.ev qual fI (.ref cda) cc;have e1:=S.scope;have e2:=S.body;have F:SupF K P fI C cc cda qual p0 p1 (Str.ofString at_) (defArgs st) q sc (PySem.W.ksFn "__init__" qual (defArgs st) (defBody st) (defScope st) .none kV doc pm an (.ref cda) ct cc) :=
  ⟨⟨oc,od,.none,kV,doc,pm,an,ct,osl,by rw [e1,e2],lI⟩,cI,⟨_,_,_,_,_,_,lcd,hvs,hfile⟩,⟨_,_,_,lcc⟩,hcls,any,S.top,⟨pl,ev⟩,S.sw1 _ _ _ _,S.sw2 _ _ _ _,S.self,S.kind,S.co,S.gen,S.names,S.ne,S.l0,S.l1,S.ls,S.lc,S.d0,S.d1⟩
 exact ⟨C,fI,_,_,hm,⟨⟨_,_,_,_,_,_,_,_,_,_,_,_,_,_,_,hC,hbm⟩,sa,exC,tyC,kC⟩,iC,tI,CY F hsup,.all hb,mro,sup,sB,fat⟩
end FL
namespace FL
open PySem PySem.Spec PyProof.Rows L2 LamX
section
variable {K : PySem.W.Frag} {mg : Str -> Option Value} {Z F : Hp} {ρ : List Addr} {μ : Mem} {δ : FL.Loc} {σ : L2.St} {H : Hp}
theorem Sim.tabAt {j:Nat} {P:Addr} {q:Str} (S:Sim K mg Z F ρ μ δ σ H) (e:μ[j]?=some (.tab P q)):ρ[j]?=some P/\∃ ps:Array Value,H P=some (.tbl ps)/\TriplesOk ps.toList/\∀ (pos:Pos) (cv:Value),codeAmong pos ps.toList=some cv->∃ c,cv = .ref c/\F c=some (CodeO c q):=by
 obtain ⟨a,e1,_,_,r⟩:=S.mem j _ e;obtain ⟨rfl,ps,h1,h2,h3⟩:=r;exact ⟨e1,ps,h1,h2,h3⟩
theorem Sim.tabNew {j:Nat} {P c:Addr} {q:Str} {pos:Pos} {ps:Array Value} (S:Sim K mg Z F ρ μ δ σ H) (e:μ[j]?=some (.tab P q)) (hP:H P=some (.tbl ps)) (ht:TriplesOk ps.toList)
  (ha:∀ (p:Pos) (cv:Value),codeAmong p ps.toList=some cv->∃ c,cv = .ref c/\F c=some (CodeO c q)) (hc:H c=none) :
  ∃ F1,Le Z F F1/\F1 c=some (CodeO c q)/\Sim K mg Z F1 ρ μ δ σ (upd (upd H P (.tbl (ps ++ #[rawInt pos.line,rawInt pos.col,.ref c]))) c (CodeO c q)):=by
 have nPc:P≠c:=ne_of_none hP hc;obtain ⟨b1,b2,b3,b4⟩:=S.notIn hc;have S1:=S.laid (o:=CodeO c q) hc;obtain ⟨l,S2⟩:=S1.freeze upd_same ⟨b1,b2,b3⟩ b4;obtain ⟨ep,_⟩:=S.tabAt e;have eL:(ps ++ #[rawInt pos.line,rawInt pos.col,.ref c]).toList=ps.toList++[rawInt pos.line,rawInt pos.col,.ref c]:=by simp
 have S3:=S2.writeM (c':=.tab P q) (o:=.tbl (ps ++ #[rawInt pos.line,rawInt pos.col,.ref c])) e ep ⟨rfl,_,upd_same,by rw [eL]; exact PySem.TriplesOk_snoc _ _ _ _ ht,fun p' cv hcv=>by
  rw [eL] at hcv;rcases among_app _ ht hcv with z | z
  ·obtain ⟨c0,e1,e2⟩:=ha p' cv z
   exact ⟨c0,e1,l.to _ _ e2⟩
  ·exact ⟨c,z,upd_same⟩⟩
 have em:μ.set j (.tab P q)=μ:=by
  apply List.ext_getElem?
  intro i;by_cases z:i=j
  ·subst z
   rw [List.getElem?_set_self (List.getElem?_eq_some_iff.mp e).1,e]
  ·rw [List.getElem?_set_ne (Ne.symm z)]
 have eH:upd (upd H c (CodeO c q)) P (.tbl (ps ++ #[rawInt pos.line,rawInt pos.col,.ref c]))=upd (upd H P (.tbl (ps ++ #[rawInt pos.line,rawInt pos.col,.ref c]))) c (CodeO c q):=by
  funext b;by_cases h1:b=c
  ·rw [h1,upd_same,upd_ne (Ne.symm nPc),upd_same]
  ·by_cases h2:b=P
   ·rw [h2,upd_same,upd_ne nPc,upd_same]
   ·rw [upd_ne h2,upd_ne h1,upd_ne h1,upd_ne h2]
 rw [em,eH] at S3;exact ⟨_,l,upd_same,S3⟩
def hide (δ:FL.Loc):FL.Loc:=δ.map fun o=>match o with
 | some (.fr d)=>some (.fr d)
 | _=>none
theorem L7 {i:Nat} {s:FL.Slot} (e:(hide δ)[i]?=some (some s)):∃ d,s = .fr d/\δ[i]?=some (some (.fr d)):=by
 unfold hide at e;rw [List.getElem?_map] at e;cases q:δ[i]? with
 | none=>rw [q] at e; cases e
 | some o =>
   rw [q] at e;cases o with
   | none=>cases e
   | some t =>
     cases t with
     | fr d=>cases e; exact ⟨d,rfl,rfl⟩
     | own c=>cases e
theorem Sim.borrow {Z1 F1:Hp} {ρ1:List Addr} {μ1:Mem} {H1:Hp} (S:Sim K mg Z F ρ μ δ σ H) (S1:Sim K mg Z1 F1 ρ1 μ1 [] [] H1) (l:∀ p o,F p=some o->F1 p=some o) (lr:∀ (k:Nat) p,ρ[k]?=some p->ρ1[k]?=some p) :
  Sim K mg Z1 F1 ρ1 μ1 (hide δ) σ H1:=by
 refine ⟨S1.le,S1.zk,by unfold hide; rw [List.length_map]; exact S.len,fun i s e => ?_,fun i j p s s' e => ?_,S1.mem,S1.mlen,S1.nod⟩
 ·obtain ⟨d,rfl,e2⟩:=L7 e
  obtain ⟨v,ev,r⟩:=S.slot i _ e2;exact ⟨v,ev,Rep.up l lr r⟩
 ·obtain ⟨d,e1,_⟩:=L7 e
  cases e1
end
structure LmS (N:List Str) (sc scope:Scope):Prop where
 kind:scope.kind = .function
 co:scope.isCoroutine=false
 gen:scope.isGenerator=false
 own:∀ y∈scope.names,y.2 ≠ .cell/\(y.2 = .local->y.1∉N)
 free:∀ y∈scope.names,y.2 = .free->sc.names.lookup y.1=some .cell\/sc.names.lookup y.1=some .free
def Gv (N:List Str) (sc scope:Scope):Bool :=
 decide (scope.kind = .function) && !scope.isCoroutine && !scope.isGenerator&&scope.names.all fun y => !decide (y.2 = .cell)&&(!decide (y.2 = .local) || !decide (y.1∈N))&&(!decide (y.2 = .free)||decide (sc.names.lookup y.1=some .cell)||decide (sc.names.lookup y.1=some .free))
theorem Jr {N:List Str} {sc scope:Scope} (h:Gv N sc scope=true):LmS N sc scope:=by
 unfold Gv at h;simp only [Bool.and_eq_true,Bool.or_eq_true,Bool.not_eq_true',decide_eq_true_eq,decide_eq_false_iff_not,List.all_eq_true] at h;obtain ⟨⟨⟨a1,a2⟩,a3⟩,a4⟩:=h;refine ⟨a1,a2,a3,fun y hy=>⟨(a4 y hy).1.1,fun e => ?_⟩,fun y hy e => ?_⟩
 ·rcases (a4 y hy).1.2 with z | z
  ·exact absurd e z
  ·exact z
 ·rcases (a4 y hy).2 with (z | z) | z
  ·exact absurd e z
  ·exact Or.inl z
  ·exact Or.inr z
theorem LmS.has {N:List Str} {X:Cx} {scope:Scope} (L:LmS N X.env.scope scope) (ok:X.Ok) (y) (hy:y∈scope.names) (e:y.2 = .free):∃ c,X.env.cells.lookup y.1=some c :=
 (L.free y hy e).elim (fun k=>ok.has _ (Or.inl k)) fun k=>ok.has _ (Or.inr k)
section
variable {X : Cx} {pins : List (Addr × Obj)} {σ : L2.St} {H HZ : Hp} {s s1 : Shared}
theorem Jq {A:Around} {outer:List Env} {E:XK} {scope:Scope} {f c':Addr} {h₁:Heap} {tk:Nat} {bs:List (Str×Value)} (J:Inv X pins σ H s) (L:LmS X.N X.env.scope scope) (e0:Env0 X.prog X.w X.K X.mg X.base A outer s1 HZ) (hd:A.handled=none)
  (un:Un (frs X.stack) [] H HZ s.heap s1.heap) (hns:h₁.Ns s1.heap.objs.size fun y=>bs.reverse.lookup y) (kp:∀ b o,s1.heap.get? b=some o->h₁.get? b=some o) :
  Inv (lamCx X A outer s1 HZ E scope f c') [] σ HZ { s1 with heap:=h₁,toks:=tk }:=by
 have has:=L.has J.ok;have down:∀ {y c},(cloFrom X.env.cells scope.names []).lookup y=some c->X.env.cells.lookup y=some c:=fun {y c} q=>by
  rcases cloFrom_mem (PySem.mem_of_lookup q) with hm | ⟨m1,m2⟩
  ·cases hm
  ·obtain ⟨d,hd'⟩:=has _ m1 rfl
   have hd':X.env.cells.lookup y=some d:=hd';have ed:c=d:=by
    rw [m2,hd'] <;> rfl
   rw [ed];exact hd'
 have find:∀ {y},scope.names.lookup y=some .free->∃ c,(cloFrom X.env.cells scope.names []).lookup y=some c:=fun {y} hl =>
  mem_lookup (cloFrom_has (cells:=X.env.cells) (acc:=[]) (PySem.mem_of_lookup hl:(y,NameKind.free)∈scope.names))
 have stays:∀ {c:Addr} {v:Option Value},H c=none->s.heap.IsCell c v->h₁.IsCell c v:=fun {c v} n ⟨o,ho,hc⟩=>by
  obtain ⟨sl,q⟩:=un.any ho n (by simp);exact ⟨_,kp _ _ q,hc⟩
 have none_ex:∀ b:Addr,b∉(lamCx X A outer s1 HZ E scope f c').ex:=fun b z=>nomatch (show b∈([]:List Addr) from z);refine ⟨⟨e0.mod,L.kind,rfl,rfl,Nat.le_refl _,fun y z c e1 e2=>J.ok.inj y z c (down e1) (down e2),fun y hy => ?_,fun y c z _ => ?_,fun _=>hd,Around.frames_deeper e0.frames,.inr ⟨rfl,rfl⟩,fun b z=>absurd z (none_ex b),e0.bs,e0.bsz,fun b _ _=>none_ex b,
   fun b z=>absurd z (none_ex b),e0.funs,e0.frf⟩,
  rfl,e0.bare,Un.kept kp,⟨_,hns,fun i y v e1 e2 e3 => ?_⟩,fun y c e => ?_,e0.hok.fresh (Nat.le_refl _),fun y c e => ?_,fun q hq=>(nomatch (show q∈([]:List (Addr×Obj))++[] from hq)),e0.hok.kept kp,J.len⟩
 ·have hy:scope.names.lookup y=some .cell\/scope.names.lookup y=some .free:=hy
  rcases hy with hy | hy
  ·exact absurd rfl (L.own _ (PySem.mem_of_lookup hy)).1
  ·exact find hy
 ·exact absurd (show false=true from z) (by decide)
 ·have e3:Vis scope y:=e3
  have e1:X.N[i]?=some y:=e1;rcases e3 with k | k | k
  ·exact absurd (List.mem_of_getElem? e1) ((L.own _ (PySem.mem_of_lookup k)).2 rfl)
  ·exact absurd rfl (L.own _ (PySem.mem_of_lookup k)).1
  ·obtain ⟨m,hn,hl⟩:=J.loc
   have hvis:Vis X.env.scope y:=(L.free _ (PySem.mem_of_lookup k) rfl).elim (fun k=>.inr (.inl k)) (fun k=>.inr (.inr k));obtain ⟨w',r,q⟩:=hl i y v e1 e2 hvis;obtain ⟨c2,h2⟩:=find k;refine ⟨w',r,.inr ⟨.inr k,c2,h2,?_⟩⟩;have c1:=down h2;rcases q with ⟨k',_⟩ | ⟨_,c3,e',z⟩
   ·have k':X.env.scope.names.lookup y=some .local:=k'
    rcases L.free _ (PySem.mem_of_lookup k) rfl with k2 | k2
    ·rw [show X.env.scope.names.lookup y=_ from k2] at k'
     cases k'
    ·rw [show X.env.scope.names.lookup y=_ from k2] at k'
     cases k'
   ·rw [c1] at e'
    cases e';exact stays (J.freeC y _ c1) z
 ·obtain ⟨w',z⟩:=J.cell y c (down e)
  exact ⟨w',stays (J.freeC y c (down e)) z⟩
 ·obtain ⟨v,o,ho,_⟩:=J.cell y c (down e)
  exact un.free c o ho (J.freeC y c (down e)) (by simp)
structure Act (P:Program) (w:World) (K:PySem.W.Frag) (mg:Str->Option Value) (base:Heap) (k:Nat) (out0:List Env) (f:Addr) (F0:Hp) (ρ0:List Addr) (act:Mem->OutF) (s0:Shared) (H0:Hp):Prop where
 at_:(∃ oc od fd osl,s0.heap.get? f=some { cls:=oc,dict:=od,data:=.func fd,slots:=osl })/\H0 f=none/\f∉frs out0
 run:∀ (A:Around) (outer:List Env) (s:Shared) (H:Hp) (Q:VK) (E:XK) (Z F:Hp) (ρ:List Addr) (μ:Mem),RmG k A->Env0 P w K mg base A outer s H->Un (frs out0) [] H0 H s0.heap s.heap->(∀ p o,F0 p=some o->F p=some o)->(∀ (k:Nat) p,ρ0[k]?=some p->ρ[k]?=some p) ->
  Sim K mg Z F ρ μ [] [] H->FinF K mg Z F ρ Q E (act μ)->codeAny (model P w) A (.call (.ref f) ⟨[],[]⟩) (CR (L2.CX P w) outer P w H s Q E) s
def WL (m:ME) (δ:FL.Loc):Mem->OutF:=fun μ=>match m (hide δ) μ with
 | .ok s _ μ' => .ok s μ'
 | .exc x _ μ' => .exc x μ'
 | .bad=>.bad
abbrev OD (E:XK):WX:=fun c d _ H=>E c d H
theorem CW {k:Nat} {f c':Addr} {q:Str} {params:Arguments} {body:Expr} {scope:Scope} {dV doc pm ctv:Value} {bs:List (Str×Value)} {F0 Z0:Hp} {ρ0:List Addr} {μ0:Mem} {δ:FL.Loc} {m:ME} (I:Inv X pins σ H s) (S:GP X Z0 F0 ρ0 μ0 δ σ H) (L:LmS X.N X.env.scope scope) (hN:X.N.Nodup)
  (eq:X.env.qual ++ "<lambda>" = q)
  (hf:s.heap.get? f=some (PySem.W.kdv_obj "<lambda>" q params (.expr body) scope (cloFrom X.env.cells scope.names []) dV doc pm c' ctv)) (hfn:H f=none) (hfr:f∉frs X.stack) (hco:F0 c'=some (CodeO c' q))
  (hbind:∀ s1:Shared,Un (frs X.stack) [] H H s.heap s.heap->(∀ b o,s.heap.get? b=some o->H b=none->b∉frs X.stack->s1.heap.get? b=some o)->BindsTo s1 (PySem.W.kdv_fn "<lambda>" q params (.expr body) scope (cloFrom X.env.cells scope.names []) dV doc pm (.ref c') ctv) ⟨[],[]⟩ bs)
  (hloc:∀ y∈bs,scope.names.lookup y.1=some .local)
  (hbody:∀ (A:Around) (outer:List Env) (s:Shared) (H:Hp) (E:XK),Cs (lamCx X A outer s H E scope f c') (OD E) k X.N scope->JE (lamCx X A outer s H E scope f c') (OD E) body m) :
  Act X.prog X.w X.K X.mg X.base (k+1) X.stack f F0 ρ0 (WL m δ) s H:=by
 subst eq;refine ⟨⟨⟨_,_,_,_,hf⟩,hfn,hfr⟩,fun A outer s1 HZ Q E Z F ρ μ hr e0 un l lr S1 fin => ?_⟩;have kept:∀ b o,s.heap.get? b=some o->H b=none->b∉frs X.stack->s1.heap.get? b=some o:=fun b o e n hb=>un.keep b o e n hb (by simp);have of1:=kept f _ hf hfn hfr;have hc1:HZ c'=some (CodeO c' (X.env.qual ++ "<lambda>")):=by
  rcases S1.le c' _ (l _ _ hco) with z | ⟨_,_,z,_⟩
  ·exact z
  ·unfold CodeO at z
   cases z
 obtain ⟨⟨oc,vs,t,hoc,hdc,hvc⟩,_,_⟩:=e0.hok c' _ hc1;have lim:s1.heap.NoLimit:=e0.mod.nolimit.keeps fun b o e=>(e0.bs b o e).1;refine PySem.W.kla_callFunE hr.r.depth of1 rfl L.co L.gen rfl ⟨c',oc,vs,t,rfl,hoc,hdc,hvc⟩ (hbind s1 (Un.kept fun _ _ z=>z) kept _ _ _ _ ?_);refine wpAny_newFunctionEnv (fun y hy=>(L.own y hy).1) hloc (fun h₁ hns hsb=>⟨lim.fresh _ hsb,?_⟩) L.kind
 show codeAny _ _ (.expr body (lamEnv X scope s1.heap.objs.size f c')) _ _;have kp:∀ b o,s1.heap.get? b=some o->h₁.get? b=some o:=fun b o e=>hsb.extBut b o (Nat.ne_of_lt (Heap.lt_size e)) (Heap.get?_push_of_some _ e);have J:Inv (lamCx X A outer s1 HZ E scope f c') [] σ HZ { s1 with heap:=h₁,toks:=s1.toks+bs.length }:=Jq I L e0 hr.r.hd un hns kp;have C:Cs (lamCx X A outer s1 HZ E scope f c') (OD E) k X.N scope:=⟨rfl,hr.deeper _,takes_of rfl rfl rfl rfl,rfl,rfl,hN⟩;refine PySem.W.kla_codeExpr (wpAny_mono ((hbody A outer s1 HZ E C).run [] _ σ HZ Q J ⟨Z,F,ρ,μ,hide δ,S.borrow S1 l lr,?_⟩) (fun v s' hq => ?_) fun e s' hq=>hq)
 ·unfold WL at fin
  cases em:m (hide δ) μ with
  | ok sl δ' μ' =>
    rw [em] at fin;exact fun H' F' ρ' l2 lr2 S2 v vr=>fin v H' F' ρ' l2 lr2 S2.drop vr.r
  | exc x δ' μ' =>
    rw [em] at fin;exact fun c d H' F' ρ' l2 lr2 S2 er=>fin c d H' F' ρ' l2 lr2 S2.drop er
  | bad=>rw [em] at fin; exact fin
 ·obtain ⟨w',H',J',rv,q⟩:=hq
  exact ⟨w',H',J'.os,J'.bare,J'.base,J'.hok,rv,q⟩
end
section
variable {X : Cx} {pins : List (Addr × Obj)} {σ : L2.St} {H Z F : Hp} {ρ : List Addr} {μ : Mem} {δ : FL.Loc} {s : Shared}
theorem P0 (I:Inv X pins σ H s) {f:Addr} (hf:s.heap.objs.size<=f):f∉frs X.stack:=fun z=>by
 rcases List.mem_cons.mp (I.stkSub _ z) with e | e
 ·have h1:=I.lt
  rw [← e] at h1;exact absurd (Nat.lt_of_lt_of_le h1 hf) (Nat.lt_irrefl _)
 ·exact I.nofs hf e
theorem OC {j:Nat} {c P:Addr} {q:Str} {params:Arguments} {body:Expr} {scope:Scope} {dV:Value} {pos:Pos} {fl:Nat} {E:Value->Shared->Prop} {Q:Value->Shared->Prop} (I:Inv X pins σ H s) (S:GP X Z F ρ μ δ σ H) (hj:μ[j]?=some (.tab P q))
  (TB:TabB X.base X.mg c P) (hcode:X.env.code = .ref c) (eq:X.env.qual ++ "<lambda>" = q) (hfree:∀ y∈scope.names,y.2 = .free->∃ c,X.env.cells.lookup y.1=some c)
  (h:∀ (f c':Addr) (pm ctv doc:Value) (H1 F1:Hp) (s':Shared),Inv X pins σ H1 s'->Le Z F F1->GP X Z F1 ρ μ δ σ H1->s'.heap.get? f=some (PySem.W.kdv_obj "<lambda>" q params (.expr body) scope (cloFrom X.env.cells scope.names []) dV doc pm c' ctv)->H1 f=none->f∉frs X.stack ->
   F1 c'=some (CodeO c' q)->(∀ b o,H b=none->s.heap.get? b=some o->s'.heap.get? b=some o/\H1 b=none)->Q (.ref f) s') :
  wpAny (model X.prog X.w) X.A (makeTail "<lambda>" (X.env.qual ++ "<lambda>") params (.expr body) scope X.env dV .none none pos fl) Q E s:=by
 subst eq;obtain ⟨_,ps,hP,ht,ha⟩:=S.tabAt hj;have bP:s.heap.BuiltinsAt X.mg P:=TB.bm.keeps I.bk;have hP':s.heap.get? P=some { cls:=.none,data:=.fields ps }:=I.hok P _ hP;cases hc:codeAmong pos ps.toList with
 | none =>
   refine PySem.W.kdv_makeTail (mg:=X.mg) (c:=c) (P:=P) (ps:=ps) (closure_ok hfree) I.ok.glob (I.mod.glob.keeps I.bk) hcode (TB.code.keeps I.bk) hP' ht hc TB.gP bP fun c' ctv doc h' tk hx hge hlt hrec htb => ?_;obtain ⟨c2,oc,vs,t,e2,hoc,hd,hv⟩:=hrec;cases e2;have hsz:s.heap.objs.size<=h'.objs.size:=Nat.le_trans hge (Nat.le_of_lt hlt);have nC:H c'=none:=I.hok.fresh hge;have I1:=inv_table (t':=tk) (more:=#[rawInt pos.line,rawInt pos.col,.ref c']) (h':=h'.push (PySem.W.kdv_obj "<lambda>" (X.env.qual ++ "<lambda>") params (.expr body) scope (cloFrom X.env.cells scope.names []) dV doc ((X.mg "__name__").getD .none) c' ctv)) I hP
    (fun b o hb e=>Heap.get?_push_of_some _ (hx b o hb e)) (Heap.get?_push_of_some _ htb) hge ⟨oc,vs,t,Heap.get?_push_of_some _ hoc,hd,hv⟩
   obtain ⟨F1,l,hF,S1⟩:=S.tabNew (pos:=pos) hj hP ht ha nC;refine h h'.objs.size c' ((X.mg "__name__").getD .none) ctv doc _ F1 _ I1 l S1 (Heap.get?_push_size _ rfl) ?_ (P0 I hsz) hF fun b o n e=>⟨Heap.get?_push_of_some _ (hx b o (fun z => ?_) e),?_⟩
   ·have n1:h'.objs.size≠c':=Nat.ne_of_gt hlt
    have n2:h'.objs.size≠P:=Nat.ne_of_gt (Nat.lt_of_lt_of_le (Heap.lt_size hP') hsz);rw [upd_ne n1,upd_ne n2];exact I.hok.fresh hsz
   ·rw [z,hP] at n
    cases n
   ·have m1:b≠c':=Nat.ne_of_lt (Nat.lt_of_lt_of_le (Heap.lt_size e) hge)
    have m2:b≠P:=fun z=>by
     rw [z,hP] at n;cases n
    rw [upd_ne m1,upd_ne m2];exact n
 | some cv =>
   obtain ⟨c',e,hco⟩:=ha pos cv hc;subst e;refine PySem.W.kdv_makeTailHit (mg:=X.mg) (c:=c) (P:=P) (ps:=ps) (closure_ok hfree) I.ok.glob (I.mod.glob.keeps I.bk) hcode (TB.code.keeps I.bk) hP' ht hc bP fun ctv doc h' tk hx hsz => ?_;have I1:Inv X pins σ H { s with heap:=h'.push (PySem.W.kdv_obj "<lambda>" (X.env.qual ++ "<lambda>") params (.expr body) scope (cloFrom X.env.cells scope.names []) dV doc ((X.mg "__name__").getD .none) c' ctv),toks:=tk }:=I.kept fun b o e=>Heap.get?_push_of_some _ (hx b o e);exact h h'.objs.size c' ((X.mg "__name__").getD .none) ctv doc H F _ I1 .refl S (Heap.get?_push_size _ rfl) (I.hok.fresh hsz) (P0 I hsz) hco fun b o n e=>⟨Heap.get?_push_of_some _ (hx b o e),n⟩
end
structure Hlp (P:Program) (w:World) (K:PySem.W.Frag) (mg:Str->Option Value) (base:Heap) (k:Nat) (x:Str) (m:(Mem->OutF)->Mem->OutF):Prop where
 ex:∃ g:Addr,mg x=some (.ref g)/\PySem.W.keepIn K (.ref g)=true /\
  ∀ (A:Around) (outer:List Env) (s:Shared) (H:Hp) (f:Addr) (Q:VK) (E:XK) (act:Mem->OutF) (Z F:Hp) (ρ:List Addr) (μ:Mem),RmG (k+1) A->Env0 P w K mg base A outer s H->Sim K mg Z F ρ μ [] [] H->Act P w K mg base k outer f F ρ act s H ->
   FinF K mg Z F ρ Q E (m act μ)->codeAny (model P w) A (.call (.ref g) ⟨[.ref f],[]⟩) (CR (L2.CX P w) outer P w H s Q E) s
structure Cm (X:Cx) (W:WX) (k:Nat) (N:List Str) (sc:Scope) (q:Str) (P:Addr):Prop extends Cd X W k N sc where
 tab:∃ c,X.env.code = .ref c/\TabB X.base X.mg c P
 qual:X.env.qual ++ "<lambda>" = q
def Wg (h:(Mem->OutF)->Mem->OutF) (j:Nat) (P:Addr) (q:Str) (m:ME):ME:=fun δ μ=>match μ[j]? with
 | some (.tab P' q')=>if P'=P/\q'=q then (match h (WL m δ) μ with
   | .ok s μ' => .ok s δ μ'
   | .exc x μ' => .exc x δ μ'
   | .bad=>.bad) else .bad
 | _=>.bad
section
variable {X : Cx} {W : WX} {k : Nat} {N : List Str} {sc : Scope} {q : Str} {P : Addr}
theorem OB {pins:List (Addr×Obj)} {σ:L2.St} {H Z F:Hp} {ρ:List Addr} {μ:Mem} {δ:FL.Loc} {s:Shared} {kh:Nat} {f c':Addr} {params:Arguments} {body:Expr} {scope:Scope} {dV doc pm ctv:Value} {bs:List (Str×Value)} {h:(Mem->OutF)->Mem->OutF} {m:ME} {Q:VK} {g:Addr}
  (C:Cm X W k N sc q P) (hk:kh+2<=k) (hh:∀ (A:Around) (outer:List Env) (s:Shared) (H:Hp) (f:Addr) (Q:VK) (E:XK) (act:Mem->OutF) (Z F:Hp) (ρ:List Addr) (μ:Mem),RmG (kh+2) A->Env0 X.prog X.w X.K X.mg X.base A outer s H->Sim X.K X.mg Z F ρ μ [] [] H->Act X.prog X.w X.K X.mg X.base (kh+1) outer f F ρ act s H ->
   FinF X.K X.mg Z F ρ Q E (h act μ)->codeAny (model X.prog X.w) A (.call (.ref g) ⟨[.ref f],[]⟩) (CR (L2.CX X.prog X.w) outer X.prog X.w H s Q E) s)
  (I:Inv X pins σ H s) (S:GP X Z F ρ μ δ σ H) (L:LmS N sc scope)
  (hf:s.heap.get? f=some (PySem.W.kdv_obj "<lambda>" q params (.expr body) scope (cloFrom X.env.cells scope.names []) dV doc pm c' ctv)) (hfn:H f=none) (hfr:f∉frs X.stack) (hco:F c'=some (CodeO c' q))
  (hbind:∀ s1:Shared,(∀ b o,s.heap.get? b=some o->H b=none->b∉frs X.stack->s1.heap.get? b=some o)->BindsTo s1 (PySem.W.kdv_fn "<lambda>" q params (.expr body) scope (cloFrom X.env.cells scope.names []) dV doc pm (.ref c') ctv) ⟨[],[]⟩ bs)
  (hloc:∀ y∈bs,scope.names.lookup y.1=some .local)
  (hbody:∀ (Y:Cx) (V:WX),Y.prog=X.prog->Y.w=X.w->Y.K=X.K->Y.mg=X.mg->Y.base=X.base->Cs Y V kh N scope->JE Y V body m)
  (hq:FinE X W Z F ρ σ (fun s δ' _ F' ρ' H' => ∀ v,VR X.K X.mg Z F' ρ' δ' σ H' v s->Q v H') (match h (WL m δ) μ with
   | .ok s μ' => .ok s δ μ'
   | .exc x μ' => .exc x δ μ'
   | .bad=>.bad)) :
  wpAny (model X.prog X.w) X.A (call (.ref g) [.ref f]) (EP X pins σ Q) X.xe s:=by
 have eN:=C.hN;have eS:=C.hsc;have act:Act X.prog X.w X.K X.mg X.base (kh+1) X.stack f F ρ (WL m δ) s H:=CW I S (by rw [eN,eS]; exact L) (by rw [eN]; exact C.nd) C.qual hf hfn hfr hco (fun s1 _ kp=>hbind s1 kp) hloc
  fun A outer s H E C2=>hbody _ _ rfl rfl rfl rfl rfl (by rw [eN] at C2; exact C2)
 have S0:=S.enter;refine wpAny_call (codeAny_mono (hh X.A X.stack s H f Q (WE W σ) (WL m δ) (zone Z H δ σ) F ρ μ (C.rm.mono hk) I.env0 S0 act ?_) fun res s' hr => ?_)
 ·revert hq
  generalize h (WL m δ) μ=o;intro hq;cases o with
  | ok sl μ2=>exact fun v H' F' ρ' l lr S' rv=>hq H' F' ρ' (S.leLeave l) (S.leRLeave lr) (S.leave S' l lr) v (S.came rv)
  | exc x μ2=>exact fun c d H' F' ρ' l lr S' er=>hq c d H' F' ρ' (S.leLeave l) (S.leRLeave lr) (S.leave S' l lr) er
  | bad=>exact hq
 ·cases res with
  | error e=>exact passAt C.tk σ pins H s e s' I hr
  | ok fl =>
    cases fl with
    | ret u=>exact I.after hr
    | next=>exact False.elim hr
    | brk=>exact False.elim hr
    | cont=>exact False.elim hr
end
section
variable {X : Cx} {W : WX} {k : Nat} {N : List Str} {sc : Scope} {q : Str} {P : Addr} {j kh : Nat} {x : Str} {params : Arguments} {body : Expr} {scope : Scope} {lpos p pos : Pos} {h : (Mem -> OutF) -> Mem -> OutF} {m : ME}
theorem Cm.lam0 (C:Cm X W k N sc q P) (hH:Hlp X.prog X.w X.K X.mg X.base (kh+1) x h) (hk:kh+2<=k) (hg:Th sc x=true) (L:Gv N sc scope=true)
  (hbody:∀ (Y:Cx) (V:WX),Y.prog=X.prog->Y.w=X.w->Y.K=X.K->Y.mg=X.mg->Y.base=X.base->Cs Y V kh N scope->JE Y V body m)
  (hdef:defaultsOf params X.env=([],[]):=by rfl)
  (hbind:∀ (q:Str) (cl:List (Str×Addr)) (doc pm cv ctv:Value),bindArgs (PySem.W.kdv_fn "<lambda>" q params (.expr body) scope cl .none doc pm cv ctv) ⟨[],[]⟩=pure []:=by intro _ _ _ _ _ _; rfl) :
  JE X W (.Call (.Name x p) [.Lambda params body scope lpos] [] pos) (Wg h j P q m):=by
 refine ⟨fun pins s σ H Q I hr => ?_⟩;obtain ⟨Z,F,ρ,μ,δ,S,fin⟩:=hr;obtain ⟨g,hm,hkp,hh⟩:=hH.ex;obtain ⟨g1,g2,g3⟩:=C.gl hg;obtain ⟨c,hcode,TB⟩:=C.tab;have LS:=Jr L;have LX:LmS N X.env.scope scope:=by rw [C.hsc]; exact LS
 unfold Wg at fin;cases ej:μ[j]? with
 | none=>simp only [ej] at fin; exact fin.elim
 | some o =>
   cases o with
   | lst _=>simp only [ej] at fin; exact fin.elim
   | dct _ _=>simp only [ej] at fin; exact fin.elim
   | ins _ _ _ _=>simp only [ej] at fin; exact fin.elim
   | idc _=>simp only [ej] at fin; exact fin.elim
   | tpk _=>simp only [ej] at fin; exact fin.elim
   | fdc _ _=>simp only [ej] at fin; exact fin.elim
   | tab P' q' =>
     simp only [ej] at fin;by_cases hPq:P'=P/\q'=q
     ·rw [if_pos hPq] at fin
      obtain ⟨rfl,rfl⟩:=hPq;refine wpAny_Call_Name_kw (ld_glob I g1 hm ?_ g2);refine PySem.W.callWith_K (h₀:=X.base) I.ok.mod.kin hkp ?_ (by rfl) (by rfl)
      show wpAny _ _ (spliced ((false,eval (.Lambda params body scope lpos) X.env) :: backTo pos (starEach [] X.env))) _ _ s;refine Calls.spliced_cons (PySem.W.kla_eval hdef ?_);rw [makeFunction_eq];simp only [List.zip_nil_right,List.filterMap_nil,List.isEmpty_nil,if_true,pure_bind];refine OC I S ej TB hcode C.qual (fun y hy=>LX.has I.ok y hy) fun f c' pm ctv doc H1 F1 s' I1 l S1 hf hfn hfr hco _ => ?_;exact Calls.spliced_nil ⟨I1.kIn,OB C hk hh I1 S1 LS hf hfn hfr hco (fun s1 _=>.of_eq (hbind _ _ _ _ _ _)) (fun y hy=>nomatch hy) hbody (fin.mono l .refl)⟩
     ·rw [if_neg hPq] at fin
      exact fin.elim
theorem Cm.lam1 {y:Str} {ap dp:Pos} {i:Int} {di:Nat} (C:Cm X W k N sc q P) (hH:Hlp X.prog X.w X.K X.mg X.base (kh+1) x h) (hk:kh+2<=k) (hg:Th sc x=true) (L:Gv N sc scope=true)
  (hbody:∀ (Y:Cx) (V:WX),Y.prog=X.prog->Y.w=X.w->Y.K=X.K->Y.mg=X.mg->Y.base=X.base->Cs Y V kh N scope->JE Y V body m)
  (hy:scope.names.lookup y=some .local)
  (hbind:∀ (q:Str) (cl:List (Str×Addr)) (T:Addr) (doc pm cv ctv v:Value),∃ kk,bindArgs (PySem.W.kdv_fn "<lambda>" q ⟨[],[⟨y,none,ap⟩],none,[],[],none,[.Constant (.int i) di dp]⟩ (.expr body) scope cl (.ref T) doc pm cv ctv) ⟨[],[]⟩=seqItems? (.ref T) >>= kk/\kk (some #[v])=pure [(y,v)]:=by intro _ _ _ _ _ _ _ _; exact ⟨_,rfl,rfl⟩) :
  JE X W (.Call (.Name x p) [.Lambda ⟨[],[⟨y,none,ap⟩],none,[],[],none,[.Constant (.int i) di dp]⟩ body scope lpos] [] pos) (Wg h j P q m):=by
 refine ⟨fun pins s σ H Q I hr => ?_⟩;obtain ⟨Z,F,ρ,μ,δ,S,fin⟩:=hr;obtain ⟨g,hm,hkp,hh⟩:=hH.ex;obtain ⟨g1,g2,g3⟩:=C.gl hg;obtain ⟨c,hcode,TB⟩:=C.tab;have LS:=Jr L;have LX:LmS N X.env.scope scope:=by rw [C.hsc]; exact LS
 unfold Wg at fin;cases ej:μ[j]? with
 | none=>simp only [ej] at fin; exact fin.elim
 | some o =>
   cases o with
   | lst _=>simp only [ej] at fin; exact fin.elim
   | dct _ _=>simp only [ej] at fin; exact fin.elim
   | ins _ _ _ _=>simp only [ej] at fin; exact fin.elim
   | idc _=>simp only [ej] at fin; exact fin.elim
   | tpk _=>simp only [ej] at fin; exact fin.elim
   | fdc _ _=>simp only [ej] at fin; exact fin.elim
   | tab P' q' =>
     simp only [ej] at fin;by_cases hPq:P'=P/\q'=q
     ·rw [if_pos hPq] at fin
      obtain ⟨rfl,rfl⟩:=hPq;refine wpAny_Call_Name_kw (ld_glob I g1 hm ?_ g2);refine PySem.W.callWith_K (h₀:=X.base) I.ok.mod.kin hkp ?_ (by rfl) (by rfl)
      show wpAny _ _ (spliced ((false,eval (.Lambda ⟨[],[⟨y,none,ap⟩],none,[],[],none,[.Constant (.int i) di dp]⟩ body scope lpos) X.env) :: backTo pos (starEach [] X.env))) _ _ s;refine Calls.spliced_cons (PySem.W.kdv_lam rfl rfl ?_);refine PySem.W.kdv_all1 (wpAny_Constant_int (PySem.W.kdv_all0 ?_));rw [makeFunction_eq];simp only [List.zip_nil_right,List.filterMap_nil,List.isEmpty_nil,if_true,pure_bind];refine wpAny_bind (wpAny_newTextTuple ?_);obtain ⟨hp,gg,dd,tk,os⟩:=s;have I0:Inv X pins σ H ⟨hp.push { cls:=.type "tuple",data:=.seq #[.int i tk] },gg,dd,tk+1,os⟩:=I.kept (t':=tk+1) fun b o e=>Heap.get?_push_of_some _ e;have nT:H hp.objs.size=none:=I.hok.fresh (Nat.le_refl _);have fT:hp.objs.size∉frs X.stack:=P0 I (Nat.le_refl _);refine OC I0 S ej TB hcode C.qual (fun y hy=>LX.has I.ok y hy) fun f c' pm ctv doc H1 F1 s' I1 l S1 hf hfn hfr hco keep => ?_;obtain ⟨gT,nT1⟩:=keep hp.objs.size _ nT (Heap.get?_push_size hp rfl);refine Calls.spliced_nil ⟨I1.kIn,OB (bs:=[(y,.int i tk)]) C hk hh I1 S1 LS hf hfn hfr hco (fun s1 kp => ?_) (fun z hz => ?_) hbody (fin.mono l .refl)⟩
      ·obtain ⟨kk,e1,e2⟩:=hbind q' (cloFrom X.env.cells scope.names []) hp.objs.size doc pm (.ref c') ctv (.int i tk)
       exact .of_defaults rfl (kp _ _ gT nT1 fT) rfl e1 e2
      ·rcases List.mem_cons.mp hz with rfl | hz
       ·exact hy
       ·cases hz
     ·rw [if_neg hPq] at fin
      exact fin.elim
end
section
variable {K : PySem.W.Frag} {mg : Str -> Option Value} {Z F F1 : Hp} {ρ ρ1 : List Addr} {μ : Mem} {δ : FL.Loc} {σ : L2.St} {H : Hp} {Q : VK} {E : XK}
theorem FinF.mono {r:OutF} (h:FinF K mg Z F ρ Q E r) (l:Le Z F F1) (lr:LeR Z ρ ρ1):FinF K mg Z F1 ρ1 Q E r:=by
 cases r with
 | ok s μ=>exact fun v H' F' ρ' l' lr' S rv=>h v H' F' ρ' (l.trans l') (lr.trans lr') S rv
 | exc x μ=>exact fun c d H' F' ρ' l' lr' S er=>h c d H' F' ρ' (l.trans l') (lr.trans lr') S er
 | bad=>exact h
theorem Jp {X:Cx} {W:WX} {r:OutS} (hW:∀ c d σ' H',E c d H'->W c d σ' H') (h:FinF X.K X.mg Z F ρ Q E r.fin):FinS X W Z F ρ { nx:=fun _ H' => Q .non H',rt:=Q } r:=by
 cases r with
 | nx δ μ' => exact fun σ' H' F' ρ' l lr S' => h .non H' F' ρ' l lr S'.drop .non
 | rt s μ' => exact fun v H' F' ρ' l lr S' rv=>h v H' F' ρ' l lr S' rv
 | bk δ μ' => exact h.elim
 | ct δ μ' => exact h.elim
 | exc x δ μ' => exact fun c d σ' H' F' ρ' l lr S' er=>hW _ _ _ _ (h c d H' F' ρ' l lr S'.drop er)
 | bad=>exact h
theorem Sim.frs (S:Sim K mg Z F ρ μ [] [] H) (hl:σ.length=δ.length) (h:∀ (i:Nat) s,δ[i]?=some (some s)->∃ d v,s = .fr d/\σ[i]?=some (some v)/\Rep K mg F ρ v d):Sim K mg Z F ρ μ δ σ H:=by
 refine ⟨S.le,S.zk,hl,fun i s e => ?_,fun i j p s s' e => ?_,S.mem,S.mlen,S.nod⟩
 ·obtain ⟨d,v,rfl,ev,r⟩:=h i s e
  exact ⟨v,ev,r⟩
 ·obtain ⟨d,v,z,_⟩:=h i _ e
  cases z
end
structure FdL (K:PySem.W.Frag) (x qual:Str) (st:Stmt) (f:Addr) (fd:FuncData) (dV:Value) (c:Addr):Prop where
 ex:∃ (oc:Value) (od:Option Addr) (kV doc pm:Value) (an:Option Addr) (ct:Value) (osl:Array (Option Value)),
  fd=PySem.W.fnOf x qual (defArgs st) (defBody st) (defScope st) dV kV doc pm an (.ref c) ct/\K.lookup f=some { cls:=oc,dict:=od,data:=.func fd,slots:=osl }/\PySem.W.codeIn K (.ref c) qual=true
theorem FdL.fd {K:PySem.W.Frag} {x qual:Str} {st:Stmt} {f:Addr} {fd:FuncData} {dV:Value} {c:Addr} (F:FdL K x qual st f fd dV c):Fd K x qual st f fd dV :=
 let ⟨oc,od,kV,doc,pm,an,ct,osl,h1,h2,h3⟩:=F.ex
 ⟨oc,od,kV,doc,pm,an,.ref c,ct,osl,h1,h2,h3⟩
theorem D7 {P:Program} {w:World} {K:PySem.W.Frag} {mg:Str->Option Value} {base:Heap} {k n:Nat} {f c Pt:Addr} {x qual q:Str} {st:Stmt} {fd:FuncData} {N ps:List Str} {m:MS} {dV:Value} {sc:Scope} (Fz:FdL K x qual st f fd dV c) (TB:TabB base mg c Pt) (S:FnScope N ps sc) (hsc:defScope st=sc) (hn:ps.length=n)
  (hq:∀ (L:Addr),(envOfC qual sc L f (.ref c)).qual ++ "<lambda>" = q)
  (hbody:∀ (X:Cx) (W:WX),X.prog=P->X.w=w->X.K=K->X.mg=mg->X.base=base->Cm X W k N sc q Pt->L' X W (defBody st) m):FnG P w K mg base (L2.CX P w) (k+1) f fd ps (spM K mg (Zu N.length m) n):=by
 subst hsc;subst hn;obtain ⟨oc,od,kV,doc,pm,an,ct,osl,rfl,lk,hcd⟩:=Fz.ex;refine ⟨fun vs H Q E h=>h.1,fun A outer s H args us vs Q E hr e0 hb r hsp => ?_⟩;obtain ⟨hl,Z,F0,ρ,μ,ds,S0,rr,fin⟩:=hsp;have Nk:K.In s.heap:=e0.mod.kin.keeps fun b o e=>(e0.bs b o e).1;have lim:s.heap.NoLimit:=e0.mod.nolimit.keeps fun b o e=>(e0.bs b o e).1;refine codeAny_call_function hr.r.depth (Nk _ _ lk) rfl S.co S.gen rfl (PySem.W.codeRec_of Nk hcd) (hb _ _ _ _ ?_);refine wpAny_newFunctionEnv_cells S.kind (fun ⟨y,u⟩ hy => ?_) fun env eenv s1 xx => ?_
 ·rcases S.par y (List.of_mem_zip hy).1 with z | z
  ·exact Or.inl z
  ·exact Or.inr ⟨z,PySem.W.cellsFrom_some _ _ _ (Or.inl z)⟩
 subst eenv;refine ⟨lim.keeps xx.toInCall.keep,codeAny_func ?_⟩;have ht:=hbody (cxOf (L2.CX P w) P w K mg base N qual (defScope st) f (.ref c) A outer s H E) (OD E) rfl rfl rfl rfl rfl ⟨⟨⟨rfl,hr.deeper _,takes_of rfl rfl rfl rfl,rfl,rfl,S.nd⟩,passes_of rfl,fun _ _=>rfl⟩,⟨c,rfl,TB⟩,hq _⟩;have I:Inv (cxOf (L2.CX P w) P w K mg base N qual (defScope st) f (.ref c) A outer s H E) [] (L2.start N vs) H s1:=inv_start S hr.r.hd e0 hl r xx;refine wpAny_mono (ht.run [] s1 (L2.start N vs) H { nx:=fun _ H' => Q .non H',rt:=Q } I ⟨Z,F0,ρ,μ,_,S0.begin rr,Jp (fun _ _ _ _ z=>z) (WO▸fin)⟩) (fun fl s' hs => ?_) fun e s' hs=>hs;cases fl with
 | ret u =>
   obtain ⟨v,σ',H',J,rv,q⟩:=hs;exact ⟨v,H',J.os,J.bare,J.base,J.hok,rv,q⟩
 | next =>
   obtain ⟨σ',H',J,q⟩:=hs;exact ⟨.non,H',J.os,J.bare,J.base,J.hok,rfl,q⟩
 | brk =>
   obtain ⟨_,_,_,z⟩:=hs;exact z.elim
 | cont =>
   obtain ⟨_,_,_,z⟩:=hs;exact z.elim
theorem Cm.body {X:Cx} {W:WX} {k kh:Nat} {N:List Str} {sc scope:Scope} {q:Str} {P:Addr} {Tx:Program->World->PySem.W.Frag->(Str->Option Value)->Heap->Prop} {body:Expr} {m:ME} (C:Cm X W k N sc q P) (T:Tx X.prog X.w X.K X.mg X.base)
  (h:∀ (Y:Cx) (V:WX),Tx Y.prog Y.w Y.K Y.mg Y.base->Cs Y V kh N scope->JE Y V body m) :
  ∀ (Y:Cx) (V:WX),Y.prog=X.prog->Y.w=X.w->Y.K=X.K->Y.mg=X.mg->Y.base=X.base->Cs Y V kh N scope->JE Y V body m:=fun Y V e1 e2 e3 e4 e5 c=>h Y V (by rw [e1,e2,e3,e4,e5]; exact T) c
def Xu:ME:=fun δ μ=>.ok (.own (.dct [] [])) δ μ
theorem Wf {X:Cx} {W:WX} {pos:Pos}:JE X W (.Dict [] [] pos) Xu:=by
 refine pe_dnewK.imp fun σ H Q ⟨Z,F,ρ,μ,δ,S,q⟩ p hp => ?_;obtain ⟨n1,n2,n3,n4⟩:=S.notIn hp;exact q _ F ρ .refl .refl (S.laid hp) _ ⟨⟨p,rfl,⟨n1,n2,n3⟩,[],upd_same,rfl,.nil⟩,fun o p' z z2=>by cases z2; exact n4⟩
end FL
namespace FL
open PySem PySem.Spec PyProof.Rows L2 LamX
section
variable {X : Cx} {pins : List (Addr × Obj)} {σ : L2.St} {H : Hp} {s sI : Shared}
theorem Gu {P:Program} {w:World} {a:Addr} {cls:Value} {d:Option Addr} {oe:Obj} {vs:Array Value} {h:Heap} {H':Hp} (he:h.get? a=some oe) (h1:oe.cls=cls) (h2:oe.dict=d) (h3:oe.data = .fields vs):ObjOk P w H' h a (Sf a cls d) :=
 ⟨⟨oe,vs,he,h1,h2,h3⟩,⟨oe,he⟩,fun g1 g2 ⟨o,ws,x1,x2,x3,x4⟩ st=>⟨o,ws,st _ x1,x2,x3,x4⟩⟩
theorem AQ {a:Addr} {cls:Value} {d:Option Addr} {oe:Obj} {vs:Array Value} (J:Inv X pins σ H s) (na:H a=none) (he:s.heap.get? a=some oe) (h1:oe.cls=cls) (h2:oe.dict=d) (h3:oe.data = .fields vs) (n0:X.s_0.heap.get? a=none) (nL:a≠X.env.locals)
  (np:∀ p∈X.pn++pins,p.1≠a):Inv X pins σ (upd H a (Sf a cls d)) s:=by
 have off:∀ b,b≠a->upd H a (Sf a cls d) b=H b:=fun b z=>upd_ne z;have had:∀ {b o},H b=some o->b≠a:=fun {b o} q z=>by
  rw [z,na] at q;cases q
 have h0:∀ {b o},X.s_0.heap.get? b=some o->b≠a:=fun {b o} q z=>by
  rw [z,n0] at q;cases q
 refine ⟨J.ok,J.os,J.bare,⟨J.base.keep,J.base.slot,fun b o e n hx => ?_,J.base.there,fun b xs e => ?_,fun b o u e => ?_,fun b ps e => ?_⟩,J.loc,J.cell,?_,fun y c e => ?_,fun p hp => ?_,fun b o e => ?_,J.len⟩
 ·rw [off b (h0 e)]
  exact J.base.free b o e n hx
 ·have z:=J.base.tups b xs e
  rw [off b (had z)];exact z
 ·have z:=J.base.frzs b o u e
  rw [off b (had z)];exact z
 ·obtain ⟨more,z⟩:=J.base.tbls b ps e
  exact ⟨more,by rw [off b (had z)]; exact z⟩
 ·rw [off _ (Ne.symm nL)]
  exact J.free
 ·have ne:c≠a:=fun z=>by
   obtain ⟨v,o,q1,q2⟩:=J.cell y c e;rw [z,he] at q1;cases q1;rw [h3] at q2;cases q2
  rw [off c ne];exact J.freeC y c e
 ·obtain ⟨q1,q2,q3⟩:=J.pin p hp
  exact ⟨q1,by rw [off _ (np p hp)]; exact q2,q3⟩
 ·by_cases z:b=a
  ·rw [z,upd_same] at e
   cases e;rw [z];exact Gu he h1 h2 h3
  ·rw [off b z] at e
   refine (J.hok b o e).stay (fun c v _ q=>q) (fun c q => ?_) fun c xs q => ?_
   ·rw [off c (had q)]
    exact q
   ·rw [off c (had q)]
    exact q
end
structure ExcK (K:PySem.W.Frag) (C:Addr):Prop where
 cl:(PySem.W.clsIn K C).isSome=true
 ga:PySem.W.findIn K (.ref C) "__getattribute__" = some (some (.builtin "BaseException.__getattribute__"))
 gt:PySem.W.findIn K (.ref C) "__getattr__" = some none
 sb:PySem.W.subIn K (.ref C) (.type "BaseException")=some true
 ca:PySem.W.findIn K (.ref C) "__class__" = some (some (.builtin "object.__class__"))
 sp:PySem.W.specialIn K (.builtin "object.__class__") "__get__" = some (some (.builtin "getset_descriptor.__get__"))
 tk:PySem.W.takesIn K (.builtin "object.__class__")=some true
 ob:PySem.W.mroIn K C (.type "object")=some true
def AN (K:PySem.W.Frag) (mg:Str->Option Value) (isa:String->String->Option Bool):Prop:=∀ c d b C D,isa c d=some b->mg (Str.ofString c)=some (.ref C)->mg (Str.ofString d)=some (.ref D)->ExcK K C/\PySem.W.kitOne K (.ref C) (.ref D)=some b
def AM (K:PySem.W.Frag):List V->Hp->VK->Prop:=fun xs H Q => ∃ (a C D dx:Addr) (fs:List (Str×V)) (b:Bool),xs=[.ref a,.ref D]/\H a=some (Sf a (.ref C) (some dx))/\Rd H dx (.xd fs)/\ExcK K C/\PySem.W.kitOne K (.ref C) (.ref D)=some b/\Q (.bl b) H
theorem XO {X:Cx}:CallR X (.builtin "isinstance") (AM X.K):=by
 intro pins s σ H xs us Q I r h;obtain ⟨a,C,D,dx,fs,b,rfl,ha,hd,E,ko,q⟩:=h;cases r with
 | cons rx rr =>
   cases rr with
   | cons rt rr =>
     cases rr;cases rx;cases rt;obtain ⟨⟨oe,vs,h1,h2,h3,h4⟩,_,_⟩:=I.hok a _ ha;have hx:∃ od,s.heap.get? dx=some od:=by
      rcases hd with hd | ⟨ob,hd⟩
      ·obtain ⟨mA,hns,_⟩:=I.hok dx _ hd
       obtain ⟨o,es,ep,e,_⟩:=hns;exact ⟨o,e⟩
      ·exact ⟨_,(I.hok dx _ hd).1⟩
     obtain ⟨od,hod⟩:=hx;have J:PySem.W.InstAt s.heap a oe C (some od):=by
      obtain ⟨oc,oo,oda,osl⟩:=oe;dsimp only at h2 h3 h4;subst h2 h3 h4;exact ⟨h1,rfl,rfl,hod⟩
     exact PySem.W.kia_one (PySem.W.kitx_exc E.cl E.ga E.gt E.sb E.ca E.sp E.tk E.ob) I.kIn J ko (fun z=>nomatch z) fun tk=>⟨.bl b,H,I.kept (t':=tk) fun _ _ z=>z,rfl,q⟩
def Yq (isa:String->String->Option Bool):List D->Option FL.Slot
 | [.exn c _ _,.glo d]=>(isa c d).map fun b=>tb b
 | _=>none
theorem UD {X:Cx} {isa:String->String->Option Bool} (hi:AN X.K X.mg isa) (hc:∀ d b c,isa c d=some b->∃ D,X.mg (Str.ofString d)=some (.ref D)):RLJ X (AM X.K) (Yq isa):=by
 intro Z F ρ μ δ σ H xs ds s Q S b e q;unfold Yq at e
 split at e
 ·rename_i c at_ v d
  obtain ⟨k,e1,e2⟩:=Option.map_eq_some_iff.mp e;subst e2;obtain ⟨x,y,rfl,hx,hy⟩:=b.two;obtain ⟨D,hD⟩:=hc _ _ _ e1;have rx:=hx.rep (fun o z=>by cases o <;> cases z);have ry:=hy.rep (fun o z=>by cases o <;> cases z);cases rx with
  | exn h1 h2 h3 h4 =>
    cases ry with
    | glo g1 g2 =>
      rw [hD] at g1;cases g1;have ey:y=V.ref D:=by
       cases y with
       | ref p=>cases g2; rfl
       | non=>cases g2
       | bl _=>cases g2
       | int _=>obtain ⟨_,z⟩:=g2; cases z
       | str _=>obtain ⟨_,z⟩:=g2; cases z
       | byt _=>obtain ⟨_,z⟩:=g2; cases z
       | flt _=>obtain ⟨_,z⟩:=g2; cases z
       | ty _=>cases g2
      subst ey;obtain ⟨i1,i2⟩:=hi _ _ _ _ _ e1 h1 hD;have hH:H _=some _:=(S.le _ _ h3).elim (fun z=>z) fun ⟨ob,kvs,z,_⟩=>by
       unfold Sf at z;cases z
      exact ⟨_,_,D,_,_,k,rfl,hH,S.rd h2,i1,i2,q _ H F .refl S ⟨.bl,fun o p z=>by cases z⟩⟩
 ·cases e
theorem Cs.cls {X:Cx} {W:WX} {k:Nat} {N:List Str} {sc:Scope} {x:String} {pos:Pos} (C:Cs X W k N sc) (h:Th sc (Str.ofString x)=true) (hm:∃ D:Addr,X.mg (Str.ofString x)=some (.ref D)):JE X W (.Name (Str.ofString x) pos) (mD (.glo x)) :=
 let ⟨g1,g2,g3⟩:=C.gl h
 let ⟨D,hm⟩:=hm
 DD g1 hm (v:=.ref D) rfl g2
def CV (lo c:Int) (n:Nat):List D:=(List.range n).map fun i=>.int (lo+(i:Nat) * c)
def zo (o o' o2:Opn):MM (List D):=fun δ μ=>(RW [o,o',o2] δ μ).bind fun rs δ1 μ1=>match OR.ats δ1 μ1 rs with
 | some [.int i,.int j,.int c]=>if c≠0/\c.natAbs < 1073741824/\Builtin.Range.small i j c=true/\0<=Builtin.Range.rangeSize i j c then .ok (CV i c (Builtin.Range.rangeSize i j c).toNat) δ1 μ1 else .bad
 | _=>.bad
theorem Cd.parT {X:Cx} {W:WX} {k:Nat} {N:List Str} {sc:Scope} {i j:Nat} {x y:Str} {a b:Expr} {ma mb:ME} {px py pt pos:Pos} {kt k2 pt2} (C:Cd X W k N sc) (hi:OF N sc i x=true) (hj:OF N sc j y=true) (ha:JE X W a ma) (hb:JE X W b mb)
  (hw:∀ env:Env,env.scope=sc->swappedStores [.Tuple [.Name x px,.Name y py] kt pt] (.Tuple [a,b] k2 pt2) env=pure none)
  (hs:swapsWithSole [.Tuple [.Name x px,.Name y py] kt pt] (.Tuple [a,b] k2 pt2) pos.line X.env=pure false:=by rfl)
  (h1:starEach [a,b] X.env=(false,eval a X.env) :: starEach [b] X.env:=by rfl) (h2:starEach [b] X.env=(false,eval b X.env) :: starEach [] X.env:=by rfl) :
  JS X W (.Assign [.Tuple [.Name x px,.Name y py] kt pt] (.Tuple [a,b] k2 pt2) pos) (UN i j ma mb) :=
 let ⟨n,i1,i2⟩:=C.loc hi
 let ⟨_,j1,j2⟩:=C.loc hj
 GG C.calm n i1 j1 i2 j2 (C.fn x i2) (C.fn y j2) ha hb (hw X.env C.hsc) hs h1 h2
def D6 (i:Nat):ME:=fun δ μ=>match δ[i]? with
 | some (some s)=>.ok s (δ.set i none) μ
 | _=>.bad
theorem D5 {X:Cx} {W:WX} {e:Expr} {i:Nat} (h:PE X e (tVar i)):JE X W e (D6 i):=by
 refine h.imp fun σ H Q ⟨Z,F,ρ,μ,δ,S,q⟩ => ?_;unfold D6 at q;cases e1:δ[i]? with
 | none=>simp only [e1] at q; exact q.elim
 | some o =>
   cases o with
   | none=>simp only [e1] at q; exact q.elim
   | some s =>
     simp only [e1] at q;obtain ⟨v,ev,r⟩:=S.slot i s e1;have hi:i < σ.length:=(List.getElem?_eq_some_iff.mp ev).1;have same:σ.set i (some v)=σ:=by
      apply List.ext_getElem?
      intro j;by_cases z:j=i
      ·subst z
       rw [List.getElem?_set_self hi,ev]
      ·rw [List.getElem?_set_ne (Ne.symm z)]
     have S0:=S.forget (i:=i) (x:=some v);rw [same] at S0;refine ⟨v,ev,q H F ρ .refl .refl S0 v ⟨r,fun o p z1 z2 j o' e2 e3 => ?_⟩⟩;subst z1 z2;have nj:j≠i:=fun z=>by
      subst z;rw [List.getElem?_set_self (List.getElem?_eq_some_iff.mp e1).1] at e2;cases e2
     rw [List.getElem?_set_ne (Ne.symm nj)] at e2;exact nj (S.apart j i p o' o e2 e1 e3 ev)
end FL
namespace FL
open PySem L2
theorem PZ {a b:String} (h:Str.ofString a=Str.ofString b):a=b:=by
 rw [U7,U7] at h;have e:=RX h;unfold lit at e;have e2:a.toList=b.toList:=by
  have inj:∀ l m:List Char,l.map Char.toNat=m.map Char.toNat->l=m:=by
   intro l
   induction l with
   | nil=>intro m h; cases m with
     | nil=>rfl
     | cons _ _=>cases h
   | cons c l ih =>
     intro m h;cases m with
     | nil=>cases h
     | cons d m =>
       rw [List.map_cons,List.map_cons] at h;injection h with h1 h2
       rw [ih m h2,Char.ext (UInt32.toNat_inj.mp h1)]
  exact inj _ _ e
 exact String.toList_inj.mp e2
def getF:List String->List D->String->Option D
 | k :: ks,d :: ds,f=>if k=f then some d else getF ks ds f
 | _,_,_=>none
def VC:List String->String->List String
 | [],f=>[f]
 | k :: ks,f=>if k=f then k :: ks else k :: VC ks f
def T5:List String->List D->String->D->List D
 | [],_,_,d=>[d]
 | k :: ks,x :: xs,f,d=>if k=f then d :: xs else x :: T5 ks xs f d
 | _ :: _,[],_,_=>[]
abbrev Us (ks:List String) (vs:List V):List (Str×V):=(ks.map Str.ofString).zip vs
section
variable {K : PySem.W.Frag} {mg : Str -> Option Value} {Z F F' : Hp} {ρ ρ' : List Addr} {μ : Mem} {δ : FL.Loc} {σ : L2.St} {H H' : Hp}
theorem OA:∀ {ks:List String} {vs:List V} {ds:List D} {f:String} {d:D},RepL K mg F ρ vs ds->getF ks ds f=some d->∃ v,(Us ks vs).lookup (Str.ofString f)=some v/\Rep K mg F ρ v d
 | k :: ks,_,_,f,d,.cons (v:=v) (vs:=vs) h t,e=>by
   unfold getF at e;by_cases hk:k=f
   ·rw [if_pos hk] at e
    cases e;exact ⟨v,by simp [Us,hk],h⟩
   ·rw [if_neg hk] at e
    obtain ⟨w,e1,e2⟩:=OA t e;refine ⟨w,?_,e2⟩;have:(Str.ofString f == Str.ofString k)=false:=beq_eq_false_iff_ne.mpr fun z=>hk (PZ z).symm;simp only [Us,List.map_cons,List.zip_cons_cons,List.lookup_cons,this];exact e1
 | [],_,_,_,_,_,e=>by cases e
 | _ :: _,_,_,_,_,.nil,e=>by cases e
theorem Tf:∀ {ks:List String} {vs:List V} {ds:List D} {f:String},RepL K mg F ρ vs ds->ks.length=vs.length->getF ks ds f=none->(Us ks vs).lookup (Str.ofString f)=none
 | k :: ks,_,_,f,.cons (v:=v) (vs:=vs) h t,n,e=>by
   unfold getF at e;by_cases hk:k=f
   ·rw [if_pos hk] at e; cases e
   ·rw [if_neg hk] at e
    have:(Str.ofString f == Str.ofString k)=false:=beq_eq_false_iff_ne.mpr fun z=>hk (PZ z).symm;simp only [Us,List.map_cons,List.zip_cons_cons,List.lookup_cons,this];exact Tf t (by simpa using n) e
 | [],_,_,_,_,_,_=>by simp [Us]
 | _ :: _,_,_,_,.nil,n,_=>by simp at n
theorem Oz {v:V} {d:D} (hv:Rep K mg F ρ v d):∀ {ks:List String} {vs:List V} {ds:List D} {f:String},RepL K mg F ρ vs ds->ks.length=vs.length ->
  ∃ vs',putF (Str.ofString f) v (Us ks vs)=Us (VC ks f) vs'/\(VC ks f).length=vs'.length/\RepL K mg F ρ vs' (T5 ks ds f d)
 | [],_,_,f,.nil,_=>⟨[v],rfl,rfl,.cons hv .nil⟩
 | [],_,_,f,.cons _ _,n=>by simp at n
 | _ :: _,_,_,_,.nil,n=>by simp at n
 | k :: ks,_,_,f,.cons (v:=x) (vs:=vs) (ds:=ds) h t,n=>by
   by_cases hk:k=f
   ·subst hk
    exact ⟨v :: vs,by simp [VC,putF,Us],by simpa [VC] using n,by simp only [T5,if_true]; exact .cons hv t⟩
   ·obtain ⟨vs',e1,e2,e3⟩:=Oz hv (f:=f) t (by simpa using n)
    have hne : ¬ Str.ofString k=Str.ofString f:=fun z=>hk (PZ z);refine ⟨x :: vs',?_,by simpa [VC,hk] using e2,by simp only [T5,hk,if_false]; exact .cons h e3⟩;simp only [VC,hk,if_false,Us,List.map_cons,List.zip_cons_cons,putF,hne];rw [show (ks.map Str.ofString).zip vs=Us ks vs from rfl,e1]
mutual
def D.lowb (k:Nat):D->Bool
 | .obj j=>decide (j < k)
 | .lst xs=>D.lowbs k xs
 | .tup xs=>D.lowbs k xs
 | .dct _ xs=>D.lowbs k xs
 | .exn _ _ v=>D.lowb k v
 | .ins _ _ xs=>D.lowbs k xs
 | .fx _ _ xs=>D.lowbs k xs
 | _=>true
def D.lowbs (k:Nat):List D->Bool
 | []=>true
 | d :: ds=>D.lowb k d&&D.lowbs k ds
end
mutual
theorem Rep.lowb:∀ {v:V} {d:D},Rep K mg F ρ v d->D.lowb ρ.length d=true
 | _,_,.non=>by simp [D.lowb]
 | _,_,.bl=>by simp [D.lowb]
 | _,_,.int=>by simp [D.lowb]
 | _,_,.str=>by simp [D.lowb]
 | _,_,.lst _ r=>by simp only [D.lowb]; exact RepL.lowbs r
 | _,_,.ro _ r=>by simp only [D.lowb]; exact RepL.lowbs r
 | _,_,.tup _ r=>by simp only [D.lowb]; exact RepL.lowbs r
 | _,_,.dct _ _ r=>by simp only [D.lowb]; exact RepL.lowbs r
 | _,_,.obj h=>by simp only [D.lowb,decide_eq_true_eq]; exact (List.getElem?_eq_some_iff.mp h).1
 | _,_,.glo _ _=>by simp [D.lowb]
 | _,_,.ty=>by simp [D.lowb]
 | _,_,.exn _ _ _ r=>by simp only [D.lowb]; exact Rep.lowb r
 | _,_,.ins _ _ _ _ r=>by simp only [D.lowb]; exact RepL.lowbs r
 | _,_,.unk=>by simp [D.lowb]
 | _,_,.rc _ _ r=>by simp only [D.lowb]; exact RepL.lowbs r
 | _,_,.dcf _ _ r=>by simp only [D.lowb]; exact RepL.lowbs r
theorem RepL.lowbs:∀ {vs:List V} {ds:List D},RepL K mg F ρ vs ds->D.lowbs ρ.length ds=true
 | _,_,.nil=>by simp [D.lowbs]
 | _,_,.cons h t=>by simp only [D.lowbs,Bool.and_eq_true]; exact ⟨Rep.lowb h,RepL.lowbs t⟩
end
mutual
theorem Rep.down {k:Nat} (hk:∀ j,j < k->∀ p,ρ'[j]?=some p->ρ[j]?=some p):∀ {v:V} {d:D},Rep K mg F ρ' v d->D.lowb k d=true->Rep K mg F ρ v d
 | _,_,.non,_=>.non
 | _,_,.bl,_=>.bl
 | _,_,.int,_=>.int
 | _,_,.str,_=>.str
 | _,_,.lst h r,b=>.lst h (RepL.down hk r (by simpa only [D.lowb] using b))
 | _,_,.ro h r,b=>.ro h (RepL.down hk r (by simpa only [D.lowb] using b))
 | _,_,.tup h r,b=>.tup h (RepL.down hk r (by simpa only [D.lowb] using b))
 | _,_,.dct h l r,b=>.dct h l (RepL.down hk r (by simpa only [D.lowb] using b))
 | _,_,.obj h,b=>.obj (hk _ (by simpa only [D.lowb,decide_eq_true_eq] using b) _ h)
 | _,_,.glo h r,_=>.glo h r
 | _,_,.ty,_=>.ty
 | _,_,.exn h e o r,b=>.exn h e o (Rep.down hk r (by simpa only [D.lowb] using b))
 | _,_,.ins h e o l r,b=>.ins h e o l (RepL.down hk r (by simpa only [D.lowb] using b))
 | _,_,.unk,_=>.unk
 | _,_,.rc h hd r,b=>.rc h hd (RepL.down hk r (by simpa only [D.lowb] using b))
 | _,_,.dcf h l r,b=>.dcf h l (RepL.down hk r (by simpa only [D.lowb] using b))
theorem RepL.down {k:Nat} (hk:∀ j,j < k->∀ p,ρ'[j]?=some p->ρ[j]?=some p):∀ {vs:List V} {ds:List D},RepL K mg F ρ' vs ds->D.lowbs k ds=true->RepL K mg F ρ vs ds
 | _,_,.nil,_=>.nil
 | _,_,.cons h t,b=>by
   simp only [D.lowbs,Bool.and_eq_true] at b;exact .cons (Rep.down hk h b.1) (RepL.down hk t b.2)
end
theorem OwnR.down {c:Own} {p q:Addr} {H0:Hp} (h0:OwnR K mg F ρ H0 q c) (h:OwnR K mg F' ρ' H p c) (hk:∀ j,j < ρ.length->∀ p,ρ'[j]?=Option.some p->ρ[j]?=Option.some p):OwnR K mg F' ρ H p c:=by
 cases c with
 | lst ds =>
   obtain ⟨_,_,r0⟩:=h0;obtain ⟨vs,e,r⟩:=h;exact ⟨vs,e,r.down hk r0.lowbs⟩
 | dct ks ds =>
   obtain ⟨_,_,_,r0⟩:=h0;obtain ⟨vs,e,n,r⟩:=h;exact ⟨vs,e,n,r.down hk r0.lowbs⟩
 | tab P q=>exact h
 | ins c kd ks ds =>
   obtain ⟨_,_,_,_,e0,_,_,r0⟩:=h0;obtain ⟨C,dx,vs,e1,e2,e3,n,r⟩:=h;exact ⟨C,dx,vs,e1,hk _ (List.getElem?_eq_some_iff.mp e0).1 _ e2,e3,n,r.down hk r0.lowbs⟩
 | idc k =>
   obtain ⟨_,e0,_⟩:=h0;obtain ⟨q,e1,e2⟩:=h;exact ⟨q,hk _ (List.getElem?_eq_some_iff.mp e0).1 _ e1,e2⟩
 | tpk ks=>exact h
 | fdc ks ds=>exact h.elim
theorem CellO.down {c:Own} {p q:Addr} {H0:Hp} (h0:CellO K mg F ρ H0 q c) (h:CellO K mg F' ρ' H p c) (hk:∀ j,j < ρ.length->∀ p,ρ'[j]?=Option.some p->ρ[j]?=Option.some p):CellO K mg F' ρ H p c:=by
 by_cases hc:c.isF=true
 ·cases c <;> first | (cases hc; done) | skip
  obtain ⟨_,_,_,_,r0⟩:=h0;obtain ⟨ob,vs,e,n,r⟩:=h;exact ⟨ob,vs,e,n,r.down hk r0.lowbs⟩
 ·have hc:c.isF=false:=by simpa using hc
  exact .of ((h0.own hc).down (h.own hc) hk)
theorem Sim.shrink {F1 H1:Hp} {ρ1:List Addr} {μ1:Mem} (S:Sim K mg Z F ρ μ [] [] H) (S1:Sim K mg Z F1 ρ1 μ1 [] [] H1) (lr:∀ (k:Nat) p,ρ[k]?=some p->ρ1[k]?=some p) (ht:∀ (j:Nat) c,μ[j]?=some c->μ1[j]?=some c) :
  Sim K mg Z F1 ρ μ [] [] H1/\∀ j,j < ρ.length->∀ p,ρ1[j]?=some p->ρ[j]?=some p:=by
 have hk:∀ j,j < ρ.length->∀ p,ρ1[j]?=some p->ρ[j]?=some p:=fun j hj p e=>by
  have:=lr j _ (List.getElem?_eq_getElem hj);rw [e] at this;cases this;exact List.getElem?_eq_getElem hj
 refine ⟨⟨S1.le,S1.zk,rfl,fun i s e=>by simp at e,fun i j p s s' e=>by simp at e,fun j c e => ?_,S.mlen,S.nod⟩,hk⟩;obtain ⟨a0,e0,_,_,r0⟩:=S.mem j c e;obtain ⟨a,ea,f1,f2,r⟩:=S1.mem j c (ht j c e);rw [lr j a0 e0] at ea;cases ea;exact ⟨a0,e0,f1,f2,r0.down r hk⟩
theorem Sim.newIns {x dx C:Addr} {c:String} (S:Sim K mg Z F ρ μ [] [] H) (hx:H x=none) (hd:H dx=none) (ne:dx≠x) (hc:mg (Str.ofString c)=some (.ref C)) :
  Sim K mg Z F (ρ++[x,dx]) (μ++[.ins c (μ.length+1) [] [],.idc μ.length]) [] [] (upd (upd H dx (.own x)) x (.ins C dx []))/\LeR Z ρ (ρ++[x,dx])/\Rep K mg F (ρ++[x,dx]) (.ref x) (.obj μ.length):=by
 obtain ⟨x1,x2,x3,_⟩:=S.notIn hx;obtain ⟨d1,d2,d3,_⟩:=S.notIn hd;have S1:=S.laid (o:=.own x) hd;have hx1:upd H dx (.own x) x=none:=by rw [upd_ne (Ne.symm ne)]; exact hx
 have S2:=S1.laid (o:=.ins C dx []) hx1;have to:∀ (k:Nat) p,ρ[k]?=some p->(ρ++[x,dx])[k]?=some p:=fun k p e=>by rw [List.getElem?_append_left (List.getElem?_eq_some_iff.mp e).1]; exact e
 have i0:(ρ++[x,dx])[μ.length]?=some x:=by rw [← S.mlen]; simp
 have i1:(ρ++[x,dx])[μ.length+1]?=some dx:=by rw [← S.mlen]; simp
 refine ⟨⟨S2.le,S2.zk,rfl,fun i s e=>by simp at e,fun i j p s s' e=>by simp at e,fun j u e => ?_,by simp [S.mlen],?_⟩,⟨to,fun p hp => ?_⟩,.obj i0⟩
 ·by_cases hj:j < μ.length
  ·rw [List.getElem?_append_left hj] at e
   obtain ⟨a,ea,f1,f2,r⟩:=S2.mem j u e;exact ⟨a,to j a ea,f1,f2,r.up (fun _ _ z=>z) to rfl⟩
  ·rw [List.getElem?_append_right (by omega)] at e
   have hj2:j - μ.length=0\/j - μ.length=1:=by
    have:=(List.getElem?_eq_some_iff.mp e).1;simp at this;omega
   rcases hj2 with hj2 | hj2
   ·rw [hj2] at e
    simp at e;subst e;have:j=μ.length:=by omega
    subst this;exact ⟨x,i0,x1,.of x2 rfl,C,dx,[],hc,i1,upd_same,rfl,.nil⟩
   ·rw [hj2] at e
    simp at e;subst e;have:j=μ.length+1:=by omega
    subst this;exact ⟨dx,i1,d1,.of d2 rfl,x,i0,by rw [upd_ne ne,upd_same]⟩
 ·rw [List.nodup_append]
  refine ⟨S.nod,by simp [Ne.symm ne],fun a ha b hb z => ?_⟩;subst z;rcases List.mem_cons.mp hb with z | z
  ·subst z; exact x3 ha
  ·rw [List.mem_singleton.mp z] at ha; exact d3 ha
 ·rcases List.mem_append.mp hp with hp | hp
  ·exact .inl hp
  ·rcases List.mem_cons.mp hp with z | z
   ·subst z; exact .inr x2
   ·rw [List.mem_singleton.mp z]; exact .inr d2
theorem Sim.settle {F1 H1:Hp} {ρ1:List Addr} {μ1:Mem} {x dx:Addr} {c:String} {ks:List String} {ds:List D} (S:Sim K mg Z F ρ μ [] [] H) (S1:Sim K mg Z F1 ρ1 μ1 [] [] H1) (l:Le Z F F1) (lr:LeR Z (ρ++[x,dx]) ρ1)
  (ht:∀ (j:Nat) u,μ[j]?=some u->μ1[j]?=some u) (h0:μ1[μ.length]?=some (.ins c (μ.length+1) ks ds)) (h1:μ1[μ.length+1]?=some (.idc μ.length)) (hb:D.lowbs μ.length ds=true) :
  ∃ F2,Le Z F F2/\Sim K mg Z F2 ρ μ [] [] H1/\Rep K mg F2 ρ (.ref x) (.ins c ks ds):=by
 have to:∀ (k:Nat) p,ρ[k]?=some p->ρ1[k]?=some p:=fun k p e=>lr.to k p (by rw [List.getElem?_append_left (List.getElem?_eq_some_iff.mp e).1]; exact e);have i0:ρ1[μ.length]?=some x:=lr.to _ _ (by rw [← S.mlen]; simp);have i1:ρ1[μ.length+1]?=some dx:=lr.to _ _ (by rw [← S.mlen]; simp);obtain ⟨S2,hk⟩:=S.shrink S1 to ht;obtain ⟨a,ea,fa,za,C,dx',vs,hc,hdx,hH,n,r⟩:=S1.mem _ _ h0;have za:=za.z rfl;rw [i0] at ea; cases ea;rw [i1] at hdx; cases hdx;obtain ⟨b,eb,fb,zb,q,hq,hHd⟩:=S1.mem _ _ h1;have zb:=zb.z rfl;rw [i1] at eb; cases eb;rw [i0] at hq; cases hq;have nx:x∉ρ:=fun hm=>by
  obtain ⟨j,hj⟩:=List.getElem?_of_mem hm;have h3:=to j x hj;have h4:=(List.getElem?_inj (List.getElem?_eq_some_iff.mp i0).1 S1.nod).mp (i0.trans h3.symm);have:=(List.getElem?_eq_some_iff.mp hj).1;rw [S.mlen] at this;omega
 have nd:dx∉ρ:=fun hm=>by
  obtain ⟨j,hj⟩:=List.getElem?_of_mem hm;have h3:=to j dx hj;have h4:=(List.getElem?_inj (List.getElem?_eq_some_iff.mp i1).1 S1.nod).mp (i1.trans h3.symm);have:=(List.getElem?_eq_some_iff.mp hj).1;rw [S.mlen] at this;omega
 have ne:dx≠x:=fun z=>by
  subst z;rw [hH] at hHd;cases hHd
 obtain ⟨l1,S3⟩:=S2.freeze hH ⟨fa,za,nx⟩ fun i s e=>by simp at e
 have fd:upd F1 x (.ins C dx (Us ks vs)) dx=none:=by rw [upd_ne ne]; exact fb
 obtain ⟨l2,S4⟩:=S3.freeze hHd ⟨fd,zb,nd⟩ fun i s e=>by simp at e
 have l12:=l1.trans l2;refine ⟨_,l.trans l12,S4,.ins (dx:=dx) hc ?_ upd_same n ?_⟩
 ·rw [upd_ne (Ne.symm ne),upd_same]
 ·have hb':D.lowbs ρ.length ds=true:=by rw [S.mlen]; exact hb
  exact (RepL.down hk r hb').up l12.to fun _ _ z=>z
end
end FL
namespace FL
open PySem PySem.Spec PyProof.Rows L2
def Yt (μ:Mem):D->Option (String×List String×List D)
 | .ins c ks vs=>some (c,ks,vs)
 | .obj k=>match μ[k]? with
   | some (.ins c _ ks vs)=>some (c,ks,vs)
   | _=>none
 | _=>none
def OR.self (δ:FL.Loc):OR->Option D
 | .d x=>some x
 | .i j=>match δ[j]? with
   | some (some (.fr x))=>some x
   | _=>none
section
variable {K : PySem.W.Frag} {mg : Str -> Option Value} {Z F F' : Hp} {ρ ρ' : List Addr} {μ : Mem} {δ : FL.Loc} {σ : L2.St} {H H' : Hp} {v : V} {d : D}
theorem OR.self_rep {r:OR} (S:Sim K mg Z F ρ μ δ σ H) (h:OrR K mg F ρ σ v r) (e:r.self δ=some d):Rep K mg F ρ v d:=by
 cases r with
 | d d' => cases e; exact h
 | i j =>
   have h':σ[j]?=some (some v):=h;have e:(match δ[j]? with | some (some (.fr x))=>some x | _=>none)=some d:=e;cases q:δ[j]? with
   | none=>rw [q] at e; cases e
   | some o =>
     cases o with
     | none=>rw [q] at e; cases e
     | some s =>
       cases s with
       | own o=>rw [q] at e; cases e
       | fr d' =>
         rw [q] at e;cases e;obtain ⟨w,ew,r⟩:=S.slot j _ q;rw [h'] at ew;cases ew;exact r
theorem RB {c:String} {ks:List String} {ds:List D} (S:Sim K mg Z F ρ μ δ σ H) (h:Rep K mg F ρ v d) (e:Yt μ d=some (c,ks,ds)) :
  ∃ p C dx vs,v = .ref p/\mg (Str.ofString c)=some (.ref C)/\H p=some (.ins C dx (Us ks vs))/\ks.length=vs.length/\RepL K mg F ρ vs ds:=by
 cases h with
 | ins hc e1 e2 n r =>
   cases e;exact ⟨_,_,_,_,rfl,hc,(S.le _ _ e1).elim (fun q=>q) fun ⟨_,_,z,_⟩=>(nomatch z),n,r⟩
 | @obj k p hp =>
   have e:(match μ[k]? with | some (.ins c _ ks vs)=>some (c,ks,vs) | _=>none)=some (c,ks,ds):=e;cases q:μ[k]? with
   | none=>rw [q] at e; cases e
   | some o =>
     cases o with
     | ins c' kd ks' vs' =>
       rw [q] at e;cases e;obtain ⟨a,ea,_,_,C,dx,vs,e1,e2,e3,n,r⟩:=S.mem k _ q;rw [hp] at ea;cases ea;exact ⟨p,C,dx,vs,rfl,e1,e3,n,r⟩
     | _=>rw [q] at e; cases e
 | _=>cases e
end
inductive Att where
 | fld | con (d:D) | no
def Att.isF:Att->Bool
 | .fld=>true
 | _=>false
theorem Att.isF_eq {a:Att} (h:a.isF=true):a = .fld:=by cases a <;> first | rfl | cases h
def AL (K:PySem.W.Frag) (mg:Str->Option Value) (f:String) (C:Addr):Att->Prop
 | .fld=>NoAttr K C (Str.ofString f)
 | .con d => ∃ v u,Con K C (Str.ofString f) v u/\∀ F ρ,Rep K mg F ρ v d
 | .no=>True
def PY (K:PySem.W.Frag) (mg:Str->Option Value) (at_:String->String->Att):Prop:=∀ c f C,at_ c f ≠ .no->mg (Str.ofString c)=some (.ref C)->Cls K C/\AL K mg f C (at_ c f)
def Yu (at_:String->String->Att) (f:String) (o:Opn):ME:=fun δ μ=>(o.ev δ μ).bind fun r δ1 μ1=>match (r.self δ1).bind (Yt μ1) with
 | some (c,ks,ds)=>(match at_ c f with
   | .fld=>lift ((getF ks ds f).map .fr) δ1 μ1
   | .con d=>if getF ks ds f=none then .ok (.fr d) δ1 μ1 else .bad
   | .no=>.bad)
 | none=>.bad
section
variable {X : Cx} {W : WX} {k : Nat} {e o : Expr} {pos pos' : Pos} {oo : Opn} {f : String} {at_ : String -> String -> Att}
theorem VR.fr' {Z F:Hp} {ρ:List Addr} {δ:FL.Loc} {σ:L2.St} {H:Hp} {v:V} {d:D} (r:Rep X.K X.mg F ρ v d):VR X.K X.mg Z F ρ δ σ H v (.fr d):=⟨r,fun o p z=>by cases z⟩
def th (K:PySem.W.Frag) (ta:TE) (f:Str):TE:=fun σ H Q=>ta σ H fun x H1 => ∃ a C dx fs,x = .ref a/\H1 a=some (.ins C dx fs)/\Cls K C/\((NoAttr K C f/\∃ v,fs.lookup f=some v/\Q v H1)\/∃ v u,Con K C f v u/\fs.lookup f=none/\Q v H1)
theorem AK {ta:TE} {f:Str} (he:PE X e ta) (hb:attributeBase e f X.env (eval e X.env)=eval e X.env):PE X (.Attribute e f pos) (th X.K ta f) :=
 ⟨fun pins s σ H Q I h=>attr_of hb (thn (he.run pins s σ H _ I h) fun u s1 ⟨x,H1,I1,rx,a,C,dx,fs,ex,ea,c,q⟩=>by
  subst ex;obtain rfl:u=Value.ref a:=rx;rcases q with ⟨n,v,l,q⟩ | ⟨v,u0,k,l,q⟩
  ·exact getattr_ok I1 ea c n l fun u' s2 I2 ru=>⟨v,H1,I2,ru,q⟩
  ·exact getcon_ok I1 ea c k l fun s2 I2=>⟨v,H1,I2,k.rel,q⟩)⟩
theorem Zg (AO:PY X.K X.mg at_) (ho:JO X W o oo) (hb:attributeBase o (Str.ofString f) X.env (eval o X.env)=eval o X.env:=by rfl):JE X W (.Attribute o (Str.ofString f) pos) (Yu at_ f oo):=by
 refine (AK ho hb).imp fun σ H Q ⟨Z,F,ρ,μ,δ,S,q⟩=>⟨Z,F,ρ,μ,δ,S,(FinE.bind q).imp fun r δ1 μ1 H1 F1 ρ1 l lr S1 ⟨_,_,_,p⟩ x hx => ?_⟩;cases es:(r.self δ1).bind (Yt μ1) with
 | none=>simp only [es] at p; exact p.elim
 | some t =>
   obtain ⟨c,ks,ds⟩:=t;simp only [es] at p;obtain ⟨d,e1,e2⟩:=Option.bind_eq_some_iff.mp es;obtain ⟨a,C,dx,vs,rfl,hc,hH,n,rl⟩:=RB S1 (OR.self_rep S1 hx e1) e2;have ao:=AO c f C;cases ea:at_ c f with
   | no=>simp only [ea] at p; exact p.elim
   | fld =>
     simp only [ea] at p ao;obtain ⟨cl,no⟩:=ao (fun z=>nomatch z) hc;unfold lift at p;cases eg:getF ks ds f with
     | none=>simp only [eg] at p; exact p.elim
     | some d' =>
       simp only [eg] at p;obtain ⟨v,lv,rv⟩:=OA rl eg;exact ⟨a,C,dx,_,rfl,hH,cl,.inl ⟨no,v,lv,p H1 F1 ρ1 .refl .refl S1 v (VR.fr' rv)⟩⟩
   | con d' =>
     simp only [ea] at p ao;obtain ⟨cl,v,u,co,rv⟩:=ao (fun z=>nomatch z) hc;by_cases eg:getF ks ds f=none
     ·rw [if_pos eg] at p
      exact ⟨a,C,dx,_,rfl,hH,cl,.inr ⟨v,u,co,Tf rl n eg,p H1 F1 ρ1 .refl .refl S1 v (VR.fr' (rv F1 ρ1))⟩⟩
     ·rw [if_neg eg] at p; exact p.elim
def Xt (at_:String->String->Att) (f:String) (o:Opn) (m:ME):MS:=fun δ μ=>(m δ μ).thn fun s δ1 μ1=>(o.ev δ1 μ1).thn fun r δ2 μ2=>match r.self δ2 with
 | some (.obj k)=>(match μ2[k]? with
   | some (.ins c kd ks vs)=>if (at_ c f).isF=true/\ks.length < 1000 then .nx δ2 (μ2.set k (.ins c kd (VC ks f) (T5 ks vs f s.d))) else .bad
   | _=>.bad)
 | _=>.bad
theorem Xk {m:ME} (AO:PY X.K X.mg at_) (ho:JO X W o oo) (he:JE X W e m) (hs:swapsWith e (some (.Attribute o (Str.ofString f) pos')) pos.line X.env=pure false:=by rfl):JS X W (.Assign [.Attribute o (Str.ofString f) pos'] e pos) (Xt at_ f oo m):=by
 refine (ps_fld ho he.locked hs).imp fun D' σ H ⟨Z,F,ρ,μ,δ,S,q⟩=>⟨Z,F,ρ,μ,δ,S,(FinS.thn q).imp fun s δ1 μ1 H1 F1 ρ1 l lr S1 ⟨_,p⟩ y hy => ?_⟩;refine ⟨Z,F1,ρ1,μ1,δ1,S1,(FinS.thn p).imp fun r δ2 μ2 H2 F2 ρ2 l2 lr2 S2 ⟨_,p2⟩ x hx => ?_⟩;have hy2:=hy.up l2.to lr2.to;cases es:r.self δ2 with
 | none=>simp only [es] at p2; exact p2.elim
 | some d =>
   cases d with
   | obj k =>
     simp only [es] at p2;cases em:μ2[k]? with
     | none=>simp only [em] at p2; exact p2.elim
     | some u =>
       cases u with
       | ins c kd ks vs =>
         simp only [em] at p2;by_cases hc:(at_ c f).isF=true/\ks.length < 1000
         ·rw [if_pos hc] at p2
          have hr:=OR.self_rep S2 hx es;cases hr with
          | obj hp =>
            obtain ⟨a,ea,f1,f2,C,dx,ws,e1,e2,e3,n,rl⟩:=S2.mem k _ em;rw [hp] at ea;cases ea;have ao:=AO c f C;simp only [Att.isF_eq hc.1] at ao;obtain ⟨cl,no⟩:=ao (fun z=>nomatch z) e1;obtain ⟨vs',g1,g2,g3⟩:=Oz hy2 (f:=f) rl n;refine ⟨_,C,dx,_,rfl,e3,cl,no,?_,?_⟩
            ·have:(Us ks ws).length<=ks.length:=by simp [Us]; omega
             exact Nat.lt_of_le_of_lt this hc.2
            ·rw [g1]
             exact p2.nx (S2.writeM em hp ⟨C,dx,vs',e1,e2,upd_same,g2,g3⟩)
         ·rw [if_neg hc] at p2; exact p2.elim
       | _=>simp only [em] at p2; exact p2.elim
   | _=>simp only [es] at p2; exact p2.elim
end
section
variable {X : Cx} {W : WX} {k j n : Nat} {N : List Str} {sc : Scope} {e : Expr} {es : List Expr} {pos p : Pos} {f C : Addr} {fd : FuncData} {ps : List Str} {ds : List Value} {dvs : List V} {dds : List D} {m : MF} {x : Str}
def K_ (c:String) (mi:MF):MF:=fun ds μ=>match mi (.obj μ.length :: ds) (μ++[.ins c (μ.length+1) [] [],.idc μ.length]) with
 | .ok (.fr .non) μ' => OutF.ok (.fr (.obj μ.length)) μ'
 | .exc x μ' => .exc x μ'
 | _=>.bad
def mkS (c:String) (mi:MF):MF:=Classical.choose (sealed (K_ c mi))
theorem Na {c:String} {mi:MF} {ds:List D} {μ:Mem}:mkS c mi ds μ=K_ c mi ds μ:=congrFun (congrFun (Classical.choose_spec (sealed (K_ c mi))) ds) μ
def Keeps (μ μ':Mem):Prop:=∀ (j:Nat) u,μ[j]?=some u->μ'[j]?=some u
open Classical in
def L5 (c:String) (μ:Mem):OutF->OutF
 | .ok (.fr .non) μ' => (match μ'[μ.length]?,μ'[μ.length+1]? with
   | some (.ins c' kd ks vs),some (.idc k)=>if (c'=c/\kd=μ.length+1/\k=μ.length)/\Keeps μ μ'/\D.lowbs μ.length vs=true then .ok (.fr (.ins c ks vs)) μ else .bad
   | _,_=>.bad)
 | .exc x μ' => if Keeps μ μ'/\D.lowb μ.length x.arg=true then .exc x μ else .bad
 | _=>.bad
def Jo (c:String) (mi:MF):MF:=fun ds μ=>L5 c μ (mi (.obj μ.length :: ds) (μ++[.ins c (μ.length+1) [] [],.idc μ.length]))
def mkF (c:String) (mi:MF):MF:=Classical.choose (sealed (Jo c mi))
theorem Jn {c:String} {mi:MF} {ds:List D} {μ:Mem}:mkF c mi ds μ=Jo c mi ds μ:=congrFun (congrFun (Classical.choose_spec (sealed (Jo c mi))) ds) μ
end
section
variable {K : PySem.W.Frag} {mg : Str -> Option Value} {H : Hp} {C x dx : Addr} {c : String} {mi : MF} {n : Nat} {vs : List V} {Q : VK} {E : XK}
theorem ExcR.down {F1:Hp} {ρ ρ1:List Addr} {cv:Value} {d:Option Addr} {xx:Exc} {k:Nat} (hk:∀ j,j < k->∀ p,ρ1[j]?=some p->ρ[j]?=some p) (h:ExcR K mg F1 ρ1 cv d xx) (hb:D.lowb k xx.arg=true):ExcR K mg F1 ρ cv d xx:=by
 obtain ⟨Cc,dd,v,h1,h2,h3,h4,h5⟩:=h;exact ⟨Cc,dd,v,h1,h2,h3,h4,h5.down hk hb⟩
theorem Gr (hc:mg (Str.ofString c)=some (.ref C)) (hx:H x=none) (hd:H dx=none) (ne:dx≠x) (h:spM K mg (mkS c mi) n vs H Q E) :
  spM K mg mi (n+1) (.ref x :: vs) (upd (upd H dx (.own x)) x (.ins C dx [])) (fun v H2=>v = .non/\Q (.ref x) H2) E:=by
 obtain ⟨hl,Z,F,ρ,μ,ds,S,r,q⟩:=h;obtain ⟨S2,lr,rp⟩:=S.newIns hx hd ne hc;refine ⟨by rw [List.length_cons,hl],Z,F,_,_,.obj μ.length :: ds,S2,.cons rp (r.up (fun _ _ z=>z) lr.to),?_⟩;rw [Na] at q;unfold K_ at q;generalize mi (.obj μ.length :: ds) (μ++[.ins c (μ.length+1) [] [],.idc μ.length])=o at q;cases o with
 | bad=>exact q
 | exc xx μ' => exact fun cv d H' F' ρ' l lr' S' er=>q cv d H' F' ρ' l (lr.trans lr') S' er
 | ok s μ' =>
   cases s with
   | own o=>exact q.elim
   | fr d =>
     cases d with
     | non =>
       intro v H' F' ρ' l lr' S' rv;cases rv;exact ⟨rfl,q (.ref x) H' F' ρ' l (lr.trans lr') S' (rp.up l.to lr'.to)⟩
     | _=>exact q.elim
theorem Gq (hc:mg (Str.ofString c)=some (.ref C)) (hx:H x=none) (hd:H dx=none) (ne:dx≠x) (h:spM K mg (mkF c mi) n vs H Q E) :
  spM K mg mi (n+1) (.ref x :: vs) (upd (upd H dx (.own x)) x (.ins C dx [])) (fun v H2=>v = .non/\Q (.ref x) H2) E:=by
 obtain ⟨hl,Z,F,ρ,μ,ds,S,r,q⟩:=h;obtain ⟨S2,lr,rp⟩:=S.newIns hx hd ne hc;refine ⟨by rw [List.length_cons,hl],Z,F,_,_,.obj μ.length :: ds,S2,.cons rp (r.up (fun _ _ z=>z) lr.to),?_⟩;rw [Jn] at q;unfold Jo at q;generalize mi (.obj μ.length :: ds) (μ++[.ins c (μ.length+1) [] [],.idc μ.length])=o at q;cases o with
 | bad=>exact q
 | exc xx μ' =>
   intro cv d H' F' ρ' l lr' S' er;unfold L5 at q;dsimp only at q;by_cases hk:Keeps μ μ'/\D.lowb μ.length xx.arg=true
   ·rw [if_pos hk] at q
    obtain ⟨S3,dn⟩:=S.shrink S' (fun j p e=>lr'.to j p (lr.to j p e)) hk.1;exact q cv d H' F' ρ l .refl S3 (ExcR.down dn er (by rw [S.mlen]; exact hk.2))
   ·rw [if_neg hk] at q; exact q.elim
 | ok s μ' =>
   cases s with
   | own o=>exact q.elim
   | fr d =>
     cases d with
     | non =>
       intro v H' F' ρ' l lr' S' rv;cases rv;refine ⟨rfl,?_⟩;unfold L5 at q;cases e0:μ'[μ.length]? with
       | none=>simp only [e0] at q; exact q.elim
       | some u0 =>
         cases u0 with
         | ins c' kd ks ws =>
           cases e1:μ'[μ.length+1]? with
           | none=>simp only [e0,e1] at q; exact q.elim
           | some u1 =>
             cases u1 with
             | idc k =>
               simp only [e0,e1] at q;by_cases hk:(c'=c/\kd=μ.length+1/\k=μ.length)/\Keeps μ μ'/\D.lowbs μ.length ws=true
               ·rw [if_pos hk] at q
                obtain ⟨⟨rfl,rfl,rfl⟩,h2,h3⟩:=hk;obtain ⟨F2,l2,S3,rp2⟩:=S.settle S' l lr' h2 e0 e1 h3;exact q (.ref x) H' F2 ρ l2 .refl S3 rp2
               ·rw [if_neg hk] at q; exact q.elim
             | _=>simp only [e0,e1] at q; exact q.elim
         | _=>simp only [e0] at q; exact q.elim
     | _=>exact q.elim
end
section
variable {X : Cx} {W : WX} {k j n : Nat} {N : List Str} {sc : Scope} {e : Expr} {es : List Expr} {pos p : Pos} {f C : Addr} {fd : FuncData} {ps : List Str} {ds : List Value} {dvs : List V} {dds : List D} {m mi : MF} {x : Str} {c : String}
theorem RmG.make {A:Around} (r:RmG (k+1) A) (C:Addr) (us:List Value) (kw:List (Str×Value)):RmG k (A.under (.builtin "type.__call__" ⟨.ref C :: us,kw⟩)) :=
 ⟨r.r.make C us kw,by have:=r.g; first | exact this | (simp [Around.under]; exact this)⟩
end
end FL
namespace FL
open PySem PySem.Spec PyProof.Rows L2
inductive Sel where
 | pos (i:Nat) | key (i:Nat) | dfl (i:Nat)
def Sel.get {α:Type} (vs ds zs:List α):Sel->Option α
 | .pos i=>vs[i]?
 | .key i=>zs[i]?
 | .dfl i=>ds[i]?
def YX {α:Type} (sel:List Sel) (vs ds zs:List α):List α:=sel.filterMap (Sel.get vs ds zs)
theorem T4:∀ {vs:List V} {us:List Value},Vals vs us->∀ i:Nat,(vs[i]?=none/\us[i]?=none)\/∃ v u,vs[i]?=some v/\us[i]?=some u/\RelV v u
 | _,_,.nil,i=>.inl ⟨rfl,rfl⟩
 | _,_,.cons h t,0=>.inr ⟨_,_,rfl,rfl,h⟩
 | _,_,.cons h t,i+1=>by simpa using T4 t i
theorem RQ {K:PySem.W.Frag} {mg:Str->Option Value} {F:Hp} {ρ:List Addr}:∀ {vs:List V} {ds:List D},RepL K mg F ρ vs ds->∀ i:Nat,(vs[i]?=none/\ds[i]?=none)\/∃ v d,vs[i]?=some v/\ds[i]?=some d/\Rep K mg F ρ v d
 | _,_,.nil,i=>.inl ⟨rfl,rfl⟩
 | _,_,.cons h t,0=>.inr ⟨_,_,rfl,rfl,h⟩
 | _,_,.cons h t,i+1=>by simpa using RQ t i
theorem RA {vs dv zs:List V} {us dw ws:List Value} (h1:Vals vs us) (h2:Vals dv dw) (h3:Vals zs ws):∀ sel:List Sel,Vals (YX sel vs dv zs) (YX sel us dw ws)
 | []=>.nil
 | a :: sel=>by
   have ih:=RA h1 h2 h3 sel;have q:(a.get vs dv zs=none/\a.get us dw ws=none)\/∃ v u,a.get vs dv zs=some v/\a.get us dw ws=some u/\RelV v u:=by
    cases a with
    | pos i=>exact T4 h1 i
    | key i=>exact T4 h3 i
    | dfl i=>exact T4 h2 i
   unfold YX at ih ⊢;rcases q with ⟨e1,e2⟩ | ⟨v,u,e1,e2,r⟩
   ·rw [List.filterMap_cons_none e1,List.filterMap_cons_none e2]; exact ih
   ·rw [List.filterMap_cons_some e1,List.filterMap_cons_some e2]; exact .cons r ih
theorem Qu {K:PySem.W.Frag} {mg:Str->Option Value} {F:Hp} {ρ:List Addr} {vs dv zs:List V} {us dw ws:List D} (h1:RepL K mg F ρ vs us) (h2:RepL K mg F ρ dv dw) (h3:RepL K mg F ρ zs ws):∀ sel:List Sel,RepL K mg F ρ (YX sel vs dv zs) (YX sel us dw ws)
 | []=>.nil
 | a :: sel=>by
   have ih:=Qu h1 h2 h3 sel;have q:(a.get vs dv zs=none/\a.get us dw ws=none)\/∃ v u,a.get vs dv zs=some v/\a.get us dw ws=some u/\Rep K mg F ρ v u:=by
    cases a with
    | pos i=>exact RQ h1 i
    | key i=>exact RQ h3 i
    | dfl i=>exact RQ h2 i
   unfold YX at ih ⊢;rcases q with ⟨e1,e2⟩ | ⟨v,u,e1,e2,r⟩
   ·rw [List.filterMap_cons_none e1,List.filterMap_cons_none e2]; exact ih
   ·rw [List.filterMap_cons_some e1,List.filterMap_cons_some e2]; exact .cons r ih
def VQ (K:PySem.W.Frag) (fd:FuncData) (ps:List Str) (n:Nat) (ks:List Str) (sel:List Sel) (dw:List Value):Prop :=
 ∀ (s:Shared) (x:Value) (us ws:List Value),K.In s.heap->us.length=n->ws.length=ks.length->BindsTo s fd ⟨x :: us,ks.zip ws⟩ (ps.zip (x :: YX sel us dw ws))
structure CallW (X:Cx) (k:Nat) (a:Addr) (n:Nat) (ks:List Str) (sel:List Sel) (m:MF) (N:Nat) (dds:List D):Prop where
 kp:PySem.W.keepIn X.K (.ref a)=true
 len:∀ {α:Type} (vs ds zs:List α),vs.length=n->ds.length=dds.length->zs.length=ks.length->(YX sel vs ds zs).length=N
 ex:∃ dvs:List V,(∀ F ρ,RepL X.K X.mg F ρ dvs dds)/\(RmG k X.A->∀ (pins:List (Addr×Obj)) (σ:L2.St) (H:Hp) (s:Shared) (us ws:List Value) (vs zs:List V) (Q:VK) (E:XK),PassesAt (L2.CX X.prog X.w) X σ E->Inv X pins σ H s->Vals vs us->Vals zs ws->vs.length=n->zs.length=ks.length ->
  spM X.K X.mg m N (YX sel vs dvs zs) H Q E->wpAny (model X.prog X.w) X.A (call (.ref a) us (ks.zip ws)) (EP X pins σ Q) X.xe s)
section
variable {X : Cx} {W : WX} {k j n N : Nat} {e : Expr} {es : List Expr} {kws : List Keyword} {pos p : Pos} {f C a : Addr} {fd : FuncData} {ps ks : List Str} {ds : List Value} {dvs : List V} {dds : List D} {m mi : MF} {x : Str} {c : String} {sel : List Sel}
theorem Qt {pins:List (Addr×Obj)} {σ:L2.St} {H:Hp} {s:Shared} {Q:VK} {E:XK} {us ws:List Value} {vs zs:List V} (M:Mk X.K C f) (F:FnG X.prog X.w X.K X.mg X.base (L2.CX X.prog X.w) j f fd ps (spM X.K X.mg mi (N+1))) (hr:RmG (j+1) X.A)
  (hb:VQ X.K fd ps n ks sel ds) (hd:Vals dvs ds) (hx:PassesAt (L2.CX X.prog X.w) X σ E) (I:Inv X pins σ H s) (r:Vals vs us) (rz:Vals zs ws) (l1:vs.length=n) (l2:zs.length=ks.length)
  (h:∀ xa dx,H xa=none->H dx=none->dx≠xa->spM X.K X.mg mi (N+1) (.ref xa :: YX sel vs dvs zs) (upd (upd H dx (.own xa)) xa (.ins C dx [])) (fun v H2=>v = .non/\Q (.ref xa) H2) E) :
  wpAny (model X.prog X.w) X.A (call (.ref C) us (ks.zip ws)) (EP X pins σ Q) X.xe s:=by
 have new:=h (s.heap.objs.size+1) s.heap.objs.size (I.hok.fresh (Nat.le_succ _)) (I.hok.fresh (Nat.le_refl _)) (Nat.ne_of_lt (Nat.lt_succ_self _));have J:=Inv.made (C:=C) I;have rv:Vals (V.ref (s.heap.objs.size+1) :: YX sel vs dvs zs) (Value.ref (s.heap.objs.size+1) :: YX sel us ds ws):=.cons rfl (RA r hd rz sel);have b:=hb _ (Value.ref (s.heap.objs.size+1)) us ws J.kIn (by rw [← r.length,l1]) (by rw [← rz.length,l2]);refine wpAny_call (make_map (f:=f) I.kIn M.makes M.init (beq_iff_eq.mp M.fn) (codeAny_mono (F.run _ X.stack _ _ ⟨Value.ref (s.heap.objs.size+1) :: us,ks.zip ws⟩ _ _ _ E (hr.make C us (ks.zip ws)) (J.env0.make C us (ks.zip ws)) b rv new) fun res t ht => ?_))
 match res,ht with
 | .error er,ht=>exact hx pins _ _ er t J ht
 | .ok (.ret u),ht =>
   obtain ⟨v,H',I3,rvu,ev,q3⟩:=J.after ht;cases ev;exact ⟨rvu,V.ref (s.heap.objs.size+1),H',I3,rfl,q3⟩
theorem CallW.mkF (hc:X.mg (Str.ofString c)=some (.ref C)) (M:Mk X.K C f) (F:FnG X.prog X.w X.K X.mg X.base (L2.CX X.prog X.w) j f fd ps (spM X.K X.mg mi (N+1))) (hb:VQ X.K fd ps n ks sel ds) (hd:Vals dvs ds) (hdd:∀ F ρ,RepL X.K X.mg F ρ dvs dds)
  (len:∀ {α:Type} (vs ds zs:List α),vs.length=n->ds.length=dds.length->zs.length=ks.length->(YX sel vs ds zs).length=N):CallW X (j+1) C n ks sel (FL.mkF c mi) N dds :=
 ⟨M.kp,len,dvs,hdd,fun hr pins σ H s us ws vs zs Q E hx I r rz l1 l2 h=>Qt M F hr hb hd hx I r rz l1 l2 fun xa dx h1 h2 h3=>Gq hc h1 h2 h3 h⟩
theorem CallW.mkS (hc:X.mg (Str.ofString c)=some (.ref C)) (M:Mk X.K C f) (F:FnG X.prog X.w X.K X.mg X.base (L2.CX X.prog X.w) j f fd ps (spM X.K X.mg mi (N+1))) (hb:VQ X.K fd ps n ks sel ds) (hd:Vals dvs ds) (hdd:∀ F ρ,RepL X.K X.mg F ρ dvs dds)
  (len:∀ {α:Type} (vs ds zs:List α),vs.length=n->ds.length=dds.length->zs.length=ks.length->(YX sel vs ds zs).length=N):CallW X (j+1) C n ks sel (FL.mkS c mi) N dds :=
 ⟨M.kp,len,dvs,hdd,fun hr pins σ H s us ws vs zs Q E hx I r rz l1 l2 h=>Qt M F hr hb hd hx I r rz l1 l2 fun xa dx h1 h2 h3=>Gr hc h1 h2 h3 h⟩
def Jm (sp:Sp) (n l:Nat) (sel:List Sel) (dvs:List V) (E:L2.St->XK) (t tk:TA):TE:=fun σ H Q=>t σ H fun vs H1=>tk σ H1 fun zs H2=>vs.length=n/\zs.length=l/\sp (YX sel vs dvs zs) H2 Q (E σ)
theorem Jl {E:L2.St->XK} {t tk:TA} {sp:Sp} (hk:PySem.W.keepIn X.K (.ref a)=true) (hr:∀ (pins:List (Addr×Obj)) (σ:L2.St) (H:Hp) (s:Shared) (us ws:List Value) (vs zs:List V) (Q:VK) (E:XK),PassesAt (L2.CX X.prog X.w) X σ E->Inv X pins σ H s->Vals vs us->Vals zs ws->vs.length=n->zs.length=ks.length ->
   sp (YX sel vs dvs zs) H Q E->wpAny (model X.prog X.w) X.A (call (.ref a) us (ks.zip ws)) (EP X pins σ Q) X.xe s)
  (hg:Gl X x) (hm:X.mg x=some (.ref a)) (hx:∀ σ,PassesAt (L2.CX X.prog X.w) X σ (E σ)) (ha:PA X (e :: es) t) (hkw:PK X kws tk) (hdb:(x == ("__debug__" : Str))=false)
  (hall:(backToKw pos (keywordEach kws X.env)).all (·.1.isSome)=true) (hks:(backToKw pos (keywordEach kws X.env)).filterMap (·.1)=ks)
  (he:starEach (e :: es) X.env=(false,eval e X.env) :: starEach es X.env) (hpl:((backTo pos (starEach (e :: es) X.env)).any (·.1)||(backToKw pos (keywordEach kws X.env)).any (·.1.isNone))=false) :
  PE X (.Call (.Name x p) (e :: es) kws pos) (Jm sp n ks.length sel dvs E t tk):=by
 refine ⟨fun pins s σ H Q I h=>wpAny_Call_Name_kw (ld_glob I hg hm (PySem.W.callWith_KW (h₀:=X.base) I.ok.mod.kin hk hall (thn (ha.run pos pins s σ H _ I h) fun us s1 ⟨vs,H1,I1,r,q⟩=>thn (hkw.run pos pins s1 σ H1 _ I1 q) fun ws s2 ⟨zs,H2,I2,rz,l1,l2,q2⟩=>⟨I2.kIn,?_⟩) hpl he) hdb)⟩;rw [hks];exact hr pins σ H2 s2 us ws vs zs Q _ (hx σ) I2 r rz l1 l2 q2
abbrev JK (X:Cx) (W:WX) (kws:List Keyword) (ms:List ME):Prop:=PK X kws (El X W ms)
theorem CU {t t':TA} (h:PK X kws t) (i:∀ σ H Q,t' σ H Q->t σ H Q):PK X kws t':=⟨fun pos pins s σ H Q I q=>h.run pos pins s σ H Q I (i σ H Q q)⟩
theorem Te:JK X W [] []:=CU pk_nil fun σ H Q ⟨Z,F,ρ,μ,δ,S,q⟩=>q H F ρ .refl .refl S [] .nil
def YI (m:MF) (sel:List Sel) (ms mks:List ME) (dds:List D):ME:=fun δ μ=>(XF ms δ μ).bind fun ds δ1 μ1=>(XF mks δ1 μ1).bind fun zs δ2 μ2=>match m (YX sel ds dds zs) μ2 with
 | .ok s μ3=>.ok s δ2 μ3
 | .exc x μ3=>.exc x δ2 μ3
 | .bad=>.bad
theorem M' {ms mks:List ME} (hdd:∀ F ρ,RepL X.K X.mg F ρ dvs dds) (len:∀ {α:Type} (vs ds zs:List α),vs.length=n->ds.length=dds.length->zs.length=ks.length->(YX sel vs ds zs).length=N) (h1:ms.length=n) (h2:mks.length=ks.length) :
  ∀ σ H Q,Uw X W (YI m sel ms mks dds) σ H Q->Jm (spM X.K X.mg m N) n ks.length sel dvs (WE W) (El X W ms) (El X W mks) σ H Q:=by
 intro σ H Q ⟨Z,F,ρ,μ,δ,S,q⟩;refine ⟨Z,F,ρ,μ,δ,S,?_⟩;unfold YI at q;cases ea:XF ms δ μ with
 | bad=>rw [ea] at q; exact q
 | exc x δ1 μ1=>rw [ea] at q; exact q
 | ok ds δ1 μ1 =>
   rw [ea,Out.bind_ok] at q;intro H1 F1 ρ1 l1 lr1 S1 vs hv;refine ⟨Z,F1,ρ1,μ1,δ1,S1,?_⟩;cases eb:XF mks δ1 μ1 with
   | bad=>rw [eb] at q; exact q
   | exc x δ2 μ2=>rw [eb] at q; exact q.mono l1 lr1
   | ok zs δ2 μ2 =>
     rw [eb,Out.bind_ok] at q;intro H2 F2 ρ2 l2 lr2 S2 ws hw;have q2:=(q.mono l1 lr1).mono l2 lr2;have hv2:=hv.up l2.to lr2.to;have l3:vs.length=n:=by rw [hv2.len,← T7 ea,h1]
     have l4:ws.length=ks.length:=by rw [hw.len,← T7 eb,h2]
     have hp:=Qu hv2 (hdd F2 ρ2) hw sel;refine ⟨l3,l4,len vs dvs ws l3 (hdd F2 ρ2).len l4,zone Z H2 δ2 σ,F2,ρ2,μ2,YX sel ds dds zs,S2.enter,hp,?_⟩;generalize m (YX sel ds dds zs) μ2=o at q2;cases o with
     | ok s μ3=>exact fun v H' F' ρ' l lr S' rv=>q2 H' F' ρ' (S2.leLeave l) (S2.leRLeave lr) (S2.leave S' l lr) v (S2.came rv)
     | exc x μ3=>exact fun c d H' F' ρ' l lr S' er=>q2 c d H' F' ρ' (S2.leLeave l) (S2.leRLeave lr) (S2.leave S' l lr) er
     | bad=>exact q2
theorem Oy {sc:Scope} {nm:List Str} {ms mks:List ME} (Cc:Cs X W k nm sc) (F:CallW X j a n ks sel m N dds) (hm:X.mg x=some (.ref a)) (hjk:j<=k) (hg:Th sc x=true) (ha:JA X W (e :: es) ms) (hkw:JK X W kws mks) (h1:ms.length=n) (h2:mks.length=ks.length)
  (hall:(backToKw pos (keywordEach kws X.env)).all (·.1.isSome)=true:=by rfl) (hks:(backToKw pos (keywordEach kws X.env)).filterMap (·.1)=ks:=by rfl)
  (he:starEach (e :: es) X.env=(false,eval e X.env) :: starEach es X.env:=by rfl) (hpl:((backTo pos (starEach (e :: es) X.env)).any (·.1)||(backToKw pos (keywordEach kws X.env)).any (·.1.isNone))=false:=by rfl) :
  JE X W (.Call (.Name x p) (e :: es) kws pos) (YI m sel ms mks dds):=by
 obtain ⟨dvs,hdd,run⟩:=F.ex;obtain ⟨g1,g2,g3⟩:=Cc.gl hg;exact (Jl F.kp (run (Cc.rm.mono hjk)) g1 hm (passAt Cc.tk) ha hkw g2 hall hks he hpl).imp (M' hdd F.len h1 h2)
end
end FL
namespace FL
open PySem PySem.Spec PyProof.Rows L2
theorem RmG.in1 {A:Around} {k:Nat} (r:RmG (k+1) A):RmG k A.in1:=⟨r.r.in1,r.g⟩
def xn:XK:=fun _ _ _=>False
section
variable {X : Cx} {W : WX} {k j n N : Nat} {e o : Expr} {es : List Expr} {kws : List Keyword} {pos p apos : Pos} {C g a dx q : Addr} {fd : FuncData} {ps : List Str} {fs : List (Str × V)} {f : Str} {sp : Sp} {nm : Str}
theorem K9 {pins:List (Addr×Obj)} {σ:L2.St} {H:Hp} {s:Shared} {Q:VK} {b:Bool} {E':Value->Shared->Prop} (I:Inv X pins σ H s) (ea:H a=some (.ins C dx fs)) (c:Cls X.K C) (hp:PropOf X.K C f q g)
  (F:FnG X.prog X.w X.K X.mg X.base (L2.CX X.prog X.w) k g fd [nm] sp) (hr:RmG (k+1) X.A) (hb:Binds X.K fd [nm] []) (h:sp [.ref a] H Q xn):wpAny (model X.prog X.w) X.A (getAttr (.ref a) f b) (EP X pins σ Q) E' s:=by
 obtain ⟨mA,O,_,_,_,_⟩:=ins_get I.hok ea;obtain ⟨od,J,_⟩:=O.look;obtain ⟨rest,rc⟩:=hp.rec_;have I1:=I.tok (s.toks+1);have hc:(PySem.W.clsIn X.K C).isSome=true:=by
  obtain ⟨cd,e,_⟩:=PySem.W.any_some c.hd;rw [e] <;> rfl
 refine PySem.W.get_bind I.kIn J (PySem.W.plainGet_of (c.get f)).1 (PySem.W.findObj_data hc hp.at_ hp.get hp.tak) (PySem.W.plainGet_of (c.get f)).2 (wpAny_call (PySem.W.prop_get (s:={ s with toks:=s.toks+1 }) (K:=X.K) I.kIn rc ?_));refine codeAny_mono (F.run X.A.in1 X.stack { s with toks:=s.toks+1 } H ⟨[.ref a],[]⟩ [.ref a] [.ref a] Q xn hr.in1 I1.env0.in1 (hb _ [.ref a] I1.kIn rfl) (.cons rfl .nil) h) fun res t ht => ?_
 match res,ht with
 | .error er,⟨_,_,_,_,_,_,_,_,_,_,_,_,z⟩=>exact z.elim
 | .ok (.ret u),ht =>
   obtain ⟨v,H',I3,rv,q3⟩:=I1.after ht
   show wpAny _ _ (handedOut u) _ _ _;rw [PySem.W.handedOut_of (handed_of rv)];exact wpAny_pure ⟨v,H',I3,rv,q3⟩
def AJ (X:Cx) (j:Nat) (c f:String) (m:MF):Prop :=
 ∀ C,X.mg (Str.ofString c)=some (.ref C)->Cls X.K C/\∃ (p g:Addr) (fd:FuncData) (nm:Str),PropOf X.K C (Str.ofString f) p g/\FnG X.prog X.w X.K X.mg X.base (L2.CX X.prog X.w) j g fd [nm] (spM X.K X.mg m 1)/\Binds X.K fd [nm] []
def PV (X:Cx) (j:Nat) (pt:String->String->Option MF):Prop:=∀ c f m,pt c f=some m->AJ X j c f m
def We (pt:String->String->Option MF) (f:String) (o:Opn):ME:=fun δ μ=>(o.ev δ μ).bind fun r δ1 μ1=>match r.self δ1 with
 | some d=>(match Yt μ1 d with
   | some (c,_,_)=>(match pt c f with
     | some m=>(match m [d] μ1 with
       | .ok s μ2=>.ok s δ1 μ2
       | _=>.bad)
     | none=>.bad)
   | none=>.bad)
 | none=>.bad
def Jk (X:Cx) (ta:TE) (f:Str) (k:Nat):TE:=fun σ H Q=>ta σ H fun x H1 => ∃ a C dx fs p g fd nm sp,x = .ref a/\H1 a=some (.ins C dx fs)/\Cls X.K C/\PropOf X.K C f p g/\FnG X.prog X.w X.K X.mg X.base (L2.CX X.prog X.w) k g fd [nm] sp/\Binds X.K fd [nm] []/\sp [.ref a] H1 Q xn
theorem Jj {ta:TE} (he:PE X e ta) (hr:RmG (k+1) X.A) (hb:attributeBase e f X.env (eval e X.env)=eval e X.env):PE X (.Attribute e f pos) (Jk X ta f k) :=
 ⟨fun pins s σ H Q I h=>attr_of hb (thn (he.run pins s σ H _ I h) fun u s1 ⟨x,H1,I1,rx,a,C,dx,fs,p,g,fd,nm,sp,ex,ea,c,hp,F,b,q⟩=>by
  subst ex;obtain rfl:u=Value.ref a:=rx;exact K9 I1 ea c hp F hr b q)⟩
theorem K8 {pt:String->String->Option MF} {f:String} {oo:Opn} (P:PV X j pt):∀ σ H Q,Uw X W (We pt f oo) σ H Q->Jk X (Nh X W oo) (Str.ofString f) j σ H Q:=by
 intro σ H Q ⟨Z,F,ρ,μ,δ,S,q⟩;refine ⟨Z,F,ρ,μ,δ,S,(FinE.bind q).imp fun r δ1 μ1 H1 F1 ρ1 l lr S1 ⟨_,_,_,z⟩ x hx => ?_⟩;cases e1:r.self δ1 with
 | none=>simp only [e1] at z; exact z.elim
 | some d =>
   simp only [e1] at z;cases e2:Yt μ1 d with
   | none=>simp only [e2] at z; exact z.elim
   | some t =>
     obtain ⟨c,ks,ds⟩:=t;simp only [e2] at z;cases e3:pt c f with
     | none=>simp only [e3] at z; exact z.elim
     | some m =>
       simp only [e3] at z;have hr:=OR.self_rep S1 hx e1;obtain ⟨a,C,dx,vs,rfl,hc,hH,n,rl⟩:=RB S1 hr e2;obtain ⟨cl,p,g,fd,nm,hp,G,b⟩:=P c f m e3 C hc;refine ⟨a,C,dx,_,p,g,fd,nm,spM X.K X.mg m 1,rfl,hH,cl,hp,G,b,rfl,zone Z H1 δ1 σ,F1,ρ1,μ1,[d],S1.enter,.cons hr .nil,?_⟩;generalize m [d] μ1=o at z;cases o with
       | ok s μ2=>exact fun v H' F' ρ' l lr S' rv=>z H' F' ρ' (S1.leLeave l) (S1.leRLeave lr) (S1.leave S' l lr) v (S1.came rv)
       | exc x μ2=>exact z.elim
       | bad=>exact z.elim
theorem Cs.prop {sc:Scope} {nl:List Str} {pt:String->String->Option MF} {f:String} {oo:Opn} (Cc:Cs X W k nl sc) (P:PV X j pt) (hjk:j+1<=k) (ho:JO X W o oo) (hb:attributeBase o (Str.ofString f) X.env (eval o X.env)=eval o X.env:=by rfl):JE X W (.Attribute o (Str.ofString f) pos) (We pt f oo) :=
 (Jj ho (Cc.rm.mono hjk) hb).imp (K8 P)
def AI (X:Cx) (j:Nat) (c f:String) (n:Nat) (m:MF):Prop :=
 ∀ C,X.mg (Str.ofString c)=some (.ref C)->Cls X.K C/\∃ (g:Addr) (fd:FuncData) (ps:List Str) (ds:List Value) (dvs:List V) (dds:List D) (m':MF) (N:Nat),Meth X.K C (Str.ofString f) g/\FnG X.prog X.w X.K X.mg X.base (L2.CX X.prog X.w) j g fd ps (spM X.K X.mg m' N)/\Binds X.K fd ps ds/\Vals dvs ds /\
  (∀ F ρ,RepL X.K X.mg F ρ dvs dds)/\n+1+dds.length=N/\∀ ds' μ,m ds' μ=m' (ds'++dds) μ
def RO (X:Cx) (j:Nat) (mt:String->String->Nat->Option MF):Prop:=∀ c f n m,mt c f n=some m->AI X j c f n m
def Zk (mt:String->String->Nat->Option MF) (f:String) (o:Opn) (ms:List ME):ME:=fun δ μ=>(o.ev δ μ).bind fun r δ1 μ1=>match r.self δ1 with
 | some d=>(match Yt μ1 d with
   | some (c,ks,vs)=>if getF ks vs f=none then (match mt c f ms.length with
     | some m=>(XF ms δ1 μ1).bind fun ds δ2 μ2=>(match m (d :: ds) μ2 with
       | .ok s μ3=>.ok s δ2 μ3
       | .exc x μ3=>.exc x δ2 μ3
       | .bad=>.bad)
     | none=>.bad) else .bad
   | none=>.bad)
 | none=>.bad
def tMethG (X:Cx) (ta:TE) (m:Str) (k n:Nat) (E:L2.St->XK) (t:TA):TE:=fun σ H Q=>ta σ H fun x H1 => ∃ a C dx fs g fd ps ds dvs sp,x = .ref a/\H1 a=some (.ins C dx fs)/\Cls X.K C/\Meth X.K C m g/\fs.lookup m=none/\FnG X.prog X.w X.K X.mg X.base (L2.CX X.prog X.w) k g fd ps sp/\Binds X.K fd ps ds/\Vals dvs ds /\
 t σ H1 fun vs H2=>sp ((.ref a :: vs)++dvs) H2 Q (E σ)
theorem Ji {ta:TE} {t:TA} {m:Str} {E:L2.St->XK} {pl:Sem Bool} (he:PE X o ta) (hr:RmG k X.A) (hx:∀ σ,PassesAt (L2.CX X.prog X.w) X σ (E σ)) (ha:PA X (e :: es) t)
  (hst:starEach (e :: es) X.env=(false,eval e X.env) :: starEach es X.env) (hpl:(backTo pos (starEach es X.env)).any (·.1)=false)
  (ht:eval (.Call (.Attribute o m apos) (e :: es) [] pos) X.env=(do
   let ov ← eval o X.env
   standAt apos.atName
   let (f,first) ← holding [ov] (getMethod ov m pl)
   callWith pos f first (backTo pos (starEach (e :: es) X.env)) (backToKw pos (keywordEach [] X.env)))) :
  PE X (.Call (.Attribute o m apos) (e :: es) [] pos) (tMethG X ta m k n E t):=by
 refine ⟨fun pins s σ H Q I h=>PySem.W.methodCall_KW (pl:=pl) (thn (he.run pins s σ H _ I h) fun u s1 ⟨x,H1,I1,rx,a,C,dx,fs,g,fd,ps,ds,dvs,sp,ex,ea,c,hm,l,F,b,hd,q⟩ => ?_) ht⟩;subst ex;obtain rfl:u=Value.ref a:=rx;refine getmeth_ok I1 ea c hm l ?_;refine PySem.W.callWith_K (first:=[.ref a]) (h₀:=X.base) I.ok.mod.kin hm.kp (thn (ha.run pos pins s1 σ H1 _ I1 q) fun us s2 ⟨vs,H2,I2,r,q2⟩=>⟨I2.kIn,?_⟩) hst hpl;exact Ti (us:=.ref a :: us) (vs:=.ref a :: vs) F hr b hd (hx σ) I2 (.cons rfl r) q2
theorem K7 {ta:TE} {m:Str} {E:L2.St->XK} {pl:Sem Bool} (he:PE X o ta) (hr:RmG k X.A) (hx:∀ σ,PassesAt (L2.CX X.prog X.w) X σ (E σ))
  (ht:eval (.Call (.Attribute o m apos) [] [] pos) X.env=(do
   let ov ← eval o X.env
   standAt apos.atName
   let (f,first) ← holding [ov] (getMethod ov m pl)
   callWith pos f first (backTo pos (starEach [] X.env)) (backToKw pos (keywordEach [] X.env)))) :
  PE X (.Call (.Attribute o m apos) [] [] pos) (tMethG X ta m k n E tNil):=by
 refine ⟨fun pins s σ H Q I h=>PySem.W.methodCall_KW (pl:=pl) (thn (he.run pins s σ H _ I h) fun u s1 ⟨x,H1,I1,rx,a,C,dx,fs,g,fd,ps,ds,dvs,sp,ex,ea,c,hm,l,F,b,hd,q⟩ => ?_) ht⟩;subst ex;obtain rfl:u=Value.ref a:=rx;refine getmeth_ok I1 ea c hm l ?_;exact PySem.W.callWith_K0 (first:=[.ref a]) I1.kIn hm.kp (Ti (us:=[.ref a]) (vs:=[.ref a]) F hr b hd (hx σ) I1 (.cons rfl .nil) q)
theorem Qs {mt:String->String->Nat->Option MF} {f:String} {oo:Opn} {ms:List ME} (P:RO X j mt):∀ σ H Q,Uw X W (Zk mt f oo ms) σ H Q->tMethG X (Nh X W oo) (Str.ofString f) j n (WE W) (El X W ms) σ H Q:=by
 intro σ H Q ⟨Z,F,ρ,μ,δ,S,q⟩;refine ⟨Z,F,ρ,μ,δ,S,(FinE.bind q).imp fun r δ1 μ1 H1 F1 ρ1 l lr S1 ⟨_,_,_,z⟩ x hx => ?_⟩;cases e1:r.self δ1 with
 | none=>simp only [e1] at z; exact z.elim
 | some d =>
   simp only [e1] at z;cases e2:Yt μ1 d with
   | none=>simp only [e2] at z; exact z.elim
   | some t =>
     obtain ⟨c,ks,vs0⟩:=t;simp only [e2] at z;by_cases e0:getF ks vs0 f=none
     ·rw [if_pos e0] at z
      cases e3:mt c f ms.length with
      | none=>simp only [e3] at z; exact z.elim
      | some m =>
        simp only [e3] at z;have hr:=OR.self_rep S1 hx e1;obtain ⟨a,C,dx,vs,rfl,hc,hH,n',rl⟩:=RB S1 hr e2;obtain ⟨cl,g,fd,ps,ds,dvs,dds,m',N,hm,G,b,hd,hdd,hN,hmm⟩:=P c f _ m e3 C hc;refine ⟨a,C,dx,_,g,fd,ps,ds,dvs,spM X.K X.mg m' N,rfl,hH,cl,hm,Tf rl n' e0,G,b,hd,Z,F1,ρ1,μ1,δ1,S1,?_⟩;cases ea:XF ms δ1 μ1 with
        | bad=>rw [ea] at z; exact z
        | exc x δ2 μ2=>rw [ea] at z; exact z
        | ok us δ2 μ2 =>
          rw [ea,Out.bind_ok] at z;intro H2 F2 ρ2 l2 lr2 S2 ws hw;have z2:=z.mono l2 lr2;have hr2:=hr.up l2.to lr2.to;have hp:=(RepL.cons hr2 hw).app (hdd F2 ρ2);have lw:us.length=ms.length:=(T7 ea).symm;refine ⟨by rw [hp.len,List.length_append,List.length_cons,lw]; exact (by omega:ms.length+1+dds.length=N),zone Z H2 δ2 σ,F2,ρ2,μ2,(d :: us)++dds,S2.enter,hp,?_⟩;rw [← hmm];generalize m (d :: us) μ2=o at z2;cases o with
          | ok s μ3=>exact fun v H' F' ρ' l lr S' rv=>z2 H' F' ρ' (S2.leLeave l) (S2.leRLeave lr) (S2.leave S' l lr) v (S2.came rv)
          | exc x μ3=>exact fun c d H' F' ρ' l lr S' er=>z2 c d H' F' ρ' (S2.leLeave l) (S2.leRLeave lr) (S2.leave S' l lr) er
          | bad=>exact z2
     ·rw [if_neg e0] at z; exact z.elim
theorem Cs.meth {sc:Scope} {nl:List Str} {mt:String->String->Nat->Option MF} {f:String} {oo:Opn} {ms:List ME} {pl:Sem Bool} (Cc:Cs X W k nl sc) (P:RO X j mt) (hjk:j<=k) (ho:JO X W o oo) (ha:JA X W (e :: es) ms)
  (hst:starEach (e :: es) X.env=(false,eval e X.env) :: starEach es X.env:=by rfl) (hpl:(backTo pos (starEach es X.env)).any (·.1)=false:=by rfl)
  (ht:eval (.Call (.Attribute o (Str.ofString f) apos) (e :: es) [] pos) X.env=(do
   let ov ← eval o X.env
   standAt apos.atName
   let (f,first) ← holding [ov] (getMethod ov (Str.ofString f) pl)
   callWith pos f first (backTo pos (starEach (e :: es) X.env)) (backToKw pos (keywordEach [] X.env))):=by rfl) :
  JE X W (.Call (.Attribute o (Str.ofString f) apos) (e :: es) [] pos) (Zk mt f oo ms) :=
 (Ji (n:=0) (pl:=pl) ho (Cc.rm.mono hjk) (passAt Cc.tk) ha hst hpl ht).imp (Qs P)
theorem Cs.meth0 {sc:Scope} {nl:List Str} {mt:String->String->Nat->Option MF} {f:String} {oo:Opn} {pl:Sem Bool} (Cc:Cs X W k nl sc) (P:RO X j mt) (hjk:j<=k) (ho:JO X W o oo)
  (ht:eval (.Call (.Attribute o (Str.ofString f) apos) [] [] pos) X.env=(do
   let ov ← eval o X.env
   standAt apos.atName
   let (f,first) ← holding [ov] (getMethod ov (Str.ofString f) pl)
   callWith pos f first (backTo pos (starEach [] X.env)) (backToKw pos (keywordEach [] X.env))):=by rfl) :
  JE X W (.Call (.Attribute o (Str.ofString f) apos) [] [] pos) (Zk mt f oo []):=by
 refine (K7 (n:=0) (pl:=pl) ho (Cc.rm.mono hjk) (passAt Cc.tk) ht).imp fun σ H Q h => ?_;obtain ⟨Z,F,ρ,μ,δ,S,q⟩:=Qs (W:=W) (n:=0) P σ H Q h;refine ⟨Z,F,ρ,μ,δ,S,q.imp fun r δ1 μ1 H1 F1 ρ1 l lr S1 z x hx => ?_⟩;obtain ⟨a,C,dx,fs,g,fd,ps,ds,dvs,sp,e1,e2,e3,e4,e5,e6,e7,e8,Z',F',ρ',μ',δ',S',q'⟩:=z x hx;exact ⟨a,C,dx,fs,g,fd,ps,ds,dvs,sp,e1,e2,e3,e4,e5,e6,e7,e8,q' H1 F' ρ' .refl .refl S' [] .nil⟩
end
end FL
namespace FL
open PySem PySem.Spec PyProof.Rows L2
section
variable {X : Cx} {W : WX} {k : Nat} {N : List Str} {sc : Scope} {e e' : Expr} {es : List Expr} {pos p : Pos} {o : Opn} {isa isb : String -> String -> Option Bool} {d : String} {D : Addr}
theorem Gp {F:Hp} {ρ:List Addr} {y:V} (hD:X.mg (Str.ofString d)=some (.ref D)) (h:Rep X.K X.mg F ρ y (.glo d)):y = .ref D:=by
 cases h with
 | glo g1 g2 =>
   rw [hD] at g1;cases g1;cases y with
   | ref p=>cases g2; rfl
   | int _=>obtain ⟨_,z⟩:=g2; cases z
   | str _=>obtain ⟨_,z⟩:=g2; cases z
   | byt _=>obtain ⟨_,z⟩:=g2; cases z
   | flt _=>obtain ⟨_,z⟩:=g2; cases z
   | _=>cases g2
end
end FL
namespace FL
open PySem PySem.Spec PyProof.Rows L2
structure ClsScope (N ps:List Str) (sc:Scope):Prop where
 kind:sc.kind = .function
 co:sc.isCoroutine=false
 gen:sc.isGenerator=false
 nd:N.Nodup
 pre:N.take ps.length=ps
 par:∀ x∈ps,sc.names.lookup x=some .local
 nocell:∀ y∈sc.names,y.2 ≠ .cell
 free:∀ y∈sc.names,y.2 = .free->y.1 = "__class__"
 ls:sc.names.lookup ("super" : Str)=some .globalImplicit
 lc:sc.names.lookup ("__class__" : Str)=some .free
abbrev K6 (qual:Str) (scope:Scope) (L f:Addr) (cd:Value) (cc:Addr):Env:=PySem.W.ksEnv qual scope L f cd cc
def Gn (P:Program) (w:World) (K:PySem.W.Frag) (mg:Str->Option Value) (base:Heap) (N:List Str) (qual:Str) (scope:Scope) (f:Addr) (cd:Value) (cc:Addr) (A:Around) (outer:List Env) (s:Shared) (H:Hp) (E:XK):Cx where
 prog:=P
 w:=w
 K:=K
 mg:=mg
 base:=base
 A:=A.deeper (K6 qual scope s.heap.objs.size f cd cc)
 N:=N
 s_0:=s
 H_0:=H
 env:=K6 qual scope s.heap.objs.size f cd cc
 outer:=outer
 stack:=K6 qual scope s.heap.objs.size f cd cc :: outer
 ex:=[]
 calm:=true
 fn:=fun y=>decide (y ≠ "__class__")
 pn:=[]
 xe:=fun e s' => wpAny (model P w) (A.deeper (K6 qual scope s.heap.objs.size f cd cc)) (leaving (K6 qual scope s.heap.objs.size f cd cc) e) (fun _ s'' => L2.CX P w outer H s E e s'') (fun e' s'' => L2.CX P w outer H s E e' s'') s'
theorem TZ {cc:Addr} {y:Str} {c:Addr} (e:([(("__class__" : Str),cc)]:List (Str×Addr)).lookup y=some c):y = "__class__" /\ c=cc:=by
 rw [List.lookup_cons] at e;by_cases z:y = "__class__"
 ·subst z
  simp at e;exact ⟨rfl,e.symm⟩
 ·rw [show (y == ("__class__" : Str))=false by simpa using z] at e
  cases e
theorem K5 {P:Program} {w:World} {K:PySem.W.Frag} {mg:Str->Option Value} {base:Heap} {N ps:List Str} {qual:Str} {scope:Scope} {f cc D:Addr} {cd:Value} {A:Around} {outer:List Env} {s:Shared} {H:Hp} {E:XK} {us:List Value} {vs:List V} {h₁:Heap} {tk:Nat} {cl:Value} {cld:Option Addr} {csl:Array (Option Value)}
  (S:ClsScope N ps scope) (hd:A.handled=none) (e0:Env0 P w K mg base A outer s H) (hcell:K.lookup cc=some ⟨cl,cld,.cell (some (.ref D)),csl⟩) (hl:vs.length=ps.length) (r:Vals vs us)
  (hns:h₁.Ns s.heap.objs.size fun y=>(ps.zip us).reverse.lookup y) (kp:∀ b o,s.heap.get? b=some o->h₁.get? b=some o) :
  Inv (Gn P w K mg base N qual scope f cd cc A outer s H E) [] (L2.start N vs) H { s with heap:=h₁,toks:=tk }:=by
 have noA:∀ b:Addr,b∉(Gn P w K mg base N qual scope f cd cc A outer s H E).ex:=fun b z=>absurd (show b∈([]:List Addr) from z) (by simp);have hbase:=e0.mod.kin _ _ hcell;have hpl:ps.length<=N.length:=by
  have q:=congrArg List.length S.pre;rw [List.length_take] at q;omega
 refine ⟨⟨e0.mod,S.kind,rfl,rfl,Nat.le_refl _,fun y z c e1 e2 => ?_,fun y hy => ?_,fun y c z e => ?_,fun _=>hd,Around.frames_deeper e0.frames,.inr ⟨rfl,rfl⟩,fun b z=>absurd z (noA b),e0.bs,e0.bsz,fun b _ _=>noA b,fun b z=>absurd z (noA b),e0.funs,e0.frf⟩,
  rfl,e0.bare,Un.kept kp,⟨_,hns,fun i y v e1 e2 e3 => ?_⟩,fun y c e => ?_,e0.hok.fresh (Nat.le_refl _),fun y c e => ?_,fun q hq=>absurd (show q∈([]:List (Addr×Obj)) from hq) (by simp),e0.hok.kept kp,?_⟩
 ·rw [(TZ e1).1,(TZ e2).1]
 ·have hy:scope.names.lookup y=some .cell\/scope.names.lookup y=some .free:=hy
  rcases hy with hy | hy
  ·exact absurd rfl (S.nocell _ (PySem.mem_of_lookup hy))
  ·have e:y = "__class__":=S.free _ (PySem.mem_of_lookup hy) rfl
   exact ⟨cc,by rw [e]; show ([(("__class__" : Str),cc)]:List (Str×Addr)).lookup ("__class__" : Str)=some cc; simp⟩
 ·exact absurd (TZ e).1 (of_decide_eq_true z)
 ·have e1:N[i]?=some y:=e1
  unfold L2.start at e2;by_cases h1:i < vs.length
  ·have hq:ps[i]?=some y:=by
    rw [← S.pre,List.getElem?_take_of_lt (by omega)];exact e1
   rw [List.getElem?_append_left (by rw [List.length_map]; exact h1),List.getElem?_map] at e2;have ha:vs[i]?=some v:=by
    cases e:vs[i]? with
    | none=>rw [e] at e2; cases e2
    | some a=>rw [e] at e2; cases e2; rfl
   obtain ⟨u,hu,rv⟩:=r.get ha;have ndP:ps.Nodup:=by
    rw [← S.pre];exact S.nd.sublist (List.take_sublist _ _)
   exact ⟨u,rv,.inl ⟨S.par y (List.mem_of_getElem? hq),NdefX.zip_look ndP hq hu⟩⟩
  ·rw [List.getElem?_append_right (by rw [List.length_map]; omega),List.getElem?_replicate] at e2
   split at e2 <;> cases e2
 ·have e:([(("__class__" : Str),cc)]:List (Str×Addr)).lookup y=some c:=e
  rw [(TZ e).2];exact ⟨_,_,kp _ _ (e0.bs _ _ hbase).1,rfl⟩
 ·have e:([(("__class__" : Str),cc)]:List (Str×Addr)).lookup y=some c:=e
  rw [(TZ e).2];exact (e0.bs _ _ hbase).2
 ·unfold L2.start
  show _=N.length;rw [List.length_append,List.length_map,List.length_replicate];omega
structure FdC (K:PySem.W.Frag) (x qual:Str) (st:Stmt) (f:Addr) (fd:FuncData) (dV:Value) (cda cc D:Addr):Prop where
 ex:∃ (oc:Value) (od:Option Addr) (kV doc pm:Value) (an:Option Addr) (ct:Value) (osl:Array (Option Value)),
  fd=PySem.W.ksFn x qual (defArgs st) (defBody st) (defScope st) dV kV doc pm an (.ref cda) ct cc/\K.lookup f=some { cls:=oc,dict:=od,data:=.func fd,slots:=osl }
 cd:PySem.W.codeIn K (.ref cda) qual=true
 cell:∃ cl cld csl,K.lookup cc=some { cls:=cl,dict:=cld,data:=.cell (some (.ref D)),slots:=csl }
structure PWb (X:Cx) (body rest:List Stmt) (t:TS):Prop where
 run:∀ (pins:List (Addr×Obj)) (s:Shared) (σ:L2.St) (H:Hp) (D:Ends),Inv X pins σ H s->t D σ H->_root_.PySem.wpAt (model X.prog X.w) X.A (.func body X.env) (execs rest X.env) (SP X pins D) X.xe s
structure PWs (X:Cx) (body:List Stmt) (st:Stmt) (t:TS):Prop where
 run:∀ (pins:List (Addr×Obj)) (s:Shared) (σ:L2.St) (H:Hp) (D:Ends),Inv X pins σ H s->t D σ H->_root_.PySem.wpAt (model X.prog X.w) X.A (.func body X.env) (exec st X.env) (SP X pins D) X.xe s
section
variable {X : Cx} {body rest : List Stmt} {st : Stmt} {t u : TS}
theorem CT (h:PSs X rest t):PWb X body rest t:=⟨fun pins s σ H D I q=>wpAt_of_wpAny (h.run pins s σ H D I q)⟩
theorem CS (h:PS X st t):PWs X body st t:=⟨fun pins s σ H D I q=>wpAt_of_wpAny (h.run pins s σ H D I q)⟩
theorem Jh (h1:PWs X body st t) (h2:PWb X body rest u):PWb X body (st :: rest) (tSeq t u):=by
 refine ⟨fun pins s σ H D I h=>ks_wpAt_execs_cons (ks_wpAt_mono (h1.run pins s σ H { D with nx:=u D } I h) (fun f s1 q => ?_) fun _ _ z=>z)⟩;cases f with
 | next =>
   obtain ⟨σ',H',I',q⟩:=q;exact h2.run pins s1 σ' H' D I' q
 | ret v=>exact q
 | brk=>exact q
 | cont=>exact q
theorem PWb.imp (h:PWb X body rest t) (i:∀ D σ H,u D σ H->t D σ H):PWb X body rest u:=⟨fun pins s σ H D I q=>h.run pins s σ H D I (i D σ H q)⟩
end
abbrev AH (X:Cx) (W:WX) (body rest:List Stmt) (m:MS):Prop:=PWb X body rest (Ea X W m)
abbrev xk (X:Cx) (W:WX) (body:List Stmt) (st:Stmt) (m:MS):Prop:=PWs X body st (Ea X W m)
section
variable {X : Cx} {W : WX} {body rest : List Stmt} {st : Stmt} {m n : MS}
theorem CQ (h:L' X W rest m):AH X W body rest m:=CT h
theorem CP (h:JS X W st m):xk X W body st m:=CS h
theorem Ox (h:xk X W body st m) (t:AH X W body rest n):AH X W body (st :: rest) (Z4 m n) :=
 (Jh h t).imp fun D σ H ⟨Z,F,ρ,μ,δ,S,q⟩=>⟨Z,F,ρ,μ,δ,S,FinS.seq q⟩
end
structure CsK (X:Cx) (f cda cc D:Addr) (st:Stmt):Prop where
 fd:∃ fd x qual dV,FdC X.K x qual st f fd dV cda cc D/\X.env=K6 qual (defScope st) X.env.locals f (.ref cda) cc
theorem AG {P:Program} {w:World} {K:PySem.W.Frag} {mg:Str->Option Value} {base:Heap} {k n:Nat} {f cda cc D:Addr} {x qual:Str} {st:Stmt} {fd:FuncData} {N ps:List Str} {m:MS} {dV:Value} (F:FdC K x qual st f fd dV cda cc D) (S:ClsScope N ps (defScope st)) (hn:ps.length=n)
  (hbody:∀ (X:Cx) (W:WX),X.prog=P->X.w=w->X.K=K->X.mg=mg->X.base=base->Cd X W k N (defScope st)->CsK X f cda cc D st->AH X W (defBody st) (defBody st) m):FnG P w K mg base (L2.CX P w) (k+1) f fd ps (spM K mg (Zu N.length m) n):=by
 subst hn;obtain ⟨oc,od,kV,doc,pm,an,ct,osl,rfl,lk⟩:=F.ex;obtain ⟨cl,cld,csl,hcell⟩:=F.cell;refine ⟨fun vs H Q E h=>h.1,fun A outer s H args us vs Q E hr e0 hb r hsp => ?_⟩;obtain ⟨hl,Z,F0,ρ,μ,ds,S0,rd,q⟩:=hsp;have Nk:K.In s.heap:=e0.mod.kin.keeps fun b o e=>(e0.bs b o e).1;have lim:s.heap.NoLimit:=e0.mod.nolimit.keeps fun b o e=>(e0.bs b o e).1;refine PySem.ks_codeAny_call_defAt hr.r.depth (Nk _ _ lk) rfl lim (PySem.W.codeRec_of Nk F.cd) rfl hb S.nocell (fun y hy=>S.par y.1 (List.of_mem_zip hy).1) (fun h₁ hns kp => ?_) S.co S.gen S.kind;have I:Inv (Gn P w K mg base N qual (defScope st) f (.ref cda) cc A outer s H E) [] (L2.start N vs) H { s with heap:=h₁,toks:=s.toks+(ps.zip us).length }:=K5 S hr.r.hd e0 hcell hl r hns kp;have C:Cd (Gn P w K mg base N qual (defScope st) f (.ref cda) cc A outer s H E) (fun c d _ H=>E c d H) k N (defScope st):=by
  refine ⟨⟨rfl,hr.deeper _,takes_of rfl rfl rfl rfl,rfl,rfl,S.nd⟩,passes_of rfl,fun y hy=>decide_eq_true fun z => ?_⟩;subst z;have hy:(defScope st).names.lookup ("__class__" : Str)=some .local\/(defScope st).names.lookup ("__class__" : Str)=some .cell:=hy;rw [S.lc] at hy;rcases hy with hy | hy <;> cases hy
 have J:=hbody _ _ rfl rfl rfl rfl rfl C ⟨_,x,qual,dV,F,rfl⟩;rw [WO] at q;refine ks_wpAt_mono (J.run [] _ (L2.start N vs) H { nx:=fun _ H' => Q .non H',rt:=Q } I ?_) (fun fl s' hs => ?_) fun e s' hs=>hs
 ·refine ⟨Z,F0,ρ,μ,_,S0.begin rd,?_⟩
  generalize m (ZZ N.length ds) μ=o at q;cases o with
  | nx δ μ' => exact fun σ' H' F' ρ' l lr S' => q .non H' F' ρ' l lr S'.drop .non
  | rt s μ' => exact fun v H' F' ρ' l lr S' rv=>q v H' F' ρ' l lr S' rv
  | bk δ μ' => exact q.elim
  | ct δ μ' => exact q.elim
  | exc x δ μ' => exact fun c d σ' H' F' ρ' l lr S' er=>q c d H' F' ρ' l lr S'.drop er
  | bad=>exact q
 ·cases fl with
  | ret u =>
    obtain ⟨v,σ',H',J,rv,q⟩:=hs;exact ⟨v,H',J.os,J.bare,J.base,J.hok,rv,q⟩
  | next =>
    obtain ⟨σ',H',J,q⟩:=hs;exact ⟨.non,H',J.os,J.bare,J.base,J.hok,rfl,q⟩
  | brk =>
    obtain ⟨_,_,_,z⟩:=hs;exact z.elim
  | cont =>
    obtain ⟨_,_,_,z⟩:=hs;exact z.elim
end FL
namespace FL
open PySem PySem.Spec PyProof.Rows L2
structure SupT (X:Cx) (f cda cc D:Addr) (p0:Str):Prop where
 lk:∃ o fd ar,X.K.lookup f=some o/\o.data = .func fd/\(fd.params.posonlyargs++fd.params.args).head?=some ar/\ar.arg=p0
 code:∃ ccl cdd vs ccs file tf,X.K.lookup cda=some { cls:=ccl,dict:=cdd,data:=.fields vs,slots:=ccs }/\vs[2]?=some (.str file tf)/\((X.prog.main.file:Str) == file)=true
 cell:∃ cl cld csl,X.K.lookup cc=some { cls:=cl,dict:=cld,data:=.cell (some (.ref D)),slots:=csl }
 clsD:∃ cdD,PySem.W.clsIn X.K D=some cdD
 any:PySem.W.nsIn X.K cStatics "thirdparty.any" = some none
 top:(X.prog.main.scope.names.lookup ("super" : Str)).isSome=false
 sup:X.mg "super" = none
 ls:X.env.scope.names.lookup ("super" : Str)=some .globalImplicit
 lc:X.env.scope.names.lookup ("__class__" : Str)=some .free
 l0:X.env.scope.names.lookup p0=some .local
 n0:X.N[0]?=some p0
 func:X.env.func=some f
 ecode:X.env.code = .ref cda
 cells:X.env.cells.lookup ("__class__" : Str)=some cc
def AF (X:Cx) (j:Nat) (c f:String) (D:Addr) (mi:MF) (N:Nat):Prop :=
 ∀ C,X.mg (Str.ofString c)=some (.ref C)->∃ (g:Addr) (og:Obj) (fd:FuncData) (ps:List Str) (ds:List Value) (dvs:List V) (cdC:ClassData),PySem.W.clsIn X.K C=some cdC/\PySem.W.alongIn X.K (Str.ofString f) ((cdC.mro.dropWhile (· != .ref D)).drop 1)=some (some (.ref g)) /\
  X.K.lookup g=some og/\og.cls = .type "function" /\ PySem.W.fnIn X.K g=true/\PySem.W.mroIn X.K C (.ref D)=some true/\FnG X.prog X.w X.K X.mg X.base (L2.CX X.prog X.w) j g fd ps (spM X.K X.mg mi N)/\Binds X.K fd ps []
def Rz (c:String) (mi:MF) (ms:List ME):MS:=fun (δ:FL.Loc) (μ:Mem)=>match δ[0]? with
 | some (some (FL.Slot.fr d))=>(match Yt μ d with
   | some (c',_,_)=>if c'=c then (XF ms δ μ).thn fun ds δ1 μ1=>(match mi (d :: ds) μ1 with
     | .ok _ μ2=>.nx δ1 μ2
     | .exc x μ2=>.exc x δ1 μ2
     | .bad=>.bad) else .bad
   | none=>.bad)
 | _=>.bad
section
variable {X : Cx} {W : WX} {k j N : Nat} {nl : List Str} {sc : Scope} {e : Expr} {es : List Expr} {q0 q1 q2 q4 q5 : Pos} {f cda cc D : Addr} {p0 : Str} {c m : String} {mi : MF} {ms : List ME} {body : List Stmt} {pl : Sem Bool}
theorem K4 (C:Cd X W k nl sc) (T:SupT X f cda cc D p0) (G:AF X j c m D mi N) (hjk:j<=k) (ha:JA X W (e :: es) ms) (hN:ms.length+1=N) (hm:(Str.ofString m == ("__class__" : Str))=false)
  (ev:eval (.Call (.Attribute (.Call (.Name "super" q0) [] [] q1) (Str.ofString m) q2) (e :: es) [] q4) X.env=(do
   let ov ← attributeBase (.Call (.Name "super" q0) [] [] q1) (Str.ofString m) X.env (eval (.Call (.Name "super" q0) [] [] q1) X.env)
   standAt q2.atName
   let (f,first) ← holding [ov] (getMethod ov (Str.ofString m) pl)
   callWith q4 f first (backTo q4 (starEach (e :: es) X.env)) []))
  (sw:swapsWith (.Call (.Attribute (.Call (.Name "super" q0) [] [] q1) (Str.ofString m) q2) (e :: es) [] q4) none q5.line X.env=pure false)
  (he:starEach (e :: es) X.env=(false,eval e X.env) :: starEach es X.env) (hpl:(backTo q4 (starEach es X.env)).any (·.1)=false) :
  xk X W body (.Expr (.Call (.Attribute (.Call (.Name "super" q0) [] [] q1) (Str.ofString m) q2) (e :: es) [] q4) q5) (Rz c mi ms):=by
 obtain ⟨of,fd0,ar,lf,lfd,har,har2⟩:=T.lk;obtain ⟨ccl,cdd,cvs,ccs,file,tf,hcode,hvs,hfile⟩:=T.code;obtain ⟨cl,cld,csl,hcell⟩:=T.cell;obtain ⟨cdD,hD⟩:=T.clsD;refine ⟨fun pins s σ H E I ⟨Z,F,ρ,μ,δ,S,q0⟩ => ?_⟩;unfold Rz at q0;obtain ⟨d,e0,q⟩:∃ d,δ[0]?=some (some (FL.Slot.fr d))/\FinS X W Z F ρ E (match Yt μ d with
  | some (c',_,_)=>if c'=c then (XF ms δ μ).thn fun ds δ1 μ1=>(match mi (d :: ds) μ1 with
    | .ok _ μ2=>.nx δ1 μ2
    | .exc x μ2=>.exc x δ1 μ2
    | .bad=>.bad) else .bad
  | none=>.bad):=by
  cases e0:δ[0]? with
  | none=>rw [e0] at q0; exact q0.elim
  | some o =>
    cases o with
    | none=>rw [e0] at q0; exact q0.elim
    | some z =>
      cases z with
      | own _=>rw [e0] at q0; exact q0.elim
      | fr d=>rw [e0] at q0; exact ⟨d,rfl,q0⟩
 cases ei:Yt μ d with
 | none=>simp only [ei] at q; exact q.elim
 | some t =>
 obtain ⟨c',ks,ds0⟩:=t;simp only [ei] at q;by_cases hc':c'=c
 case neg=>rw [if_neg hc'] at q; exact q.elim
 rw [if_pos hc'] at q;subst hc';obtain ⟨v0,es0,rep0⟩:=S.slot 0 _ e0;have rep0:Rep X.K X.mg F ρ v0 d:=rep0;obtain ⟨a,Ca,dx,vs,rfl,hmC,hHa,hks,rl⟩:=RB S rep0 ei;obtain ⟨g,og,fdg,ps,ds,dvs,cdC,hcC,hal,lg,ogc,fing,hsub,Fg,hb⟩:=G Ca hmC;obtain ⟨mA,O,_⟩:=ins_get I.hok hHa;obtain ⟨od,J,_⟩:=O.look;obtain ⟨mloc,hns,hlook⟩:=I.loc;obtain ⟨u0,ru0,look0⟩:=hlook 0 p0 _ T.n0 es0 (.inl T.l0);cases ru0;have gself:mloc p0=some (.ref a):=by
  rcases look0 with ⟨_,z⟩ | ⟨z,_⟩
  ·exact z
  ·have z:X.env.scope.names.lookup p0=some .cell\/X.env.scope.names.lookup p0=some .free:=z
   rw [T.l0] at z;rcases z with z | z <;> cases z
 have kX:=I.kIn;have oD:∃ o:Obj,X.K.lookup D=some o/\o.data = .cls cdD:=by
  unfold PySem.W.clsIn at hD
  split at hD
  ·rename_i ho
   cases hD;exact ⟨_,ho,rfl⟩
  ·cases hD
 have oC:∃ o:Obj,X.K.lookup Ca=some o/\o.data = .cls cdC:=by
  unfold PySem.W.clsIn at hcC
  split at hcC
  ·rename_i ho
   cases hcC;exact ⟨_,ho,rfl⟩
  ·cases hcC
 obtain ⟨oD,hoD,hdD⟩:=oD;obtain ⟨oC,hoC,hdC⟩:=oC;have lcell:s.heap.IsCell cc (some (.ref D)):=⟨_,kX _ _ hcell,rfl⟩;obtain ⟨mb,hmb,hbb⟩:=I.mod.blt;have kd:=I.ok.kind;refine ks_wpAt_Expr_any (ks_wpAt_MethodCall (pl:=pl) ?_ ev) (by unfold interactive; simp [kd]) sw;refine ks_wpAt_super_base T.ls T.lc hm T.func (kX _ _ lf) lfd har T.ecode (kX _ _ hcode) rfl hvs hfile T.top ?_;refine PySem.W.ks_loadName_global kd T.ls (PySem.Calls.loadGlobal_builtin (mg:=X.mg) (by rw [I.ok.glob]; exact I.mod.glob.keeps I.bk) T.sup (by rw [I.ok.blt]; exact hmb.keeps I.bk) ((hbb "super" (by decide)).trans PyProof.Rows.Boot.«super») ⟨rfl,?_⟩);refine wpAny_loadName_free kd T.lc T.cells lcell ?_;refine wpAny_loadName_local (m:=mloc) kd (by rw [har2]; exact T.l0) hns (by rw [har2]; exact gself) ?_;obtain ⟨hp,gg,dd,tt,os⟩:=s;refine PySem.ks_wpAny_isType_cls (kX _ _ hoD) hdD ⟨rfl,?_⟩;refine PySem.ks_wpAny_call_super (kX _ _ hoD) hdD J.at_ J.cls (fun c z=>by cases z) (PySem.W.looks_mroIn kX hsub) fun h2 hso k2 => ?_;have KX2:X.K.In h2:=kX.keeps k2;have I2:Inv X pins σ H ⟨h2,gg,dd,tt,os⟩:=I.kept (t':=tt) k2;have hne:a≠Ca:=fun z=>by
  have y:=kX _ _ hoC;have y2:=J.at_;rw [z] at y2;have y3:=y2.symm.trans y;have y4:=congrArg Obj.data (Option.some.inj y3);rw [hdC] at y4;cases y4
 refine PySem.ks_wpAny_getMethod_super (x:=a) (C:=Ca) (D:=D) (f:=g) (of:=og) hso (PySem.W.looks_opaque KX2 T.any) (l₀:=cdC.mro) (fun A Q E s k q=>wpAny_bind ((PySem.W.looks_clsIn KX2 hcC) A _ E s k (wpAny_pure q))) rfl KX2 hal (KX2 _ _ lg) ogc hne hm ?_;have I3:Inv X ((h2.objs.size,PySem.W.methodObj (.ref g) (.ref a)) :: pins) σ H ⟨h2.push (PySem.W.methodObj (.ref g) (.ref a)),gg,dd,tt+1,os⟩ :=
  ClX.pin_new (t':=tt+1) I2 (fun _ _ z=>Heap.get?_push_of_some _ z) (Nat.le_refl _) (Heap.get?_push_size h2 rfl) (fun v z=>nomatch z)
 have hbase:X.base.get? h2.objs.size=none:=ClX.base_none I2 (Nat.le_refl _);refine ClX.callwith_cm (X:=X) (C:=a) (g:=g) I3 hbase fing (thn (ha.run q4 _ _ σ H (fun ws H2=>spM X.K X.mg mi N (.ref a :: ws) H2 (fun _ H3=>E.nx σ H3) (WE W σ)) I3 ?_) fun us s3 ⟨ws,H2,I4,rv,q2⟩=>⟨⟨ClX.pin_at I4,I4.kIn⟩,?_⟩) he hpl
 ·refine ⟨Z,F,ρ,μ,δ,S,?_⟩
  cases ea:XF ms δ μ with
  | bad=>rw [ea] at q; exact q
  | exc x δ1 μ1 =>
    rw [ea] at q;exact fun c d H' F' ρ' l lr S' er=>q c d σ H' F' ρ' l lr S' er
  | ok us δ1 μ1 =>
    rw [ea] at q;intro H1 F1 ρ1 l1 lr1 S1 ws hw;have rep1:=rep0.up l1.to lr1.to;have hl:=hw.len;have hl2:=T7 ea;refine ⟨by rw [List.length_cons,hl,← hl2]; exact hN,zone Z H1 δ1 σ,F1,ρ1,μ1,d :: us,S1.enter,.cons rep1 hw,?_⟩;have q1:FinS X W Z F ρ E (match mi (d :: us) μ1 with | .ok _ μ2=>.nx δ1 μ2 | .exc x μ2=>.exc x δ1 μ2 | .bad=>.bad):=q;have q2:=q1.mono l1 lr1;generalize mi (d :: us) μ1=o at q2;cases o with
    | ok s μ3=>exact fun v H' F' ρ' l lr S' rv=>q2 σ H' F' ρ' (S1.leLeave l) (S1.leRLeave lr) (S1.leave S' l lr)
    | exc x μ3=>exact fun c d H' F' ρ' l lr S' er=>q2 c d σ H' F' ρ' (S1.leLeave l) (S1.leRLeave lr) (S1.leave S' l lr) er
    | bad=>exact q2
 ·have rv2:Vals (V.ref a :: ws) (Value.ref a :: us):=.cons rfl rv
  have hr:RmG j X.A:=C.rm.mono hjk;have len2:(Value.ref a :: us).length=ps.length:=by rw [← rv2.length]; exact Fg.len _ _ _ _ q2
  have bb:=hb s3 (Value.ref a :: us) I4.kIn (by rw [List.append_nil]; exact len2);rw [List.append_nil] at bb;refine wpAny_call (PySem.W.method_call (ClX.pin_at I4) (codeAny_mono (Fg.run X.A X.stack s3 H2 ⟨.ref a :: us,[]⟩ _ _ (fun _ H3=>E.nx σ H3) (WE W σ) hr I4.env0 bb rv2 q2) fun res t ht => ?_))
  match res,ht with
  | .error er,ht=>exact passAt C.tk σ _ H2 s3 er t I4 ht
  | .ok (.ret u),ht =>
    obtain ⟨v,H',I5,rv5,q5⟩:=I4.after ht;exact ⟨σ,H',ClX.unpin I5,q5⟩
end
end FL
namespace FL
open PySem PySem.Spec PyProof.Rows L2
theorem Ow:RmG 200 callerA:=⟨⟨rfl,by decide,by decide⟩,rfl⟩
end FL
namespace FL
open PySem PySem.Spec PyProof.Rows L2 LamX
def Hid (h:Heap) (H:Hp):Prop:=∀ p,H p≠none->(∃ o its n,h.get? p=some o/\o.data = .seq its n)\/h.get? p=some QQ
theorem PU {h:Heap} {H:Hp} (x:Hid h H) {p:Addr} {o:Obj} (e:h.get? p=some o) (n1:∀ its n,o.data ≠ .seq its n) (n2:o.data ≠ .fields #[]):(hidT h H).get? p=some o/\H p=none:=by
 have n:H p=none:=Classical.byContradiction fun z=>by
  rcases x p z with ⟨o',its,n,e',d⟩ | e'
  ·rw [e] at e'
   cases e';exact n1 _ _ d
  ·rw [e] at e'
   cases e';exact n2 rfl
 exact ⟨hidT_get e n,n⟩
theorem PR {h:Heap} {H:Hp} (x:Hid h H) {p:Addr} {f:Str->Option Value}:h.Ns p f->(hidT h H).Ns p f:=fun ⟨o,es,ep,e,d,r⟩ =>
 ⟨o,es,ep,(PU x e (fun its n z=>by rw [d] at z; cases z) (fun z=>by rw [d] at z; cases z)).1,d,r⟩
theorem Jg {h:Heap} {p:Addr} {f:Str->Option Value} {o:Obj} (x:h.Ns p f) (e:h.get? p=some o) (n:∀ es ep,o.data ≠ .dict es ep):False:=by
 obtain ⟨o',es,ep,e',d,_⟩:=x;rw [e] at e';cases e';exact n _ _ d
abbrev uE (h:Heap) (mg:Str->Option Value):Prop:=∃ (bm:Addr) (ob:Obj),mg "__builtins__" = some (.ref bm)/\bm≠builtinsNs/\h.get? bm=some ob/\ob.cls = .type "module" /\ ob.dict=some builtinsNs/\ob.data = .plain
theorem Gm {h:Heap} {H:Hp} (x:Hid h H) {mg:Str->Option Value} {c P:Addr} (G:h.Ns mainGlobals mg) (B:uE h mg) (e:h.get? P=some QQ) (C:PySem.W.CodeHd h c P):TabB (hidT h H) mg c P:=by
 constructor
 ·obtain ⟨o,its,f1,f2,f3,f4,f5,f6,f7,g1,g2,g3,gs⟩:=C
  refine ⟨o,its,f1,f2,f3,f4,f5,f6,f7,(PU x g1 (fun _ _ z => ?_) fun z => ?_).1,g2,g3,gs⟩
  ·rw [g3] at z
   cases z
  ·rw [g3] at z
   cases z;have w:=gs.1;simp at w
 ·obtain ⟨bm,ob,a1,a2,a3,a4,a5,a6⟩:=B
  refine ⟨bm,ob,a1,a2,fun z => ?_,fun z => ?_,(PU x a3 (fun _ _ z => ?_) fun z => ?_).1,a4,a5,a6⟩
  ·subst z
   exact Jg G a3 fun _ _ z=>by rw [a6] at z; cases z
  ·subst z
   rw [e] at a3;cases a3;cases a6
  ·rw [a6] at z
   cases z
  ·rw [a6] at z
   cases z
 ·intro z
  rw [← z] at e;exact Jg G e fun _ _ z=>by cases z
def L3 (a:Addr) (u:Option HO) (T:List Addr):Hp:=fun p=>if p∈T then some (.tbl #[]) else if p=a then u else none
def Ov (cs:List (Addr×Addr×Str)):Mem:=cs.map fun p=>.tab p.2.1 p.2.2
theorem Jf {cs:List (Addr×Addr×Str)} {j:Nat} {o:Own} (e:(Ov cs)[j]?=some o):∃ p,cs[j]?=some p/\o = .tab p.2.1 p.2.2:=by
 unfold Ov at e;rw [List.getElem?_map] at e;obtain ⟨p,e1,e2⟩:=Option.map_eq_some_iff.mp e;exact ⟨p,e1,e2.symm⟩
theorem AE {P:Program} {w:World} {K:PySem.W.Frag} {mg mb:Str->Option Value} {k:Nat} {f a:Addr} {fd:FuncData} {x:Str} {m:MF} {t:Shared} {us:List Value} {ns:List Int} {cs:List (Addr×Addr×Str)}
  (hK:K.In t.heap) (hg:t.heap.Ns mainGlobals mg) (hbn:t.heap.Ns builtinsNs mb) (hbb:∀ x:Str,x ≠ "__name__"->mb x=bootBuiltins x) (hlim:t.heap.NoLimit) (hgen:t.gens = #[]) (hB:uE t.heap mg)
  (hT:∀ p∈cs,t.heap.get? p.2.1=some QQ) (nT:∀ p∈cs,K.lookup p.2.1=none) (hC:∀ p∈cs,PySem.W.CodeHd t.heap p.1 p.2.1) (dT:(cs.map fun p=>p.2.1).Nodup)
  (ha:t.heap.get? a=some { cls:=.type "list",data:=.seq us.toArray }) (hi:IntsAre us ns) (hl:ns.length<=sizeLine) (hr:RmG k callerA)
  (F:∀ base:Heap,K.In base->base.Ns mainGlobals mg->(∀ p∈cs,TabB base mg p.1 p.2.1)->FnG P w K mg base (L2.CX P w) k f fd [x] (spM K mg m 1)) (hbind:∀ (s:Shared) (u:Value),BindsTo s fd ⟨[u],[]⟩ [(x,u)])
  (hm:∃ μ',m [.ro (ns.map .int)] (Ov cs) = .ok (.fr (.bl true)) μ') :
  codeAny (model P w) callerA (.call (.ref f) ⟨[.ref a],[]⟩) (fun r s' => r = .ok (.ret (.bool true))/\OldK t.heap s'.heap/\s'.os=t.os/\AllBare s'.gens) t:=by
 have vv:=vals_ints hi;have lv:=hi.length;obtain ⟨μ',hm⟩:=hm;have hTm:∀ p∈cs.map (fun p=>p.2.1),t.heap.get? p=some QQ/\K.lookup p=none:=fun p hp=>by
  obtain ⟨y,hy,rfl⟩:=List.mem_map.mp hp;exact ⟨hT y hy,nT y hy⟩
 have naT:a∉cs.map fun p=>p.2.1:=fun z=>by
  have w:=(hTm a z).1;rw [ha] at w;have w':=congrArg Obj.data (Option.some.inj w);cases w'
 have main:∀ u:Option HO,(u=none\/∃ o,u=some (.frz o (.lst (ns.map V.int))))->(u≠none->K.lookup a=none)->SqL K (L3 a u []) a (ns.map V.int)->(∀ o,u=some o->∀ H,ObjOk P w H t.heap a o) ->
   codeAny (model P w) callerA (.call (.ref f) ⟨[.ref a],[]⟩) (fun r s' => r = .ok (.ret (.bool true))/\OldK t.heap s'.heap/\s'.os=t.os/\AllBare s'.gens) t:=by
  intro u hu free sq oka;have h0:∀ p,L3 a u (cs.map fun p=>p.2.1) p=none\/(p∈(cs.map fun p=>p.2.1)/\L3 a u (cs.map fun p=>p.2.1) p=some (.tbl #[]))\/(p=a/\p∉(cs.map fun p=>p.2.1)/\L3 a u (cs.map fun p=>p.2.1) p=u):=fun p=>by
   unfold L3;by_cases z1:p∈cs.map fun p=>p.2.1
   ·exact .inr (.inl ⟨z1,if_pos z1⟩)
   ·by_cases z2:p=a
    ·exact .inr (.inr ⟨z2,z1,by rw [if_neg z1,if_pos z2]⟩)
    ·exact .inl (by rw [if_neg z1,if_neg z2])
  generalize eH:L3 a u (cs.map fun p=>p.2.1)=H at h0;have hid:Hid t.heap H:=fun p z=>by
   rcases h0 p with n | ⟨n,_⟩ | ⟨rfl,_⟩
   ·exact absurd n z
   ·exact .inr (hTm p n).1
   ·exact .inl ⟨_,_,_,ha,rfl⟩
  have kB:K.In (hidT t.heap H):=fun p o e=>hidT_get (hK p o e) (by
   rcases h0 p with n | ⟨n,_⟩ | ⟨rfl,_,n⟩
   ·exact n
   ·rw [(hTm p n).2] at e
    cases e
   ·rw [n]
    exact Classical.byContradiction fun z=>by
     rw [free z] at e;cases e)
  have HaT:∀ p∈cs.map (fun p=>p.2.1),H p=some (.tbl #[]):=fun p hp=>by
   rw [← eH];exact if_pos hp
  have Ha:H a=u:=by
   rw [← eH];unfold L3;rw [if_neg naT,if_pos rfl]
  have mB:Mod K mg (hidT t.heap H):=⟨kB,PR hid hg,⟨mb,PR hid hbn,hbb⟩,let ⟨mc,q1,q2⟩:=hlim; ⟨mc,PR hid q1,q2⟩⟩;have ok:HOk P w H t.heap:=fun p o e=>by
   rcases h0 p with n | ⟨n,e2⟩ | ⟨rfl,_,n⟩
   ·rw [n] at e
    cases e
   ·rw [e] at e2
    cases e2;exact (hTm p n).1
   ·rw [n] at e
    exact oka o e H
  have env:Env0 P w K mg (hidT t.heap H) callerA [] t H:=⟨rfl,mB,fun p o e=>of_hidT e,Nat.le_of_eq (hidT_size _ _),trivial,fun p hp=>absurd (show p∈([]:List Addr) from hp) (by simp),ok,.of_eq hgen⟩;have fa:L3 a u [] a=u:=by
   unfold L3;rw [if_neg (by simp),if_pos rfl]
  have fn:∀ p,p≠a->L3 a u [] p=none:=fun p z=>by
   unfold L3;rw [if_neg (by simp),if_neg z]
  have S0:Sim K mg (fun _=>none) (L3 a u []) (cs.map fun p=>p.2.1) (Ov cs) [] [] H:=by
   refine ⟨fun p o h => ?_,fun p o h=>(nomatch h),rfl,fun i s e=>(by simp at e),fun i j p s t e=>(by simp at e),fun k c e => ?_,by unfold Ov; simp,dT⟩
   ·by_cases z:p=a
    ·subst z
     rw [fa] at h;exact .inl (Ha.trans h)
    ·rw [fn p z] at h
     cases h
   ·obtain ⟨p,e1,rfl⟩:=Jf e
    have hp:p.2.1∈cs.map fun p=>p.2.1:=List.mem_map.mpr ⟨p,List.mem_of_getElem? e1,rfl⟩;refine ⟨p.2.1,by rw [List.getElem?_map,e1]; rfl,fn _ fun z=>naT (by rw [← z]; exact hp),.of rfl rfl,rfl,#[],HaT _ hp,True.intro,fun pos cv hc => ?_⟩;have z:codeAmong pos []=some cv:=hc;simp [codeAmong] at z
  have hsp:spM K mg m 1 [.ref a] H (fun v _=>v = .bl true) (fun _ _ _=>False):=by
   refine ⟨rfl,_,L3 a u [],_,Ov cs,[.ro (ns.map .int)],S0,.cons (.ro sq (RepL.ofInts ns)) .nil,?_⟩;rw [hm];intro v H' F' ρ' _ _ _ rv;cases rv;rfl
  refine codeAny_mono ((F _ kB (PR hid hg) (fun p hp=>Gm hid hg hB (hT p hp) (hC p hp))).run callerA [] t H ⟨[.ref a],[]⟩ [.ref a] [.ref a] _ _ hr env (hbind t (.ref a)) (.cons rfl .nil) hsp) fun res s' h => ?_;cases res with
  | error e =>
    obtain ⟨_,_,_,_,_,_,_,_,_,_,_,_,z⟩:=h;exact z.elim
  | ok fl =>
    cases fl with
    | next=>exact False.elim h
    | brk=>exact False.elim h
    | cont=>exact False.elim h
    | ret u' =>
      obtain ⟨v,H',os,bare,un,ok',rv,q⟩:=h;have q':v = .bl true:=q;subst q';cases rv;have each:∀ p o,t.heap.get? p=some o->(p∉(cs.map fun p=>p.2.1)/\s'.heap.get? p=some o)\/(p∈(cs.map fun p=>p.2.1)/\o=QQ/\∃ more:Array Value,s'.heap.get? p=some { cls:=.none,data:=.fields more }):=fun p o e=>by
       by_cases hp:p∈cs.map fun p=>p.2.1
       ·obtain ⟨more,z⟩:=un.tbls p #[] (HaT p hp)
        rw [(hTm p hp).1] at e;cases e;exact .inr ⟨hp,rfl,_,ok' p _ z⟩
       ·refine .inl ⟨hp,?_⟩
        cases q:H p with
        | none=>exact un.keep p o e q (by intro z; exact absurd (show p∈([]:List Addr) from z) (by simp)) (by simp)
        | some y =>
          rcases h0 p with n | ⟨n,_⟩ | ⟨rfl,_,n⟩
          ·rw [n] at q
           cases q
          ·exact absurd n hp
          ·rcases hu with z | ⟨ob,z⟩
           ·rw [n,z] at q
            cases q
           ·obtain ⟨e1,_⟩:=ok p _ (n.trans z)
            obtain ⟨e2,_⟩:=ok' p _ (un.frzs p ob _ (n.trans z));rw [e] at e1; cases e1;exact e2
      refine ⟨rfl,⟨fun p o e => ?_,fun p o e => ?_⟩,os,bare⟩
      ·rcases each p o e with ⟨_,z⟩ | ⟨hp,rfl,more,z⟩
       ·exact .inl z
       ·obtain ⟨y,hy,rfl⟩:=List.mem_map.mp hp
        exact .inr (.inl ⟨((hC y hy).tab (hT y hy)).isCodeTable,rfl,#[],more,rfl,by rw [Array.empty_append]; exact z⟩)
      ·rcases each p o e with ⟨_,z⟩ | ⟨_,_,more,z⟩
       ·exact ⟨o,z⟩
       ·exact ⟨_,z⟩
 cases hk:K.lookup a with
 | some o =>
   have e:=hK a o hk;rw [ha] at e;cases e;exact main none (.inl rfl) (fun z=>absurd rfl z) (.inr ⟨_,us.toArray,_,hk,rfl,rfl,rfl,by rw [List.size_toArray,lv]; exact hl,by simpa using vv⟩) (fun o z=>nomatch z)
 | none =>
   refine main (some (.frz { cls:=.type "list",data:=.seq us.toArray } (.lst (ns.map V.int)))) (.inr ⟨_,rfl⟩) (fun _=>hk) (.inl (.inr ⟨{ cls:=.type "list",data:=.seq us.toArray },?_⟩)) (fun o z H => ?_)
   ·unfold L3
    rw [if_neg (by simp),if_pos rfl]
   ·cases z
    exact ⟨ha,by rw [List.length_map]; exact hl,us,_,vv,ha⟩
end FL
namespace FL
open PySem PySem.Spec PyProof.Rows L2 LamX
def Ou (K:PySem.W.Frag) (ts:Ml):List (Addr×Addr×Str):=ts.map fun t=>(Y_ K t.1,W8 K t.1,t.2)
theorem CO {n:Nat} {fs:List (PySem.W.Frag->Bool)} {ds:List Dsc} {ts:Ml} {g:Addr->Option Obj} {s:Shared} (h:∀ a,g a=s.heap.get? a):G5 n fs ds ts g=(UG n fs ds ts).obs s:=by
 have e:g=s.heap.get?:=funext h;rw [e];rfl
section
variable {fs : List (PySem.W.Frag -> Bool)} {ds : List Dsc} {ts : Ml} {K : PySem.W.Frag}
theorem HkSays.both (c:HkSays fs ds ts K):(fs.all fun f=>f K)=true/\(ds.all fun d=>d.ok K)=true:=Bool.and_eq_true_iff.mp (Bool.and_eq_true_iff.mp c.t).1
theorem HkSays.tabs (c:HkSays fs ds ts K):(∀ t∈ts,PySem.W.codeHdIn K (Y_ K t.1) (W8 K t.1)=true/\K.lookup (W8 K t.1)=none)/\(ts.map fun t=>W8 K t.1).Nodup:=by
 obtain ⟨a,b⟩:=Bool.and_eq_true_iff.mp (show ((ts.all fun t=>PySem.W.codeHdIn K (Y_ K t.1) (W8 K t.1)&&(K.lookup (W8 K t.1)).isNone)&&decide (ts.map fun t=>W8 K t.1).Nodup)=true from (Bool.and_eq_true_iff.mp c.t).2);refine ⟨fun t ht => ?_,of_decide_eq_true b⟩;obtain ⟨x,y⟩:=Bool.and_eq_true_iff.mp (List.all_eq_true.mp a t ht);exact ⟨x,Option.isNone_iff_eq_none.mp y⟩
theorem HkSays.fact (c:HkSays fs ds ts K) (i:Nat) {f:PySem.W.Frag->Bool} (h:fs[i]?=some f):f K=true:=List.all_eq_true.mp c.both.1 f (List.mem_of_getElem? h)
theorem HkSays.fn0 (c:HkSays fs ds ts K) (i:Nat) {d:Dsc} (h:ds[i]?=some d):∃ oc od osl dV kV doc pm an cdv ct clo,clo.map (·.1)=d.clo/\K.lookup (ZM K d.p)=some ⟨oc,od,.func (PySem.W.fnX d.x d.qual (defArgs d.st) (defBody d.st) (defScope d.st) clo dV kV doc pm an cdv ct),osl⟩/\PySem.W.codeIn K cdv d.qual=true/\(d.nd=true->dV = .none):=by
 have e:(ds.map fun d=>BB K d.p)[i]?=(ds.map Dsc.val)[i]?:=by rw [c.d]
 rw [List.getElem?_map,List.getElem?_map,h] at e;have e:BB K d.p=d.val:=Option.some.inj e;have k:d.ok K=true:=List.all_eq_true.mp c.both.2 d (List.mem_of_getElem? h);unfold BB at e;unfold Dsc.ok at k;cases q:K.lookup (ZM K d.p) with
 | none=>rw [q] at k; cases k
 | some o =>
   obtain ⟨oc,od,dt,osl⟩:=o;rw [q] at k e;cases dt with
   | func fd =>
     obtain ⟨n1,n2,n3,n4,n5,n6,n7,n8,n9,n10,n11,n12,n13,n14,n15⟩:=fd;have e2:(some (n1,n2,n3,n4,n5,n6,n7.map (·.1),n15):zt)=some (d.x,d.qual,defArgs d.st,.stmts (defBody d.st),defScope d.st,mainGlobals,d.clo,builtinsNs):=e;simp only [Option.some.injEq,Prod.mk.injEq] at e2;obtain ⟨h1,h2,h3,h4,h5,h6,h7,h8⟩:=e2;obtain ⟨k1,k2⟩:=Bool.and_eq_true_iff.mp (show (PySem.W.codeIn K n13 d.qual&&(!d.nd||decide (n8=Value.none)))=true from k);subst h1 h2 h3 h4 h5 h6 h8;refine ⟨oc,od,osl,n8,n9,n10,n11,n12,n13,n14,n7,h7,rfl,k1,fun hn => ?_⟩;rw [hn] at k2;exact of_decide_eq_true (by simpa using k2)
   | _=>cases k
theorem HkSays.fn (c:HkSays fs ds ts K) (i:Nat) {d:Dsc} (h:ds[i]?=some d) (hn:d.nd=true):∃ oc od osl kV doc pm an cdv ct clo,clo.map (·.1)=d.clo/\K.lookup (ZM K d.p)=some ⟨oc,od,.func (PySem.W.fnX d.x d.qual (defArgs d.st) (defBody d.st) (defScope d.st) clo .none kV doc pm an cdv ct),osl⟩/\PySem.W.codeIn K cdv d.qual=true:=by
 obtain ⟨oc,od,osl,dV,kV,doc,pm,an,cdv,ct,clo,e1,e2,e3,e4⟩:=c.fn0 i h;cases e4 hn;exact ⟨oc,od,osl,kV,doc,pm,an,cdv,ct,clo,e1,e2,e3⟩
theorem HkSays.fd (c:HkSays fs ds ts K) (i:Nat) {d:Dsc} (h:ds[i]?=some d) (hc:d.clo=[]) (hn:d.nd=true:=by rfl):∃ fd,Fd K d.x d.qual d.st (ZM K d.p) fd .none:=by
 obtain ⟨oc,od,osl,kV,doc,pm,an,cdv,ct,clo,e1,e2,e3⟩:=c.fn i h hn;rw [hc] at e1;have e1:clo=[]:=List.map_eq_nil_iff.mp e1;subst e1;exact ⟨_,oc,od,kV,doc,pm,an,cdv,ct,osl,rfl,e2,e3⟩
end
def K3 (K:PySem.W.Frag) (ts:Ml):Nat->Addr:=fun j=>(ts.map fun t=>W8 K t.1).getD j 0
theorem AD {l:PySem.W.OpenLaw} {k n:Nat} {q:Program} {loose:List Str} {XP:(Str->Option Value)->Heap->Prop} {d:DefRec} {x:Str} {m:(Nat->Addr)->MF} {fs:List (PySem.W.Frag->Bool)} {ds:List Dsc} {ts:Ml}
  (hn:l.most=some 63) (hdf:d.params.defaults=[]) (hr:RmG k callerA)
  (F:∀ (w:World) (mg:Str->Option Value) (fa:Addr) (h:Heap) (K:PySem.W.Frag),K.In h->HkSays fs ds ts K->h.Ns mainGlobals mg->mg d.name=some (.ref fa) ->
   ∃ fd:FuncData,(∀ (s:Shared) (u:Value),BindsTo s fd ⟨[u],[]⟩ [(x,u)]) /\
    ∀ base:Heap,K.In base->base.Ns mainGlobals mg->(∀ p∈Ou K ts,TabB base mg p.1 p.2.1)->FnG l.prog w K mg base (L2.CX l.prog w) k fa fd [x] (spM K mg (m (K3 K ts)) 1))
  (hm:∀ (K:PySem.W.Frag) (ns:List Int),ns.length<=63->∃ μ',m (K3 K ts) [.ro (ns.map .int)] (Ov (Ou K ts)) = .ok (.fr (.bl true)) μ') :
  PySem.W.WalkO q loose XP (UG n fs ds ts).says l.row.toRowW d [] (fun f vs=>PySem.call f vs):=by
 refine Att.attach_call hn hdf fun w s0 s1 mg mb fa o pm cd doc a vs ns G Y ho hd hcd hmg hobj hints hlen hg => ?_;obtain ⟨K,hK,c,hT⟩:=Y;obtain ⟨fd,hb,hF⟩:=F w mg fa _ K hK c G.T.g hmg;obtain ⟨t1,t2⟩:=c.tabs;have mem:∀ p∈Ou K ts,∃ t∈ts,p=(Y_ K t.1,W8 K t.1,t.2):=fun p hp=>by
  obtain ⟨t,ht,rfl⟩:=List.mem_map.mp hp;exact ⟨t,ht,rfl⟩
 refine AE hK G.T.g G.T.b G.T.builtins G.T.nolimit hg G.T.bmain (fun p hp => ?_) (fun p hp => ?_) (fun p hp => ?_) ?_ hobj hints (Nat.le_trans hlen (by rw [YM]; decide)) hr hF hb (hm K ns hlen)
 ·obtain ⟨t,ht,rfl⟩:=mem p hp
  exact hT t ht
 ·obtain ⟨t,ht,rfl⟩:=mem p hp
  exact (t1 t ht).2
 ·obtain ⟨t,ht,rfl⟩:=mem p hp
  exact PySem.W.codeHd_of_K hK (t1 t ht).1
 ·have e:((Ou K ts).map fun p=>p.2.1)=ts.map fun t=>W8 K t.1:=by
   unfold Ou;rw [List.map_map];rfl
  rw [e];exact t2
end FL
namespace FL
open PySem PySem.Spec PyProof.Rows L2 LamX
def AB:Option String->Att
 | none=>.fld
 | some s=>.con (.str (lit s))
def Ot:Mh->String->String->Att
 | [],_,_=>.no
 | (c',f',o) :: t,c,f=>if c=c'/\f=f' then AB o else Ot t c f
def Oq:RH->String->String->Option String
 | [],_,_=>none
 | (c',f',b) :: t,c,f=>if c=c'/\f=f' then some b else Oq t c f
def Sb:OS->String->String->Option Bool
 | [],_,_=>none
 | (c',d',b) :: t,c,d=>if c=c'/\d=d' then some b else Sb t c d
def Oo:List (String×Bool)->String->Option Bool
 | [],_=>none
 | (c',b) :: t,c=>if c=c' then some b else Oo t c
end FL
namespace L36
open PySem PySem.Spec PyProof.Rows L2 FL LamX
def YL:String->Option Bool:=Oo XG
def at_:String->String->Att:=Ot DH
def X7:String->String->Option Bool:=Sb GX
end L36
namespace L36
open PySem PySem.Spec PySem.W PySem.Calls PyProof.Rows FL
theorem AA (s:PySem.W.SharedT):ob s=hk.obs s.abs:=CO (HandSHeadRun.getT_eq s)
end L36
namespace FL
open PySem PySem.Spec PyProof.Rows L2
section
variable {X : Cx} {W : WX}
theorem Je {Z F H:Hp} {ρ:List Addr} {μ:Mem} {δ:Loc} {σ:L2.St} {p:Addr} {a b:V} {da db:D} (S:Sim X.K X.mg Z F ρ μ δ σ H) (hp:H p=none) (ra:Rep X.K X.mg F ρ a da) (rb:Rep X.K X.mg F ρ b db) :
  ∃ F2,Le Z F F2/\Sim X.K X.mg Z F2 ρ μ δ σ (upd H p (.tup [a,b]))/\Rep X.K X.mg F2 ρ (.ref p) (.tup [da,db]):=by
 obtain ⟨F2,l,S2,r⟩:=RU S hp (.cons ra (.cons rb .nil));exact ⟨F2,l,S2,r.r⟩
end
end FL
namespace FL
open PySem PySem.Spec PyProof.Rows L2
def DK.d:DK->D
 | .i n=>.int n
 | .s x=>.str x
def Yo:D->Option DK
 | .int n=>some (.i n)
 | .str x=>some (.s x)
 | _=>none
def YA (kds:List (DK×D)) (k:DK):Option D:=(kds.find? fun p=>decide (p.1=k)).map (·.2)
def YH (kds:List (DK×D)) (k:DK) (d:D):List (DK×D):=if (kds.any fun p=>decide (p.1=k))=true then kds.map (fun p=>if p.1=k then (p.1,d) else p) else kds++[(k,d)]
def Qr (kds:List (DK×D)) (k:DK):List (DK×D):=kds.filter fun p=>decide (p.1≠k)
abbrev Zl (kds:List (DK×D)):Own:=.dct (kds.map (·.1)) (kds.map (·.2))
theorem DK.key_inj {k j:DK} (h:k.key=j.key):k=j:=by
 cases k <;> cases j <;> first | (cases h; done) | skip
 ·have h':(Sum.inl _:Key)=Sum.inl _:=h
  cases h';rfl
 ·have h':(Sum.inr _:Key)=Sum.inr _:=h
  rw [RX (Sum.inr.inj h')]
section
variable (K : PySem.W.Frag) (mg : Str -> Option Value) (F : Hp) (ρ : List Addr)
inductive KV:List (Key×V)->List (DK×D)->Prop where
 | nil:KV [] []
 | cons {k v d kvs kds} (h:Rep K mg F ρ v d) (t:KV kvs kds):KV ((DK.key k,v) :: kvs) ((k,d) :: kds)
end
section
variable {K : PySem.W.Frag} {mg : Str -> Option Value} {F F' : Hp} {ρ ρ' : List Addr} {H : Hp} {p : Addr}
theorem KV.of:∀ {ks:List DK} {vs:List V} {ds:List D},ks.length=vs.length->RepL K mg F ρ vs ds->KV K mg F ρ ((ks.map DK.key).zip vs) (ks.zip ds)
 | [],_,_,h,r=>by cases r <;> first | exact .nil | (cases h; done)
 | k :: ks,_,_,h,r=>by
   cases r with
   | nil=>cases h
   | cons h1 t=>exact .cons h1 (KV.of (by simpa using h) t)
theorem KV.back:∀ {kvs:List (Key×V)} {kds:List (DK×D)},KV K mg F ρ kvs kds->kvs=((kds.map (·.1)).map DK.key).zip (kvs.map (·.2))/\RepL K mg F ρ (kvs.map (·.2)) (kds.map (·.2))/\kvs.length=kds.length
 | _,_,.nil=>⟨rfl,.nil,rfl⟩
 | _,_,.cons h t=>by
   obtain ⟨a,b,c⟩:=KV.back t;refine ⟨?_,.cons h b,by rw [List.length_cons,List.length_cons,c]⟩;simp only [List.map_cons,List.zip_cons_cons];rw [← a]
theorem KV.up (l:∀ p o,F p=some o->F' p=some o) (lr:∀ (k:Nat) p,ρ[k]?=some p->ρ'[k]?=some p):∀ {kvs:List (Key×V)} {kds:List (DK×D)},KV K mg F ρ kvs kds->KV K mg F' ρ' kvs kds
 | _,_,.nil=>.nil
 | _,_,.cons h t=>.cons (h.up l lr) (KV.up l lr t)
theorem KV.app:∀ {a b:List (Key×V)} {c d:List (DK×D)},KV K mg F ρ a c->KV K mg F ρ b d->KV K mg F ρ (a++b) (c++d)
 | _,_,_,_,.nil,h=>h
 | _,_,_,_,.cons h t,r=>.cons h (KV.app t r)
theorem PN (k j:DK):decide (DK.key k=DK.key j)=decide (k=j):=by
 by_cases h:k=j
 ·rw [h,decide_eq_true rfl,decide_eq_true rfl]
 ·rw [decide_eq_false h,decide_eq_false fun z=>h (DK.key_inj z)]
theorem KV.get {k:DK} {d:D}:∀ {kvs:List (Key×V)} {kds:List (DK×D)},KV K mg F ρ kvs kds->YA kds k=some d->∃ v,valV kvs k.key=some v/\Rep K mg F ρ v d
 | _,_,.nil,e=>by cases e
 | _,_,@KV.cons _ _ _ _ k1 v1 d1 kvs kds h t,e=>by
   unfold YA at e;rw [List.find?_cons] at e;unfold valV;rw [List.find?_cons];simp only [PN];by_cases z:k1=k
   ·rw [decide_eq_true z] at e ⊢
    cases e;exact ⟨v1,rfl,h⟩
   ·rw [decide_eq_false z] at e ⊢
    exact KV.get t e
theorem KV.any {k:DK}:∀ {kvs:List (Key×V)} {kds:List (DK×D)},KV K mg F ρ kvs kds->(kvs.any fun kv=>decide (kv.1=k.key))=(kds.any fun p=>decide (p.1=k))
 | _,_,.nil=>rfl
 | _,_,.cons h t=>by rw [List.any_cons,List.any_cons,KV.any t,PN]
theorem KV.repl {k:DK} {v:V} {d:D} (r:Rep K mg F ρ v d):∀ {kvs:List (Key×V)} {kds:List (DK×D)},KV K mg F ρ kvs kds->KV K mg F ρ (kvs.map fun kv=>if kv.1=k.key then (kv.1,v) else kv) (kds.map fun p=>if p.1=k then (p.1,d) else p)
 | _,_,.nil=>.nil
 | _,_,@KV.cons _ _ _ _ k1 v1 d1 kvs kds h t=>by
   rw [List.map_cons,List.map_cons];by_cases z:k1=k
   ·rw [if_pos (show DK.key k1=DK.key k by rw [z]),if_pos (show k1=k from z)]
    exact .cons r (KV.repl r t)
   ·rw [if_neg (show ¬ DK.key k1=DK.key k from fun q=>z (DK.key_inj q)),if_neg (show ¬ k1=k from z)]
    exact .cons h (KV.repl r t)
theorem KV.put {k:DK} {v:V} {d:D} (r:Rep K mg F ρ v d) {kvs:List (Key×V)} {kds:List (DK×D)} (h:KV K mg F ρ kvs kds):KV K mg F ρ (putK kvs k.key v) (YH kds k d):=by
 unfold putK YH;rw [h.any];by_cases z:(kds.any fun p=>decide (p.1=k))=true
 ·rw [if_pos z,if_pos z]
  exact h.repl r
 ·rw [if_neg z,if_neg z]
  exact h.app (.cons r .nil)
theorem KV.drop {k:DK}:∀ {kvs:List (Key×V)} {kds:List (DK×D)},KV K mg F ρ kvs kds->KV K mg F ρ (dropK kvs k.key) (Qr kds k)
 | _,_,.nil=>.nil
 | _,_,@KV.cons _ _ _ _ k1 v1 d1 kvs kds h t=>by
   have ih:=KV.drop (k:=k) t;unfold dropK Qr at ih ⊢;by_cases z:k1=k
   ·rw [List.filter_cons_of_neg (by simp [z]),List.filter_cons_of_neg (by simp [z])]
    exact ih
   ·rw [List.filter_cons_of_pos (by simpa using fun q=>z (DK.key_inj q)),List.filter_cons_of_pos (by simpa using z)]
    exact .cons h ih
theorem M_ {ks:List DK} {ds:List D} (h:OwnR K mg F ρ H p (.dct ks ds)):∃ kvs,H p=some (.dK kvs)/\KV K mg F ρ kvs (ks.zip ds):=by
 obtain ⟨vs,e,n,r⟩:=h;exact ⟨_,e,KV.of n r⟩
theorem Td {kvs:List (Key×V)} {kds:List (DK×D)} (h:KV K mg F ρ kvs kds) (e:H p=some (.dK kvs)):OwnR K mg F ρ H p (Zl kds):=by
 obtain ⟨a,b,c⟩:=h.back;refine ⟨kvs.map (·.2),by rw [e]; exact congrArg (fun z=>some (HO.dK z)) a,by simp [c],b⟩
end
section
variable {X : Cx} {W : WX} {o i e value : Expr} {pos pos' apos cpos : Pos}
theorem key_of {F H:Hp} {ρ:List Addr} {y:V} {d:D} {k:DK} (h:Bor X.K X.mg F ρ H y d) (e:Yo d=some k):y=kV k.key:=by
 cases d <;> first | (cases e; done) | skip
 ·cases e
  exact h.int
 ·cases e
  exact h.str
theorem RN {F:Hp} {ρ:List Addr} {y:V} {d:D} {k:DK} (h:Rep X.K X.mg F ρ y d) (e:Yo d=some k):y=kV k.key:=key_of (H:=F) (.fr h) e
def ZA:D->D->Option Slot
 | .dct ks ds,y=>match Yo y with
   | some k=>(YA (ks.zip ds) k).map .fr
   | none=>none
 | _,_=>none
abbrev Jd:R2:=fun x y H Q => ∃ a v,x = .ref a/\DGet H a y (some v)/\Q v H
theorem CN:R2J X Jd ZA:=by
 intro Z F ρ μ δ σ H x y dx dy s Q S bx bY e q;unfold ZA at e;cases dx <;> first | (cases e; done) | skip
 ·rename_i ks ds
  cases ek:Yo dy with
  | none=>simp only [ek] at e; cases e
  | some k =>
    simp only [ek] at e;obtain ⟨d,e1,e2⟩:=Option.map_eq_some_iff.mp e;subst e2;obtain ⟨p,vs,rfl,hr,hl,r⟩:=bx.dct S;obtain ⟨v,g,rv⟩:=(KV.of hl r).get e1;exact ⟨p,v,rfl,.inl ⟨_,k.key,hr,key_of bY ek,g.symm⟩,q _ H F .refl S ⟨rv,fun o p z=>by cases z⟩⟩
theorem Gk {oa ob:Opn} (hu:X.A.units+1 < cLine) (ha:JO X W o oa) (hb:JO X W i ob) (hs:NoSl i):JE X W (.Subscript o i pos) (m2 ZA oa ob) :=
 (pe_dget hu ha hb hs).imp (W5 (r:=Jd) CN)
def Xs:Own->D->D->Option Own
 | .dct ks ds,y,d=>match Yo y with
   | some k=>if (ks.zip ds).length < 16777216 then some (Zl (YH (ks.zip ds) k d)) else none
   | none=>none
 | _,_,_=>none
theorem Gj {oo oi:Opn} {m:ME} (hu:X.A.units+1 < cLine) (he:JE X W value m) (ho:JO X W o oo) (hi:JO X W i oi) (hs:swapsWith value (some (.Subscript o i pos')) pos.line X.env=pure false:=by rfl):JS X W (.Assign [.Subscript o i pos'] value pos) (XA Xs oo oi m):=by
 refine (ps_dput hu ho hi he.locked hs).imp fun E σ H ⟨Z,F,ρ,μ,δ,S,q⟩=>⟨Z,F,ρ,μ,δ,S,(FinS.thn q).imp fun s δ1 μ1 H1 F1 ρ1 l1 lr1 S1 ⟨_,p1⟩ v rv => ?_⟩;refine ⟨Z,F1,ρ1,μ1,δ1,S1,(FinS.thn p1).imp fun r δ2 μ2 H2 F2 ρ2 l2 lr2 S2 ⟨_,p2⟩ x hx => ?_⟩;refine ⟨Z,F2,ρ2,μ2,δ2,S2,(FinS.thn p2).imp fun ri δ3 μ3 H3 F3 ρ3 l3 lr3 S3 ⟨_,p3⟩ y hy => ?_⟩;cases e0:recv δ3 μ3 r with
 | none=>simp only [e0] at p3; exact p3.elim
 | some cw =>
   obtain ⟨c,w⟩:=cw;cases e1:ri.at δ3 μ3 with
   | none=>simp only [e0,e1] at p3; exact p3.elim
   | some di =>
     simp only [e0,e1] at p3;cases eg:Xs c di s.d with
     | none=>simp only [eg] at p3; exact p3.elim
     | some c' =>
       simp only [eg] at p3;obtain ⟨pa,rfl,ow,hw⟩:=U3 S3 (hx.up l3 lr3) e0;unfold Xs at eg;cases c <;> first | (cases eg; done) | skip
       ·rename_i ks ds
        cases ek:Yo di with
        | none=>simp only [ek] at eg; cases eg
        | some k =>
          simp only [ek] at eg;by_cases hz:(ks.zip ds).length < 16777216
          ·rw [if_pos hz] at eg
           cases eg;obtain ⟨kvs,hH,kv⟩:=M_ ow;obtain ⟨_,_,hl⟩:=kv.back;have rv3:=(Rep.up l2.to lr2.to rv).up l3.to lr3.to;refine ⟨pa,_,rfl,.inl ⟨kvs,k.key,hH,key_of (hy.bor S3 e1) ek,by rw [hl,YM]; exact hz,rfl⟩,p3.nx (hw _ _ (Td (kv.put rv3) upd_same))⟩
          ·rw [if_neg hz] at eg; cases eg
def Om:Own->D->Option (D×Own)
 | .dct ks ds,y=>match Yo y with
   | some k=>(YA (ks.zip ds) k).map fun d=>(d,Zl (Qr (ks.zip ds) k))
   | none=>none
 | _,_=>none
def Ol (oo:Opn) (m:ME):ME:=fun δ μ=>(oo.ev δ μ).bind fun r δ1 μ1=>match recv δ1 μ1 r with
 | some (.dct _ _,_)=>(m δ1 μ1).bind fun s δ2 μ2=>match recv δ2 μ2 r with
   | some (c,w)=>match Om c s.d with
     | some (d,c')=>.ok (.fr d) (w c').1 (w c').2
     | none=>.bad
   | none=>.bad
 | _=>.bad
theorem Gi {oo:Opn} {m:ME} (ho:JO X W o oo) (he:JE X W e m) (mm:M1 X o "pop" apos e cpos):JE X W (.Call (.Attribute o "pop" apos) [e] [] cpos) (Ol oo m):=by
 refine (pe_dpop1 ho he.locked mm).imp fun σ H Q ⟨Z,F,ρ,μ,δ,S,q⟩=>⟨Z,F,ρ,μ,δ,S,(FinE.bind q).imp fun ra δ1 μ1 H1 F1 ρ1 l lr S1 ⟨_,_,_,p⟩ x hx => ?_⟩;cases e0:recv δ1 μ1 ra with
 | none=>simp only [e0] at p; exact p.elim
 | some cw =>
   obtain ⟨c0,w0⟩:=cw;simp only [e0] at p;obtain ⟨pa,rfl,ow,_⟩:=U3 S1 hx e0;cases c0 <;> first | exact p.elim | skip
   obtain ⟨kvs0,hH0,_⟩:=M_ ow;refine ⟨pa,rfl,.inl ⟨kvs0,.inl hH0⟩,Z,F1,ρ1,μ1,δ1,S1,p.bind.imp fun s δ2 μ2 H2 F2 ρ2 l2 lr2 S2 ⟨_,_,_,p2⟩ y hy => ?_⟩;cases e1:recv δ2 μ2 ra with
   | none=>simp only [e1] at p2; exact p2.elim
   | some cw =>
     obtain ⟨c,w⟩:=cw;simp only [e1] at p2;cases eg:Om c s.d with
     | none=>simp only [eg] at p2; exact p2.elim
     | some dc =>
       obtain ⟨d,c'⟩:=dc;simp only [eg] at p2;obtain ⟨pa',ep,ow2,hw⟩:=U3 S2 (hx.up l2 lr2) e1;cases ep;unfold Om at eg;cases c <;> first | (cases eg; done) | skip
       ·rename_i ks ds
        cases ek:Yo s.d with
        | none=>simp only [ek] at eg; cases eg
        | some k =>
          simp only [ek] at eg;obtain ⟨d1,g1,g2⟩:=Option.map_eq_some_iff.mp eg;cases g2;obtain ⟨kvs,hH,kv⟩:=M_ ow2;obtain ⟨v,ev,rv⟩:=kv.get g1;exact ⟨kvs,k.key,v,hH,RN hy ek,ev,p2 _ F2 ρ2 .refl .refl (hw _ _ (Td kv.drop upd_same)) v ⟨rv,fun o p z=>by cases z⟩⟩
end
end FL
namespace FL
open PySem PySem.Spec PyProof.Rows L2
section
variable {X : Cx} {W : WX} {e : Expr} {pos : Pos}
def CM (td:TE):TE:=fun σ H Q=>td σ H fun x H1 => ∃ d kvs,x = .ref d/\H1 d=some (.dK kvs)/\∀ o H2,H2 d=some (.frz o (.dK kvs))->(∀ b,b≠d->H2 b=H1 b)->Q x H2
theorem Jc {td:TE} (he:PE X e td):PE X e (CM td):=by
 refine ⟨fun pins s σ H Q I h => ?_⟩;refine wpAny_mono (he.run pins s σ H _ I h) (fun u s1 ⟨x,H1,I1,r,d,kvs,ex,hd,q⟩ => ?_) fun _ _ z=>z;obtain ⟨od,J⟩:=I1.lock hd True.intro;exact ⟨x,_,J,r,q od _ upd_same fun b hb=>upd_ne hb⟩
def VP (kds:List (DK×D)):List D:=kds.map fun p=>.tup [p.1.d,p.2]
theorem KV.at {K:PySem.W.Frag} {mg:Str->Option Value} {F:Hp} {ρ:List Addr}:∀ {kvs:List (Key×V)} {kds:List (DK×D)} {i:Nat} {p:DK×D},KV K mg F ρ kvs kds->kds[i]?=some p->∃ v,kvs[i]?=some (p.1.key,v)/\Rep K mg F ρ v p.2
 | _,_,_,_,.nil,e=>by simp at e
 | _,_,0,_,.cons h t,e=>by simp at e; subst e; exact ⟨_,rfl,h⟩
 | _,_,i+1,_,.cons h t,e=>by
   obtain ⟨v,h1,h2⟩:=KV.at (i:=i) t (by simpa using e);exact ⟨v,by simpa using h1,h2⟩
theorem L0 {K:PySem.W.Frag} {mg:Str->Option Value} {F:Hp} {ρ:List Addr} (k:DK):Rep K mg F ρ (kV k.key) k.d:=by
 cases k with
 | i n=>exact .int
 | s x=>exact .str
theorem K2 {Z F:Hp} {ρ:List Addr} {d:Addr} {o:Obj} {kvs:List (Key×V)} {kds:List (DK×D)} (hF:F d=some (.frz o (.dK kvs))) (r:KV X.K X.mg F ρ kvs kds):BG X Z F ρ (Iti d o kvs) (VP kds):=by
 intro Z' F' ρ' μ δ σ H i to tr S zz;have q:H d=some (.frz o (.dK kvs)):=by
  rcases S.le _ _ (to _ _ hF) with z | ⟨_,_,z,_⟩
  ·exact z
  ·cases z
 obtain ⟨_,_,hl⟩:=r.back;refine ⟨fun h=>⟨q,by rw [hl]; simpa [VP] using h⟩,fun x hx => ?_⟩;unfold VP at hx;rw [List.getElem?_map] at hx;obtain ⟨p,e1,rfl⟩:=Option.map_eq_some_iff.mp hx;obtain ⟨v,e2,rv⟩:=r.at e1;refine ⟨⟨q,(List.getElem?_eq_some_iff.mp e2).1⟩,fun y H' ⟨T,k,w,e3,ey,hT,eH⟩ => ?_⟩;subst ey;subst eH;rw [e2] at e3;cases e3;exact Je S hT (L0 p.1) (rv.up to tr)
def Jb (f:VY) (tests:MT) (kx vx:ME) (vs:List Nat):List D->List (DK×D)->ME
 | [],acc=>fun δ μ=>.ok (.own (Zl acc)) δ μ
 | d :: ds,acc=>fun δ μ=>match f d δ with
   | none=>.bad
   | some δ' => (tests δ' μ).cut.bind fun b δ2 μ2=>if b=true then (kx δ2 μ2).cut.bind fun s δ3 μ3=>(vx δ3 μ3).cut.bind fun t δ4 μ4=>match Yo s.d with
     | some k=>if acc.length < 16777216 then Jb f tests kx vx vs ds (YH acc k t.d) (ZJ δ4 vs) μ4 else .bad
     | none=>.bad
     else Jb f tests kx vx vs ds acc (ZJ δ2 vs) μ2
def BF (mi:MM (List D)) (f:VY) (tests:MT) (kx vx:ME) (vs:List Nat):ME:=fun δ μ=>(mi δ μ).bind fun ds δ1 μ1=>Jb f tests kx vx vs ds [] (ZJ δ1 vs) μ1
theorem Oj {vs:List Nat} {δ:Loc} {i:Nat} {c:Own}:(ZJ δ vs)[i]?=some (some (.own c))->δ[i]?=some (some (.own c)):=by
 induction vs with
 | nil=>exact id
 | cons v vs ih =>
   intro h;have hn:=X6 h;unfold ZJ at h;rw [List.getElem?_set_ne (fun z=>hn (by simp [z]))] at h;exact ih h
theorem Gh {mi:MM (List D)} {f:VY} {tests:MT} {kx vx:ME} {vs is:List Nat} {B:Cx} (hK:B.K=X.K) (hm:B.mg=X.mg) (hsub:∀ j∈is,j∈vs):∀ σ H Q,Uw X W (BF mi f tests kx vx vs) σ H Q->tDc (xu X W mi) (D_ X f is) (JX B W0 tests) (Uw B W0 kx) (Uw B W0 vx) vs σ H Q:=by
 intro σ H Q ⟨Z,F,ρ,μ,δ,S,q⟩;refine ⟨Z,F,ρ,μ,δ,S,(FinE.bind q).imp fun ds δ1 μ1 H1 F1 ρ1 l lr S1 ⟨_,_,_,p⟩ J hJ A hA => ?_⟩;obtain ⟨n1,n2,n3,n4⟩:=S1.notIn hA
 let P:Slot->Loc->Mem->Hp->List Addr->Hp->Prop:=fun s δ' _ F' ρ' H' => ∀ v,VR X.K X.mg Z F' ρ' δ' σ H' v s->Q v H'
 let Wd:Nat->Nat->Hp->Prop:=fun i k H=>k=ds.length - i/\i<=ds.length/\∃ F' ρ' μ δ kvs acc,(∀ p o,F1 p=some o->F' p=some o)/\(∀ (k:Nat) p,ρ1[k]?=some p->ρ'[k]?=some p)/\Sim X.K X.mg Z F' ρ' μ (ZJ δ vs) (L2.wipe σ vs) H /\
  Free Z F' ρ' A/\(∀ (i:Nat) s,(ZJ δ vs)[i]?=some (some (.own s))->(L2.wipe σ vs)[i]?≠some (some (.ref A)))/\H A=some (.dK kvs)/\KV X.K X.mg F' ρ' kvs acc/\FinE X W Z F' ρ' σ P (Jb f tests kx vx vs (ds.drop i) acc (ZJ δ vs) μ)
 have wout:∀ {δ:Loc} {s:Slot} (i:Nat),(ZJ δ vs)[i]?=some (some s)->(L2.wipe σ vs)[i]?=σ[i]?:=fun i h=>wipe_out (X6 h);have Sw:=(S1.laid (o:=.dK []) hA).wipe vs;refine ⟨Wd,⟨ds.length,by simp,Nat.zero_le _,F1,ρ1,μ1,δ1,[],[],fun _ _ h=>h,fun _ _ h=>h,Sw,⟨n1,n2,n3⟩,fun i s e1 e2 => ?_,upd_same,.nil,by rw [List.drop_zero]; exact p⟩,?_⟩
 ·have e4:=wout i e1
  rw [e2] at e4;exact n4 i s (Oj e1) e4.symm
 rintro i k H2 ⟨rfl,hle,F2,ρ2,μ2,δ2,kvs,acc,to,tr,S2,fA,nA,hL,kv,p2⟩;obtain ⟨j1,j2⟩:=hJ Z F2 ρ2 μ2 _ _ H2 i to tr S2 (fun _ _ h=>h);by_cases hlt:i < ds.length
 ·refine .inr ?_
  have hd:ds.drop i=ds[i] :: ds.drop (i+1):=List.drop_eq_getElem_cons hlt;have SG:=S2.guard hL fA nA;obtain ⟨go,yl⟩:=hJ (upd Z A (.dK kvs)) F2 ρ2 μ2 _ _ H2 i to tr SG (fun q u hq=>by rw [upd_ne (fun z=>by subst z; rw [fA.z] at hq; cases hq)]; exact hq) |>.2 ds[i] (List.getElem?_eq_getElem hlt);refine ⟨go,fun H' => Wd (i+1) (ds.length - (i+1)) H',fun H' w=>⟨ds.length - (i+1),by omega,w⟩,fun x H' y => ?_⟩;obtain ⟨F3,l3,S3,r3⟩:=yl x H' y;rw [hd] at p2;unfold Jb at p2;cases ef:f ds[i] (ZJ δ2 vs) with
  | none=>simp only [ef] at p2; exact p2.elim
  | some δ3 =>
    simp only [ef] at p2;refine ⟨_,F3,ρ2,μ2,_,_,S3,r3,δ3,ef,fun σ4 hσ hl4 S4 => ?_⟩;have ws:L2.wipe σ4 vs=L2.wipe σ vs:=by
     have h1:=XZ (σ:=L2.wipe σ vs) (σ':=σ4) hl4 (vs:=vs) fun j hj=>hσ j fun z=>hj (hsub j z);rw [h1];exact XZ (wipe_length _ _) fun j hj=>wipe_out hj
    refine ⟨by rw [ws,XZ (σ:=σ) (σ':=σ) rfl fun _ _=>rfl],?_⟩;refine ⟨_,F3,ρ2,μ2,δ3,by rw [hK,hm]; exact S4,(FinE.cut (p:=A) (o:=.dK kvs) hK hm (p2.mono l3.unguard .refl)).imp fun b δ5 μ5 H5 F5 ρ5 l5 lr5 _ ⟨S5,l5',lr5',p5⟩ => ?_⟩;have fin:∀ {F6:Hp} {ρ6:List Addr} {μ6:Mem} {δ6:Loc} {H6 H7:Hp} {kvs':List (Key×V)} {acc':List (DK×D)},Sim X.K X.mg (upd Z A (.dK kvs)) F6 ρ6 μ6 δ6 σ4 H6->Le (upd Z A (.dK kvs)) F3 F6->LeR (upd Z A (.dK kvs)) ρ2 ρ6 ->
     (∀ a,a≠A->H7 a=H6 a)->H7 A=some (.dK kvs')->KV X.K X.mg F6 ρ6 kvs' acc'->FinE X W Z F6 ρ6 σ P (Jb f tests kx vx vs (ds.drop (i+1)) acc' (ZJ δ6 vs) μ6)->Wd (i+1) (ds.length - (i+1)) H7:=by
     intro F6 ρ6 μ6 δ6 H6 H7 kvs' acc' S6 l6 lr6 hne hA7 kv' p6;have fA6:Free Z F6 ρ6 A:=(fA.on l3 .refl).on l6 lr6;have S8:=((S6.unguard fA.z).heap hne fA6.f fA6.z fA6.r S6.guardNo).wipe vs;rw [ws] at S8;refine ⟨rfl,hlt,F6,ρ6,μ6,δ6,kvs',acc',fun p o h=>l6.to p o (l3.to p o (to p o h)),fun k p h=>lr6.to k p (tr k p h),S8,fA6,fun i' s e1 e2 => ?_,hA7,kv',p6⟩;have e4:(L2.wipe σ4 vs)[i']?=σ4[i']?:=wipe_out (X6 e1);rw [ws,e2] at e4;exact S6.guardNo i' s (Oj e1) e4.symm
    cases b with
    | false =>
      simp only [if_neg Bool.false_ne_true] at p5 ⊢;exact fin S5 l5' lr5' (fun _ _=>rfl) S5.guarded (kv.up (fun p o h=>l5'.to p o (l3.to p o h)) lr5'.to) p5
    | true =>
      simp only [if_true] at p5 ⊢;refine ⟨_,F5,ρ5,μ5,δ5,by rw [hK,hm]; exact S5,(FinE.cut (p:=A) (o:=.dK kvs) hK hm p5).imp fun s δ6 μ6 H6 F6 ρ6 l6 lr6 _ ⟨S6,l6',lr6',p6⟩ v vr => ?_⟩;rw [hK,hm] at vr;refine ⟨_,F6,ρ6,μ6,δ6,by rw [hK,hm]; exact S6,(FinE.cut (p:=A) (o:=.dK kvs) hK hm p6).imp fun t δ7 μ7 H7 F7 ρ7 l7 lr7 _ ⟨S7,l7',lr7',p7⟩ u ur => ?_⟩;rw [hK,hm] at ur;cases ek:Yo s.d with
      | none=>simp only [ek] at p7; exact p7.elim
      | some k =>
        simp only [ek] at p7;have ev:v=kV k.key:=by
         have r:=vr.r;cases s with
         | fr d=>exact RN r ek
         | own c=>cases c <;> cases ek
        obtain ⟨F8,l8,S8,r8⟩:=S7.lock ur;by_cases hz:acc.length < 16777216
        ·rw [if_pos hz] at p7
         have kv8:=kv.up (fun p o h=>l8.to p o (l7'.to p o (l6'.to p o (l5'.to p o (l3.to p o h))))) (ρ':=ρ7) fun k p h=>lr7'.to k p (lr6'.to k p (lr5'.to k p h));obtain ⟨_,_,hlen⟩:=kv.back;refine ⟨kvs,k.key,ev,S8.guarded,by rw [hlen,YM]; exact hz,?_⟩;exact fin S8 (((l5'.trans l6').trans l7').trans l8) ((lr5'.trans lr6').trans lr7') (fun a ne=>upd_ne ne) upd_same (kv8.put r8) (p7.mono l8.unguard .refl)
        ·rw [if_neg hz] at p7; exact p7.elim
 ·have e:i=ds.length:=by omega
  subst e;rw [List.drop_length] at p2;refine .inl ⟨j1 (Nat.le_refl _),?_⟩;have S3:Sim X.K X.mg Z F2 ρ2 μ2 (ZJ δ2 vs) σ H2:=S2.agree (wipe_length _ _).symm fun i s e=>(wout i e).symm;exact p2 H2 F2 ρ2 .refl .refl S3 (.ref A) ⟨⟨A,rfl,fA,Td kv hL⟩,fun o p z1 z2 i o' e1 e2=>by
   cases z2;exact nA i o' e1 (by rw [wout i e1]; exact e2)⟩
theorem Az {kx vx tg iter:Expr} {ifs:List Expr} {scope:Scope} {own:List (Str×Nat)} {mi:MM (List D)} {f:VY} {is:List Nat} {tests:MT} {mk mv:ME} (hc:X.calm=true) (hN:X.N.Nodup) (hi:JI X W tg iter mi) (ok:BlkOk X.N X.env.scope scope own)
  (hg:∀ (s:Shared) (H:Hp) (C:Addr) (cl:List (Str×Addr)) (fp:List Addr),JG (X.blk s H scope (compEnvC scope cl C X.env) fp) tg f is) (ht:∀ (s:Shared) (H:Hp) (C:Addr) (cl:List (Str×Addr)) (fp:List Addr),G3 (X.blk s H scope (compEnvC scope cl C X.env) fp) W0 ifs tests)
  (hk:∀ (s:Shared) (H:Hp) (C:Addr) (cl:List (Str×Addr)) (fp:List Addr),JE (X.blk s H scope (compEnvC scope cl C X.env) fp) W0 kx mk) (hv:∀ (s:Shared) (H:Hp) (C:Addr) (cl:List (Str×Addr)) (fp:List Addr),JE (X.blk s H scope (compEnvC scope cl C X.env) fp) W0 vx mv)
  (hsub:∀ j∈is,j∈own.map (·.2)) (hs:∀ x,foldedSetIterable iter X.env x=pure x:=by intro _; rfl):JE X W (.DictComp kx vx [⟨tg,iter,ifs,0⟩] scope pos) (BF mi f tests mk mv (own.map (·.2))) :=
 (pe_dc (g:=D_ X f is) (tt:=JX X W0 tests) (tk:=Uw X W0 mk) (tv:=Uw X W0 mv) hc hN hi ok hg ht hk hv hs).imp (Gh (B:=X) rfl rfl hsub)
theorem Cs.dc {k:Nat} {N:List Str} {sc:Scope} {kx vx tg iter:Expr} {ifs:List Expr} {scope:Scope} {mi:MM (List D)} {f:VY} {is:List Nat} {tests:MT} {mk mv:ME} {Tx:Program->World->PySem.W.Frag->(Str->Option Value)->Heap->Prop} (C:Cs X W k N sc) (T:Tx X.prog X.w X.K X.mg X.base) (own:List (Str×Nat)) (hi:JI X W tg iter mi) (ok:blkC N sc scope own=true)
  (hb:∀ (Y:Cx),Tx Y.prog Y.w Y.K Y.mg Y.base->Cs Y W0 k N (relS scope sc)->JG Y tg f is/\G3 Y W0 ifs tests/\JE Y W0 kx mk/\JE Y W0 vx mv) (hsub:(is.all fun j=>(own.map (·.2)).contains j)=true) (hs:∀ x,foldedSetIterable iter X.env x=pure x:=by intro _; rfl) :
  JE X W (.DictComp kx vx [⟨tg,iter,ifs,0⟩] scope pos) (BF mi f tests mk mv (own.map (·.2))):=by
 have at_:=fun s H c cl fp=>hb (X.blk s H scope (compEnvC scope cl c X.env) fp) T (C.blk scope s H c cl fp);exact Az C.calm (by rw [C.hN]; exact C.nd) hi (by rw [C.hN,C.hsc]; exact blkOk_by ok) (fun s H c cl fp=>(at_ s H c cl fp).1) (fun s H c cl fp=>(at_ s H c cl fp).2.1) (fun s H c cl fp=>(at_ s H c cl fp).2.2.1) (fun s H c cl fp=>(at_ s H c cl fp).2.2.2) (fun j hj=>by simpa using List.all_eq_true.mp hsub j hj) hs
section
variable {k : Nat} {N : List Str} {sc : Scope} {o i value : Expr} {oo oi : Opn} {m : ME} {p p' apos cpos tpos : Pos} {es : List Expr}
theorem Cs.getD (C:Cs X W k N sc) (ha:JO X W o oo) (hb:JO X W i oi) (hs:NoSl i):JE X W (.Subscript o i pos) (m2 ZA oo oi):=Gk (by have:=C.hu; omega) ha hb hs
theorem Cd.setD (C:Cd X W k N sc) (he:JE X W value m) (ho:JO X W o oo) (hi:JO X W i oi) (hs:swapsWith value (some (.Subscript o i p')) pos.line X.env=pure false:=by rfl):JS X W (.Assign [.Subscript o i p'] value pos) (XA Xs oo oi m) :=
 Gj (by have:=C.toCs.hu; omega) he ho hi hs
theorem Ay (ho:JO X W o oo) (he:JE X W e m) (h1:attributeBase o "pop" X.env (eval o X.env)=eval o X.env:=by rfl)
  (h2:((backTo cpos (starEach [e] X.env)).all (fun x => !x.1)&&(backToKw cpos (keywordEach [] X.env)).all (fun x=>x.1.isSome)&&decide (([e]:List Expr).length+([]:List Keyword).length+(if ([]:List Keyword).isEmpty then 0 else 1) < 30))=true:=by rfl)
  (h3:(apos.endLine == cpos.line)=true:=by rfl) (h4:backTo cpos (starEach [e] X.env)=[(false,eval e X.env)]:=by rfl):JE X W (.Call (.Attribute o "pop" apos) [e] [] cpos) (Ol oo m):=Gi ho he ⟨h1,h2,h3,h4⟩
theorem Cs.asgT {f:VY} {is:List Nat} {tg:Expr} (C:Cs X W k N sc) (he:JE X W e m) (hg:JG X tg f is) (hw:∀ env:Env,env.scope=sc->swappedStores [tg] e env=pure none) (hs:swapsWithSole [tg] e pos.line X.env=pure false:=by rfl)
  (h1:(assignEach [tg] X.env).map (·.2)=[assign tg X.env]:=by rfl):JS X W (.Assign [tg] e pos) (JJ f m):=Dh he hg hs (hw X.env C.hsc) h1
end
end
end FL
namespace FL
open PySem L2
def RM:MS:=(Z4 (ZK 2 (Tq (ZN (m2 (YC true) (.v 0) (.e (ZQ [])))) (m2 ZL (.v 0) (.e (m2 VW (.v 1) (.e (mC Zt [(.v 0)]))))) (mD (.int 1))))
  (ZF (YS (ZQ [(mV 2),(m2 VD (.e (mD (.int 3))) (.v 1)),(Tq (ZN (m2 Eh (.v 2) (.e (m2 Sd (.e (mD (.int 10))) (.e (mD (.int 18))))))) (m2 Tp (.v 2) (.e (m2 Sd (.e (mD (.int 10))) (.e (mD (.int 18)))))) (mD (.int 0)))]))))
def Ja:MS:=(Z4 (ZR (ZN (m2 Dw (.e (m2 ZL (.v 0) (.e (mD (.int 2))))) (.e (mD (.int 0))))) (Z4 (ZK 2 (m2 VW (.e (m2 ZL (.v 0) (.e (mD (.int 2))))) (.v 1)))
  (Z4 (XA VE (.v 0) (.e (mD (.int 2))) (m2 Tp (.e (m2 ZL (.v 0) (.e (mD (.int 2))))) (.v 1)))
  (ZF (mV 2))))
  ZW)
  (Z4 (XA VE (.v 0) (.e (mD (.int 1))) (m2 ZP (.e (m2 ZL (.v 0) (.e (mD (.int 1))))) (.e (mD (.int 1)))))
  (Z4 (ZK 3 (ZQ [(mD (.int 2147483647)),(mD (.int 2147483629)),(mD (.int 2147483587)),(mD (.int 2147483579)),(mD (.int 2147483563)),(mD (.int 2147483549)),(mD (.int 2147483543)),(mD (.int 2147483497))]))
  (Z4 (ZK 4 (m2 ZL (.e (m2 ZP (.v 3) (.e (ZQ [(mD (.int 2147483489)),(mD (.int 2147483477)),(mD (.int 2147483423))])))) (.e (m2 VW (.e (m2 ZL (.v 0) (.e (mD (.int 1))))) (.e (mD (.int 11)))))))
  (ZF (m2 VW (.e (m2 Tp (.e (m2 VW (.e (m2 Sd (.e (m2 ZP (.e (m2 ZP (.e (m2 VW (.e (m2 ZL (.v 0) (.e (mD (.int 0))))) (.v 4))) (.e (m2 VD (.e (mD (.int 7919))) (.e (m2 ZL (.v 0) (.e (mD (.int 1))))))))) (.e (mD (.int 1))))) (.e (mD (.int 5))))) (.v 4))) (.e (mD (.int 13))))) (.v 1)))))))
def Oi:MF:=Zu 5 Ja
def U2:MF:=Zu 3 RM
def I_:MS:=(ZF (m2 ZL (.v 1) (.e (ZX Oi [(mV 0),(mC Zt [(.v 1)])] []))))
def Oh:MF:=Zu 2 I_
def Src (μ:Mem) (j:Nat) (B:Int):Prop:=∃ c i g:Int,μ[j]?=some (.lst [.int c,.int i,.int g])/\0<=i/\i<=B/\0<=g
theorem Src.mono {μ:Mem} {j:Nat} {B B':Int} (h:Src μ j B) (hb:B<=B'):Src μ j B':=by
 obtain ⟨c,i,g,h1,h2,h3,h4⟩:=h;exact ⟨c,i,g,h1,h2,by omega,h4⟩
def Fr (j:Nat) (μ μ':Mem):Prop:=μ'.length=μ.length/\∀ k:Nat,k≠j->μ'[k]?=μ[k]?
theorem Fr.set {j:Nat} {μ:Mem} {c:Own}:Fr j μ (μ.set j c):=⟨by simp,fun k h=>List.getElem?_set_ne (Ne.symm h)⟩
theorem s_ {a b c:D}:L2.atI [a,b,c] 0=some a:=rfl
theorem s9 {a b c:D}:L2.atI [a,b,c] 1=some b:=rfl
theorem uD {a b c:D}:L2.atI [a,b,c] 2=some c:=rfl
theorem xj:ixN 3 1=some 1:=rfl
theorem xi:ixN 3 2=some 2:=rfl
def CK:List Int:=[2147483647,2147483629,2147483587,2147483579,2147483563,2147483549,2147483543,2147483497,2147483489,2147483477,2147483423]
theorem K1 (r:Int) (h0:0<=r) (h1:r < 11):∃ p:Int,L2.atI (CK.map D.int) r=some (.int p)/\2147483423<=p/\p<=2147483647:=by
 have e:r=0\/r=1\/r=2\/r=3\/r=4\/r=5\/r=6\/r=7\/r=8\/r=9\/r=10:=by omega
 rcases e with rfl | rfl | rfl | rfl | rfl | rfl | rfl | rfl | rfl | rfl | rfl <;> exact ⟨_,rfl,by decide,by decide⟩
theorem Wc {μ:Mem} {j:Nat} {n B:Int} (h:Src μ j B) (hB:B<=2 ^ 40) (h0:0 < n) (hn:n<=2 ^ 63) :
  ∃ r μ',Oi [.obj j,.int n] μ = .ok (.fr (.int r)) μ'/\0<=r/\r < n/\Src μ' j (B+1)/\Fr j μ μ':=by
 obtain ⟨c,i,g,hm,i0,iB,g0⟩:=h;have hj:j < μ.length:=(List.getElem?_eq_some_iff.mp hm).1;have hlog:n.natAbs.log2 < 9000:=by
  have:n.natAbs < 2 ^ 64:=by omega
  have:=(Nat.log2_lt (by omega)).mpr this;omega
 by_cases hg:0 < g
 ·refine ⟨g % n,μ.set j (.lst [.int c,.int i,.int (g / n)]),?_,Int.emod_nonneg _ (by omega),Int.emod_lt_of_pos _ h0,⟨c,i,g / n,by simp [hj],i0,by omega,Int.ediv_nonneg g0 (by omega)⟩,.set⟩
  simp [Oi,Ja,WO,Z4,ZR,ZN,m2,Opn.ev,ZK,ZF,mV,mD,XA,OR.at,look,ZZ,Out.bind,Out.thn,OutS.seq,OutS.fin,Slot.d,Own.d,lift,hm,Dw,Dx,Ei,gInt,VW,Tp,ZL,uD,hg,h0,hlog,recv,VE,xi]
 ·have e0:g=0:=by omega
  subst e0;have hr0:0<=(i+1) % 11:=Int.emod_nonneg _ (by decide);have hr1:(i+1) % 11 < 11:=Int.emod_lt_of_pos _ (by decide);obtain ⟨p,ep,p0,p1⟩:=K1 _ hr0 hr1;have hc0:0<=c % p:=Int.emod_nonneg _ (by omega);have hc1:c % p < p:=Int.emod_lt_of_pos _ (by omega);have hbase:(c % p+7919 * (i+1)+1).natAbs < 2 ^ 64:=by omega
  have hmul:Nat.log2 7919+(i+1).natAbs.log2 < 1000000:=by
   have h1:Nat.log2 7919=12:=by decide +kernel
   have h2:(i+1).natAbs.log2 < 64:=(Nat.log2_lt (by omega)).mpr (by omega);omega
  have hp9:0 < p:=by omega
  refine ⟨(c % p+7919 * (i+1)+1) ^ 5 % p / 13 % n,μ.set j (.lst [.int c,.int (i+1),.int 0]),?_,Int.emod_nonneg _ (by omega),Int.emod_lt_of_pos _ h0,⟨c,i+1,0,by simp [hj],by omega,by omega,by omega⟩,.set⟩;have ep':L2.atI [D.int 2147483647,.int 2147483629,.int 2147483587,.int 2147483579,.int 2147483563,.int 2147483549,.int 2147483543,.int 2147483497,.int 2147483489,.int 2147483477,.int 2147483423] ((i+1) % 11)=some (.int p):=ep;have hs:∀ c:Own,(μ.set j c)[j]?=some c:=fun c=>List.getElem?_set_self hj;have l13:Nat.log2 13 < 9000:=by decide +kernel
  simp [Oi,Ja,WO,Z4,ZR,ZN,m2,Opn.ev,ZK,ZF,mV,mD,XA,ZQ,XF,ZW,OR.at,look,ZZ,Out.bind,Out.thn,OutS.seq,OutS.fin,Slot.d,Own.d,lift,hm,hs,Dw,Dx,Ei,gInt,VW,Tp,Sd,VD,Lk,ZP,Wh,Sq,RE,ZL,s_,s9,uD,h0,hlog,recv,VE,xj,ep',hp9,hbase,hmul,l13]
theorem atI_nat {α:Type} {xs:List α} {r:Int} (h0:0<=r) (h1:r < xs.length):∃ x,L2.atI xs r=some x/\x∈xs:=by
 have hr:r.toNat < xs.length:=by omega
 refine ⟨xs[r.toNat],?_,List.getElem_mem hr⟩;unfold L2.atI ixN;simp [h0,h1,hr]
theorem I9 {μ:Mem} {j:Nat} {B:Int} {xs:List D} (h:Src μ j B) (hB:B<=2 ^ 40) (h0:xs≠[]) (hn:xs.length<=2 ^ 24) :
  ∃ x μ',x∈xs/\Oh [.obj j,.lst xs] μ = .ok (.fr x) μ'/\Src μ' j (B+1)/\Fr j μ μ':=by
 have hl:0 < xs.length:=List.length_pos_iff.mpr h0;obtain ⟨r,μ',e,r0,r1,hs,hf⟩:=Wc (n:=xs.length) h hB (by omega) (by omega);obtain ⟨x,ex,hx⟩:=atI_nat r0 r1;refine ⟨x,μ',hx,?_,hs,hf⟩;simp [Oh,I_,WO,ZF,m2,Opn.ev,ZX,XF,mV,mC,RW,OR.ats,OR.at,look,ZZ,Out.bind,Out.thn,OutS.fin,Slot.d,Zt,W7,lift,e,ZL,ex]
theorem IZ {μ:Mem} {j:Nat} {B:Int} {xs:Tx} (h:Src μ j B) (hB:B<=2 ^ 40) (h0:xs≠[]) (hn:xs.length<=2 ^ 24) :
  ∃ x μ',x∈xs/\Oh [.obj j,.str xs] μ = .ok (.fr (.str [x])) μ'/\Src μ' j (B+1)/\Fr j μ μ':=by
 have hl:0 < xs.length:=List.length_pos_iff.mpr h0;obtain ⟨r,μ',e,r0,r1,hs,hf⟩:=Wc (n:=xs.length) h hB (by omega) (by omega);obtain ⟨x,ex,hx⟩:=atI_nat r0 r1;refine ⟨x,μ',hx,?_,hs,hf⟩;have hn':xs.length<=16777216:=hn;simp [Oh,I_,WO,ZF,m2,Opn.ev,ZX,XF,mV,mC,RW,OR.ats,OR.at,look,ZZ,Out.bind,Out.thn,OutS.fin,Slot.d,Zt,W7,lift,e,ZL,ex,hn']
theorem IY (ns:List Int):D.pys (ns.map D.int)=some (ns.map PyData.int):=by
 induction ns with
 | nil=>rfl
 | cons n ns ih=>simp [D.pys,D.py,ih]
theorem Og (ns:List Int):PyData.canLayAll0 (ns.map PyData.int)=true:=by
 induction ns with
 | nil=>simp [PyData.canLayAll0]
 | cons n ns ih=>simp [PyData.canLayAll0,PyData.canLay0,ih]
theorem M9 (ns:List Int):PyData.depthAll (ns.map PyData.int)=0:=by
 induction ns with
 | nil=>simp [PyData.depthAll]
 | cons n ns ih=>simp [PyData.depthAll,PyData.depth,ih]
theorem shaped_ints (ns:List Int):SeqAt.shaped (.list (ns.map PyData.int))=true:=by
 simp [SeqAt.shaped,PyData.canLay0,PyData.depth,Og,M9]
theorem Vj (neg:Bool) (ns:List Int):YC neg (.ro (ns.map .int)) (.lst [])=some (tb (decide (ns=[]) != neg)):=by
 have h:=shaped_ints ns;have h0:=shaped_ints [];have e:PyData.eqvAll (ns.map PyData.int) []=decide (ns=[]):=by cases ns <;> simp [PyData.eqvAll]
 simp only [List.map_nil] at h0;simp [YC,Qy,eqP,D.py,IY,D.pys,h,h0,PyData.eqv,e]
theorem Of {ns:List Int} {k:Int} {μ:Mem} (hl:ns.length<=63) (h0:0<=k) (hk:k<=2 ^ 40) :
  ∃ c g,0<=g/\U2 [.ro (ns.map .int),.int k] μ = .ok (.fr (.obj μ.length)) (μ++[.lst [.int c,.int (3 * k),.int g]]):=by
 have hmul:Nat.log2 3+k.natAbs.log2 < 1000000:=by
  have h1:Nat.log2 3=1:=by decide +kernel
  by_cases hz:k.natAbs=0
  ·rw [hz,h1]; decide +kernel
  ·have h2:k.natAbs.log2 < 64:=(Nat.log2_lt hz).mpr (by omega)
   omega
 have l10:Nat.log2 1000000000000000000 < 9000:=by decide +kernel
 have core:∀ c:Int,(ns=[]/\c=1\/ns≠[]/\L2.atI (ns.map D.int) (k % (ns.length:Int))=some (.int c)) ->
   ∃ g,0<=g/\U2 [.ro (ns.map .int),.int k] μ = .ok (.fr (.obj μ.length)) (μ++[.lst [.int c,.int (3 * k),.int g]]):=by
  intro c hc;by_cases hb:1000000000000000000<=c
  ·refine ⟨c / 1000000000000000000,Int.ediv_nonneg (by omega) (by decide),?_⟩
   rcases hc with ⟨rfl,rfl⟩ | ⟨hne,hat⟩
   ·omega
   ·have hp:=List.length_pos_iff.mpr hne
    simp [U2,RM,WO,Z4,Tq,ZN,m2,Opn.ev,ZK,ZF,mV,mD,ZQ,YS,mC,RW,XF,OR.at,OR.ats,look,ZZ,Out.bind,Out.thn,OutS.seq,OutS.fin,Slot.d,Own.d,lift,Vj,hne,Zt,W7,VW,gInt,hp,ZL,JU,hat,VD,Lk,hmul,Eh,GO,Sd,Tp,l10,hb]
  ·refine ⟨0,by decide,?_⟩
   rcases hc with ⟨rfl,rfl⟩ | ⟨hne,hat⟩
   ·have e0:YC true (.ro []) (.lst [])=some (tb false):=Vj true []
    simp [U2,RM,WO,Z4,Tq,ZN,m2,Opn.ev,ZK,ZF,mV,mD,ZQ,YS,mC,RW,XF,OR.at,OR.ats,look,ZZ,Out.bind,Out.thn,OutS.seq,OutS.fin,Slot.d,Own.d,lift,e0,Zt,W7,VW,gInt,ZL,JU,VD,Lk,hmul,Eh,GO,Sd,Tp,l10,hb]
   ·have hp:=List.length_pos_iff.mpr hne
    simp [U2,RM,WO,Z4,Tq,ZN,m2,Opn.ev,ZK,ZF,mV,mD,ZQ,YS,mC,RW,XF,OR.at,OR.ats,look,ZZ,Out.bind,Out.thn,OutS.seq,OutS.fin,Slot.d,Own.d,lift,Vj,hne,Zt,W7,VW,gInt,hp,ZL,JU,hat,VD,Lk,hmul,Eh,GO,Sd,Tp,l10,hb]
 by_cases hne:ns=[]
 ·obtain ⟨g,g0,e⟩:=core 1 (.inl ⟨hne,rfl⟩)
  exact ⟨1,g,g0,e⟩
 ·have hp:0 < (ns.length:Int):=by have:=List.length_pos_iff.mpr hne; omega
  obtain ⟨x,ex,hx⟩:=atI_nat (xs:=ns.map D.int) (r:=k % (ns.length:Int)) (Int.emod_nonneg _ (by omega)) (by rw [List.length_map]; exact Int.emod_lt_of_pos _ hp);obtain ⟨c,_,rfl⟩:=List.mem_map.mp hx;obtain ⟨g,g0,e⟩:=core c (.inr ⟨hne,ex⟩);exact ⟨c,g,g0,e⟩
end FL
namespace FL
open PySem L2
abbrev lo1:=PyProof.Rows.lo1
def WS:Tx:=lit "abcdefghijklmnopqrstuvwxyz0123456789"
theorem LZ:lit "abcdefghijklmnopqrstuvwxyz0123456789" = WS:=rfl
theorem U1:lit "" = []:=rfl
def Wv (st:List Tx×Tx) (c:Nat):List Tx×Tx :=
 if c∈WS then (if (st.2++[c]).length=20 then (st.1++[st.2++[c]],[]) else (st.1,st.2++[c]))
 else if st.2=[] then (st.1,[]) else (st.1++[st.2],[])
def Gg (st:List Tx×Tx):List Tx:=if st.2=[] then st.1 else st.1++[st.2]
def PM (y:Tx):List Tx:=Gg (y.foldl Wv ([],[]))
def WK (x:Tx):List Tx:=PM (x.map lo1)
def X5:MS:=(Z4 (ZR (ZN (m2 (To false) (.v 3) (.e (mD (.str (lit "abcdefghijklmnopqrstuvwxyz0123456789")))))) (ZK 2 (m2 ZP (.v 2) (.v 3)))
  ZW)
  (ZR (VX (ZN (m2 (YC true) (.v 2) (.e (mD (.str (lit "")))))) (QT (ZN (m2 (To true) (.v 3) (.e (mD (.str (lit "abcdefghijklmnopqrstuvwxyz0123456789")))))) (ZN (m2 (YC false) (.e (mC Zt [(.v 2)])) (.e (mD (.int 20))))))) (Z4 (W6 (VS "list" Zp (.v 1) [(mV 2)]))
  (ZK 2 (mD (.str (lit "")))))
  ZW))
def G2 (t:D) (st:List Tx×Tx) (s:Option Slot):Loc:=[some (.fr t),some (.own (.lst (st.1.map .str))),some (.fr (.str st.2)),s]
theorem M0 {t:D} {st:List Tx×Tx} {c:Nat} {s:Option Slot} {μ:Mem} (h1:st.1.length < 16777216) (h2:st.2.length < 16777216) :
  Zv (Zq 3) X5 (.str [c]) (G2 t st s) μ = .nx (G2 t (Wv st c) (some (.fr (.str [c])))) μ:=by
 obtain ⟨f,r⟩:=st;have h1':f.length < 16777216:=h1;have h2':r.length+1<=16777216:=h2;have h2'':r.length<=16777216:=by omega
 by_cases hc:c∈WS
 ·by_cases hl:r.length+1=20
  ·have hl':(r.length:Int)+1=20:=by omega
   simp [Zv,Zq,X5,G2,Wv,Z4,ZR,ZN,m2,Opn.ev,mD,OR.at,OR.ats,look,Out.bind,Out.thn,OutS.seq,Slot.d,Own.d,lift,To,OM,LZ,U1,hc,hl,ZK,ZP,gInt,Wh,h2',VX,QT,YC,Qy,mC,RW,Zt,W7,W6,VS,recv,Vl,XF,mV,Zp,h1',ZW,hl']
  ·have hl' : ¬ (r.length:Int)+1=20:=by omega
   simp [Zv,Zq,X5,G2,Wv,Z4,ZR,ZN,m2,Opn.ev,mD,OR.at,OR.ats,look,Out.bind,Out.thn,OutS.seq,Slot.d,Own.d,lift,To,OM,LZ,U1,hc,hl,ZK,ZP,gInt,Wh,h2',VX,QT,YC,Qy,mC,RW,Zt,W7,W6,VS,recv,Vl,XF,mV,Zp,h1',ZW,hl']
 ·by_cases hr:r=[]
  ·simp [Zv,Zq,X5,G2,Wv,Z4,ZR,ZN,m2,Opn.ev,mD,OR.at,OR.ats,look,Out.bind,Out.thn,OutS.seq,Slot.d,Own.d,lift,To,OM,LZ,U1,hc,hr,ZK,ZP,gInt,Wh,h2',VX,QT,YC,Qy,mC,RW,Zt,W7,W6,VS,recv,Vl,XF,mV,Zp,h1',ZW]
  ·simp [Zv,Zq,X5,G2,Wv,Z4,ZR,ZN,m2,Opn.ev,mD,OR.at,OR.ats,look,Out.bind,Out.thn,OutS.seq,Slot.d,Own.d,lift,To,OM,LZ,U1,hc,hr,ZK,ZP,gInt,Wh,h2',VX,QT,YC,Qy,mC,RW,Zt,W7,W6,VS,recv,Vl,XF,mV,Zp,h1',ZW]
theorem Qq (st:List Tx×Tx) (c:Nat):(Wv st c).1.length<=st.1.length+1/\(Wv st c).2.length<=st.2.length+1:=by
 unfold Wv
 split
 ·split <;> simp
 ·split <;> simp
theorem Ry {t:D} {μ:Mem}:∀ (y:Tx) (st:List Tx×Tx) (s:Option Slot),st.1.length+y.length < 16777216->st.2.length+y.length < 16777216 ->
  ∃ s',Wn (Zv (Zq 3) X5) (chars y) (G2 t st s) μ = .nx (G2 t (y.foldl Wv st) s') μ
 | [],st,s,_,_=>⟨s,rfl⟩
 | c :: y,st,s,h1,h2=>by
   have hl:=Qq st c;rw [List.length_cons] at h1 h2;obtain ⟨s',e⟩:=Ry y (Wv st c) (some (.fr (.str [c]))) (by omega) (by omega);refine ⟨s',?_⟩
   show (Zv (Zq 3) X5 (.str [c]) (G2 t st s) μ).loop (Wn (Zv (Zq 3) X5) (chars y))=_;rw [M0 (by omega) (by omega)];exact e
theorem K0 (y:Tx):∀ st:List Tx×Tx,(y.foldl Wv st).1.length<=st.1.length+y.length:=by
 induction y with
 | nil=>intro st; simp
 | cons c y ih =>
   intro st;have h1:=ih (Wv st c);have h2:=(Qq st c).1;rw [List.foldl_cons,List.length_cons];omega
end FL
namespace FL
open PySem L2
theorem IX {f:VY} {t:MT} {m:ME} {vs:List Nat} {d:D} {ds acc:List D} {δ:FL.Loc} {μ:Mem}:Sn f t m vs (d :: ds) acc δ μ=(match f d δ with
  | none=>.bad
  | some δ' => (t δ' μ).cut.bind fun b δ2 μ2=>if b=true then (m δ2 μ2).cut.bind fun s δ3 μ3=>if acc.length < 16777216 then Sn f t m vs ds (acc++[s.d]) (ZJ δ3 vs) μ3 else .bad
    else Sn f t m vs ds acc (ZJ δ2 vs) μ2):=rfl
theorem Xj {g:D->MS} {d:D} {ds:List D} {δ:FL.Loc} {μ:Mem}:Wn g (d :: ds) δ μ=(g d δ μ).loop (Wn g ds):=rfl
theorem ZS {m n:MS} {δ δ1:FL.Loc} {μ μ1:Mem} (h:m δ μ = .nx δ1 μ1):Z4 m n δ μ=n δ1 μ1:=by unfold Z4; rw [h]; rfl
theorem CJ {t:MT} {m n:MS} {δ δ1:FL.Loc} {μ μ1:Mem} (h:t δ μ = .ok true δ1 μ1):ZR t m n δ μ=m δ1 μ1:=by unfold ZR; rw [h]; rfl
theorem KZ {t:MT} {m n:MS} {δ δ1:FL.Loc} {μ μ1:Mem} (h:t δ μ = .ok false δ1 μ1):ZR t m n δ μ=n δ1 μ1:=by unfold ZR; rw [h]; rfl
theorem Gf:kitB "str" "str" = some true:=by kernel_rfl
theorem Oe {x:Tx} (h:∀ c∈x,c < 128):PyData.canLay0 (.str (toS x))=true:=by
 simp only [PyData.canLay0,PyData.strOk,toS];simp only [List.all_toArray,List.all_eq_true,decide_eq_true_eq];intro c hc;have:=h c hc;omega
theorem Rx {α:Type} (f:List α) (l:α):cutD (f++[l]) none (some (-1))=f:=by
 unfold cutD HT.sIx;simp only [List.length_append,List.length_singleton];have:((-1:Int)+((f.length+1:Nat):Int)).toNat=f.length:=by omega
 rw [if_pos (by decide),this];simp
theorem atI_last {α:Type} (f:List α) (l:α):L2.atI (f++[l]) (-1)=some l:=by
 unfold L2.atI ixN;have h1 : ¬ (0:Int) <= -1:=by decide
 have h2 : -(((f++[l]).length:Nat):Int) <= -1:=by simp; omega
 rw [if_neg h1,if_pos h2];have:(-1+(((f++[l]).length:Nat):Int)).toNat=f.length:=by simp; omega
 rw [this];simp
end FL
namespace FL
open PySem L2
section
variable {α β : Type} {a : α} {δ : FL.Loc} {μ : Mem} {x : Exc} {s : FL.Slot}
@[simp] theorem Wu {f:α->FL.Loc->Mem->Out β}:(Out.ok a δ μ).bind f=f a δ μ:=rfl
@[simp] theorem uC {f:α->FL.Loc->Mem->Out β}:(Out.exc x δ μ:Out α).bind f = .exc x δ μ:=rfl
@[simp] theorem Qp {f:α->FL.Loc->Mem->OutS}:(Out.ok a δ μ).thn f=f a δ μ:=rfl
@[simp] theorem uB {f:α->FL.Loc->Mem->OutS}:(Out.exc x δ μ:Out α).thn f = .exc x δ μ:=rfl
@[simp] theorem uA {k:MS}:(OutS.nx δ μ).seq k=k δ μ:=rfl
@[simp] theorem uz {k:MS}:(OutS.rt s μ).seq k = .rt s μ:=rfl
@[simp] theorem uy {k:MS}:(OutS.bk δ μ).seq k = .bk δ μ:=rfl
@[simp] theorem ux {k:MS}:(OutS.ct δ μ).seq k = .ct δ μ:=rfl
@[simp] theorem uw {k:MS}:(OutS.exc x δ μ).seq k = .exc x δ μ:=rfl
@[simp] theorem LY {k:MS}:(OutS.nx δ μ).loop k=k δ μ:=rfl
@[simp] theorem uv {k:MS}:(OutS.ct δ μ).loop k=k δ μ:=rfl
@[simp] theorem uu {k:MS}:(OutS.bk δ μ).loop k = .nx δ μ:=rfl
@[simp] theorem uq {k:MS}:(OutS.rt s μ).loop k = .rt s μ:=rfl
@[simp] theorem uo {k:MS}:(OutS.exc x δ μ).loop k = .exc x δ μ:=rfl
@[simp] theorem um:(OutS.nx δ μ).fin = .ok (.fr .non) μ:=rfl
@[simp] theorem uk:(OutS.rt s μ).fin = .ok s μ:=rfl
@[simp] theorem uj:(OutS.exc x δ μ).fin = .exc x μ:=rfl
@[simp] theorem ui:(Out.ok a δ μ).cut = .ok a δ μ:=rfl
end
def zm (j:Int) (δ:FL.Loc) (μ:Mem):Out (List D):=Classical.choose (sealed (if -(2 ^ 62)<=j/\j < 2 ^ 62 then Out.ok (Zj 0 j.toNat) δ μ else .bad))
theorem IW {j:Int} {δ:FL.Loc} {μ:Mem}:zm j δ μ=if -(2 ^ 62)<=j/\j < 2 ^ 62 then .ok (Zj 0 j.toNat) δ μ else .bad:=Classical.choose_spec (sealed _)
@[simp] theorem MZ {j:Int} {δ:FL.Loc} {μ:Mem} (h1 : -1000000000<=j) (h2:j<=1000000000):zm j δ μ = .ok (Zj 0 j.toNat) δ μ:=by rw [IW]; exact if_pos ⟨by omega,by omega⟩
def xh (i j:Int) (δ:FL.Loc) (μ:Mem):Out (List D):=Classical.choose (sealed (if (-(2 ^ 62)<=i/\i < 2 ^ 62)/\(-(2 ^ 62)<=j/\j < 2 ^ 62) then Out.ok (Zj i (j - i).toNat) δ μ else .bad))
theorem IV {i j:Int} {δ:FL.Loc} {μ:Mem}:xh i j δ μ=if (-(2 ^ 62)<=i/\i < 2 ^ 62)/\(-(2 ^ 62)<=j/\j < 2 ^ 62) then .ok (Zj i (j - i).toNat) δ μ else .bad:=Classical.choose_spec (sealed _)
@[simp] theorem CI {i j:Int} {δ:FL.Loc} {μ:Mem} (h1 : -1000000000<=i) (h2:i<=1000000000) (h3 : -1000000000<=j) (h4:j<=1000000000):xh i j δ μ = .ok (Zj i (j - i).toNat) δ μ:=by rw [IV]; exact if_pos ⟨⟨by omega,by omega⟩,by omega,by omega⟩
section
variable {δ : FL.Loc} {μ : Mem} {m n : ME} {t u : MT} {p q : MS} {o oa ob oc : Opn} {os : List Opn} {ms : List ME} {d : D} {ds dds : List D} {i j k : Nat} {f : VY} {g : D -> D -> Option FL.Slot}
@[simp] theorem IU:(Opn.e m).ev δ μ=(m δ μ).bind fun s δ1 μ1=>.ok (.d s.d) δ1 μ1:=rfl
@[simp] theorem Ge:(Opn.v i).ev δ μ=(match δ[i]? with | some (some _)=>.ok (.i i) δ μ | _=>.bad):=rfl
@[simp] theorem IT {d:D}:(OR.d d).at δ μ=look μ d:=rfl
@[simp] theorem CH:(OR.i i).at δ μ=(match δ[i]? with | some (some s)=>look μ s.d | _=>none):=rfl
@[simp] theorem xg:look μ (.obj k)=(μ[k]?).map Own.d:=rfl
@[simp] theorem IS {i:Int}:look μ (.int i)=some (.int i):=rfl
@[simp] theorem xc {x:Tx}:look μ (.str x)=some (.str x):=rfl
@[simp] theorem w_ {b:Bool}:look μ (.bl b)=some (.bl b):=rfl
@[simp] theorem w9:look μ .non=some .non:=rfl
@[simp] theorem w5 {xs:List D}:look μ (.lst xs)=some (.lst xs):=rfl
@[simp] theorem wZ {xs:List D}:look μ (.tup xs)=some (.tup xs):=rfl
@[simp] theorem CG {xs:List D}:look μ (.ro xs)=some (.ro xs):=rfl
@[simp] theorem zj {b:FxM} {ks:List DK} {xs:List D}:look μ (.fx b ks xs)=some (.fx b ks xs):=rfl
@[simp] theorem wY {ks:List DK} {xs:List D}:look μ (.dct ks xs)=some (.dct ks xs):=rfl
@[simp] theorem zi {x:String}:look μ (.glo x)=some (.glo x):=rfl
@[simp] theorem zh {x:String}:look μ (.ty x)=some (.ty x):=rfl
@[simp] theorem zg {c a:String} {d:D}:look μ (.exn c a d)=some (.exn c a d):=rfl
@[simp] theorem LW:OR.ats δ μ []=some []:=rfl
@[simp] theorem LU {r:OR} {rs:List OR}:OR.ats δ μ (r :: rs)=(match r.at δ μ,OR.ats δ μ rs with | some x,some xs=>some (x :: xs) | _,_=>none):=rfl
@[simp] theorem LP:RW [] δ μ = .ok [] δ μ:=rfl
@[simp] theorem TY:RW (o :: os) δ μ=(o.ev δ μ).bind fun r δ1 μ1=>(RW os δ1 μ1).bind fun rs δ2 μ2=>.ok (r :: rs) δ2 μ2:=rfl
@[simp] theorem zf:XF [] δ μ = .ok [] δ μ:=rfl
@[simp] theorem ze:XF (m :: ms) δ μ=(m δ μ).bind fun s δ1 μ1=>(XF ms δ1 μ1).bind fun ds δ2 μ2=>.ok (s.d :: ds) δ2 μ2:=rfl
@[simp] theorem IQ {s:FL.Slot}:lift (some s) δ μ = .ok s δ μ:=rfl
@[simp] theorem IP:(FL.Slot.fr d).d=d:=rfl
@[simp] theorem zd {o:Own}:(FL.Slot.own o).d=o.d:=rfl
@[simp] theorem wX {xs:List D}:(Own.lst xs).d = .lst xs:=rfl
@[simp] theorem zc {ks:List DK} {xs:List D}:(Own.dct ks xs).d = .dct ks xs:=rfl
@[simp] theorem CF:mD d δ μ = .ok (.fr d) δ μ:=rfl
@[simp] theorem sZ:mV i δ μ=(match δ[i]? with | some (some s)=>.ok (.fr s.d) (δ.set i (some (.fr s.d))) μ | _=>.bad):=rfl
@[simp] theorem uh:D6 i δ μ=(match δ[i]? with | some (some s)=>.ok s (δ.set i none) μ | _=>.bad):=rfl
@[simp] theorem sY:m2 g oa ob δ μ=(oa.ev δ μ).bind fun ra δ1 μ1=>(ob.ev δ1 μ1).bind fun rb δ2 μ2=>match ra.at δ2 μ2,rb.at δ2 μ2 with | some da,some db=>lift (g da db) δ2 μ2 | _,_=>.bad:=rfl
@[simp] theorem ug:ZN m δ μ=(m δ μ).bind fun s δ1 μ1=>match s with | .fr (.bl b)=>.ok b δ1 μ1 | _=>.bad:=rfl
@[simp] theorem wW:XT t δ μ=(t δ μ).bind fun b δ1 μ1=>.ok (!b) δ1 μ1:=rfl
@[simp] theorem wV:VX t u δ μ=(t δ μ).bind fun b δ1 μ1=>if b=true then u δ1 μ1 else .ok false δ1 μ1:=rfl
@[simp] theorem uf:QT t u δ μ=(t δ μ).bind fun b δ1 μ1=>if b=true then .ok true δ1 μ1 else u δ1 μ1:=rfl
@[simp] theorem ue:Tq t m n δ μ=(t δ μ).bind fun b δ1 μ1=>if b=true then m δ1 μ1 else n δ1 μ1:=rfl
@[simp] theorem y':X' m n δ μ=(m δ μ).bind fun s δ1 μ1=>match s with | .fr (.bl true)=>n δ1 μ1 | .fr (.bl false)=>.ok (.fr (.bl false)) δ1 μ1 | _=>.bad:=rfl
@[simp] theorem wU:ON m n δ μ=(m δ μ).bind fun s δ1 μ1=>match s with | .fr (.bl false)=>n δ1 μ1 | .fr (.bl true)=>.ok (.fr (.bl true)) δ1 μ1 | _=>.bad:=rfl
@[simp] theorem wR:ZD ms δ μ=(XF ms δ μ).bind fun ds δ1 μ1=>if ds.length<=16777216 then .ok (.fr (.tup ds)) δ1 μ1 else .bad:=rfl
@[simp] theorem wQ:ZQ ms δ μ=(XF ms δ μ).bind fun ds δ1 μ1=>if ds.length<=16777216 then .ok (.own (.lst ds)) δ1 μ1 else .bad:=rfl
@[simp] theorem Ax:YS m δ μ=(m δ μ).bind fun s δ1 μ1=>match s with | .own o=>.ok (.fr (.obj μ1.length)) δ1 (μ1++[o]) | _=>.bad:=rfl
@[simp] theorem Aw {g:List D->Option FL.Slot}:mC g os δ μ=(RW os δ μ).bind fun rs δ1 μ1=>match OR.ats δ1 μ1 rs with | some ds=>lift (g ds) δ1 μ1 | none=>.bad:=rfl
@[simp] theorem sX {T:String} {g:D->List D->Option FL.Slot}:mM T g o os δ μ=(o.ev δ μ).bind fun r δ1 μ1=>match r.at δ1 μ1 with | some d0=>if Lh T d0=true then (RW os δ1 μ1).bind fun rs δ2 μ2=>match r.at δ2 μ2,OR.ats δ2 μ2 rs with | some d,some ds=>lift (g d ds) δ2 μ2 | _,_=>.bad else .bad | none=>.bad:=rfl
@[simp] theorem y_:ZW δ μ = .nx δ μ:=rfl
@[simp] theorem CD:Z4 p q δ μ=(p δ μ).seq q:=rfl
@[simp] theorem Qo:W6 m δ μ=(m δ μ).thn fun _ δ1 μ1=>.nx δ1 μ1:=rfl
@[simp] theorem wO:ZF m δ μ=(m δ μ).thn fun s _ μ1=>.rt s μ1:=rfl
@[simp] theorem wN:ZR t p q δ μ=(t δ μ).thn fun b δ1 μ1=>if b=true then p δ1 μ1 else q δ1 μ1:=rfl
@[simp] theorem Rv:ZK i m δ μ=(m δ μ).thn fun s δ1 μ1=>.nx (δ1.set i (some s)) μ1:=rfl
@[simp] theorem wM:UM δ μ = .ok none δ μ:=rfl
@[simp] theorem sW:mP m δ μ=(m δ μ).bind fun s δ1 μ1=>match s with | .fr (.int i)=>.ok (some i) δ1 μ1 | _=>.bad:=rfl
@[simp] theorem ud {g:D->Option Int->Option Int->Option FL.Slot} {lo hi:MM (Option Int)}:QP g o lo hi δ μ=(o.ev δ μ).bind fun r δ1 μ1=>(lo δ1 μ1).bind fun l δ2 μ2=>(hi δ2 μ2).bind fun h δ3 μ3=>match r.at δ3 μ3 with | some d=>lift (g d l h) δ3 μ3 | none=>.bad:=rfl
@[simp] theorem wL {T:String} {g:Own->List D->Option (D×Own)}:VS T g o ms δ μ=(o.ev δ μ).bind fun r δ1 μ1=>match recv δ1 μ1 r with | some (c0,_)=>if Vl T c0=true then (XF ms δ1 μ1).bind fun ds δ2 μ2=>(match recv δ2 μ2 r with | some (c,w)=>(match g c ds with | some (d,c')=>.ok (.fr d) (w c').1 (w c').2 | none=>.bad) | none=>.bad) else .bad | none=>.bad:=rfl
@[simp] theorem y9 {g:Own->D->D->Option Own}:XA g oa ob m δ μ=(m δ μ).thn fun s δ1 μ1=>(oa.ev δ1 μ1).thn fun r δ2 μ2=>(ob.ev δ2 μ2).thn fun ri δ3 μ3=>match recv δ3 μ3 r,ri.at δ3 μ3 with | some (c,w),some di=>(match g c di s.d with | some c' => .nx (w c').1 (w c').2 | none=>.bad) | _,_=>.bad:=rfl
@[simp] theorem X_ {b:MS}:Zu i b ds μ=(b (ZZ i ds) μ).fin:=WO
@[simp] theorem Gb {h:MF}:ZX h ms dds δ μ=(XF ms δ μ).bind fun ds δ1 μ1=>match h (ds++dds) μ1 with | .ok s μ2=>.ok s δ1 μ2 | .exc x μ2=>.exc x δ1 μ2 | .bad=>.bad:=rfl
@[simp] theorem wK:Wm m δ μ=(m δ μ).bind fun s δ1 μ1=>match s with | .fr (.int i)=>.ok (.fr (.int (-i))) δ1 μ1 | _=>.bad:=rfl
@[simp] theorem Av {c a:String}:Y9 c a m δ μ=(m δ μ).thn fun s δ1 μ1=>.exc ⟨c,a,s.d⟩ δ1 μ1:=rfl
@[simp] theorem wJ:UN i j m n δ μ=(m δ μ).thn fun s δ1 μ1=>(n δ1 μ1).thn fun s' δ2 μ2=>.nx ((δ2.set i (some s)).set j (some s')) μ2:=rfl
@[simp] theorem wI:JJ f m δ μ=(m δ μ).thn fun s δ1 μ1=>match f s.d δ1 with | some δ2=>.nx δ2 μ1 | none=>.bad:=rfl
@[simp] theorem uc:Uc m δ μ=(m δ μ).bind fun s δ1 μ1=>match G4 s.d with | some ds=>.ok ds δ1 μ1 | none=>.bad:=rfl
@[simp] theorem D4:Xv o δ μ=(RW [o] δ μ).bind fun rs δ1 μ1=>match OR.ats δ1 μ1 rs with | some [.int j]=>zm j δ1 μ1 | _=>.bad:=by
 simp only [IW]; rfl
@[simp] theorem ub {o':Opn}:U5 o o' δ μ=(RW [o,o'] δ μ).bind fun rs δ1 μ1=>match OR.ats δ1 μ1 rs with | some [.int i,.int j]=>xh i j δ1 μ1 | _=>.bad:=by
 simp only [IV]; rfl
@[simp] theorem Tc {mi:MM (List D)}:WD mi f p δ μ=(mi δ μ).thn fun ds δ1 μ1=>Wn (Zv f p) ds δ1 μ1:=rfl
@[simp] theorem U0:Zv f p d δ μ=(match f d δ with | some δ' => p δ' μ | none=>.bad):=rfl
@[simp] theorem CB:Zq i d δ=some (δ.set i (some (.fr d))):=rfl
@[simp] theorem D3 {mi:MM (List D)} {vs:List Nat}:Tj mi f t m vs δ μ=(mi δ μ).bind fun ds δ1 μ1=>Sn f t m vs ds [] (ZJ δ1 vs) μ1:=rfl
@[simp] theorem wH:ZJ δ []=δ:=rfl
@[simp] theorem wG {vs:List Nat}:ZJ δ (i :: vs)=(ZJ δ vs).set i none:=rfl
@[simp] theorem wD:Vx δ μ = .ok true δ μ:=rfl
@[simp] theorem y0 {xs:List D}:(Own.lst xs).isF=false:=rfl
@[simp] theorem yZ {ks:List DK} {xs:List D}:(Own.dct ks xs).isF=false:=rfl
@[simp] theorem yY {P:Addr} {q:Str}:(Own.tab P q).isF=false:=rfl
@[simp] theorem yX {c:String} {k:Nat} {ks:List String} {xs:List D}:(Own.ins c k ks xs).isF=false:=rfl
@[simp] theorem yW {k:Nat}:(Own.idc k).isF=false:=rfl
@[simp] theorem yV {ks:List (List DK)}:(Own.tpk ks).isF=false:=rfl
@[simp] theorem yU {ks:List DK} {xs:List D}:(Own.fdc ks xs).isF=true:=rfl
@[simp] theorem Au {l:List (DK×D)}:(Zl l).isF=false:=rfl
@[simp] theorem wC {d:D}:recv δ μ (.d d)=(match d with | .obj k=>(match μ[k]? with | some c=>(if c.isF=true then none else some (c,fun c' => (δ,μ.set k c'))) | none=>none) | _=>none):=by
 cases d <;> first
  | rfl
  | (rename_i k; unfold recv; cases hh:μ[k]? with
     | none=>simp [hh]
     | some c=>cases c <;> simp [hh])
@[simp] theorem wB:recv δ μ (.i j)=(match δ[j]? with
  | some (some (.own c))=>some (c,fun c' => (δ.set j (some (.own c')),μ))
  | some (some (.fr (.obj k)))=>(match μ[k]? with
    | some c=>(if c.isF=true then none else some (c,fun c' => (δ,μ.set k c')))
    | none=>none)
  | _=>none):=by
 cases h:δ[j]? with
 | none=>simp [recv,h]
 | some o =>
   cases o with
   | none=>simp [recv,h]
   | some s =>
     cases s with
     | own c=>simp [recv,h]
     | fr d =>
       cases d <;> first
        | (simp [recv,h]; done)
        | (rename_i k; cases hh:μ[k]? with
           | none=>simp [recv,h,hh]
           | some c=>cases c <;> simp [recv,h,hh])
@[simp] theorem wA {T:String} {xs:List D}:Vl T (.lst xs)=(T == "list"):=rfl
@[simp] theorem wz {T:String} {ks:List DK} {xs:List D}:Vl T (.dct ks xs)=(T == "dict"):=rfl
@[simp] theorem wy {T:String} {x:Tx}:Lh T (.str x)=(T == "str"):=rfl
@[simp] theorem wx {T:String} {xs:List D}:Lh T (.lst xs)=(T == "list"):=rfl
@[simp] theorem wu {xs:List D}:G4 (.lst xs)=some xs:=rfl
@[simp] theorem wt {xs:List D}:G4 (.tup xs)=some xs:=rfl
@[simp] theorem wq {x:Tx}:G4 (.str x)=some (chars x):=rfl
@[simp] theorem yT {xs:List D}:G4 (.rc xs)=some xs:=rfl
@[simp] theorem wo {xs:List D}:G4 (.ro xs)=some xs:=rfl
@[simp] theorem wm {vs:List Nat} {acc:List D}:Sn f t m vs [] acc δ μ = .ok (.own (.lst acc)) δ μ:=rfl
@[simp] theorem yS {g:D->MS}:Wn g [] δ μ = .nx δ μ:=rfl
end
section
variable {i j : Int} {x y : Tx} {b c : Bool} {xs ys : List D}
@[simp] theorem yR:ZP (.int i) (.int j)=some (.fr (.int (i+j))):=rfl
@[simp] theorem yQ:ZP (.str x) (.str y)=if x.length+y.length<=16777216 then some (.fr (.str (x++y))) else none:=by
 by_cases h:x.length+y.length<=16777216 <;> simp [ZP,gInt,Wh,Sq,RE,h]
@[simp] theorem yP:ZP (.lst xs) (.lst ys)=if xs.length+ys.length<=16777216 then some (.own (.lst (xs++ys))) else none:=by
 by_cases h:xs.length+ys.length<=16777216 <;> simp [ZP,gInt,Wh,Sq,RE,h]
@[simp] theorem yO:gSub (.int i) (.int j)=some (.fr (.int (i - j))):=rfl
@[simp] theorem wk:Nl (.int i) (.int j)=some (.fr (.bl (decide (i < j)))):=rfl
@[simp] theorem wj:Tv (.int i) (.int j)=some (.fr (.bl (decide (i<=j)))):=rfl
@[simp] theorem wi:Dw (.int i) (.int j)=some (.fr (.bl (decide (j < i)))):=rfl
@[simp] theorem wg:Eh (.int i) (.int j)=some (.fr (.bl (decide (j<=i)))):=rfl
@[simp] theorem we {n:Bool}:YC n (.int i) (.int j)=some (.fr (.bl (decide (i=j) != n))):=rfl
@[simp] theorem wd {n:Bool}:YC n (.str x) (.str y)=some (.fr (.bl (decide (x=y) != n))):=rfl
@[simp] theorem wc {n:Bool}:YC n (.bl b) (.bl c)=some (.fr (.bl (decide (b=c) != n))):=rfl
@[simp] theorem yN {n:Bool}:YC n .non .non=some (.fr (.bl (true != n))):=rfl
@[simp] theorem yM {n:Bool}:YC n .non (.int i)=some (.fr (.bl (false != n))):=rfl
@[simp] theorem yL {n:Bool}:YC n (.int i) .non=some (.fr (.bl (false != n))):=rfl
@[simp] theorem yK {n:Bool}:YC n .non (.str x)=some (.fr (.bl (false != n))):=rfl
@[simp] theorem yJ {n:Bool}:YC n (.str x) .non=some (.fr (.bl (false != n))):=rfl
@[simp] theorem yI:Zt [.str x]=if x.length<=16777216 then some (.fr (.int x.length)) else none:=rfl
@[simp] theorem yH:Zt [.lst xs]=some (.fr (.int xs.length)):=rfl
@[simp] theorem yG:Zt [.tup xs]=some (.fr (.int xs.length)):=rfl
@[simp] theorem As {xs:List D}:Zt [.rc xs]=some (.fr (.int xs.length)):=rfl
@[simp] theorem yF {xs:List D} {i:Int}:ZL (.rc xs) (.int i)=(L2.atI xs i).map .fr:=rfl
@[simp] theorem Ga:Zt [.ro xs]=some (.fr (.int xs.length)):=rfl
@[simp] theorem wb:ZL (.lst xs) (.int i)=(L2.atI xs i).map .fr:=rfl
@[simp] theorem wa:ZL (.tup xs) (.int i)=(L2.atI xs i).map .fr:=rfl
@[simp] theorem v_:ZL (.ro xs) (.int i)=(L2.atI xs i).map .fr:=rfl
@[simp] theorem v9:ZL (.str x) (.int i)=if x.length<=16777216 then (L2.atI x i).map fun c=>.fr (.str [c]) else none:=rfl
@[simp] theorem v8 {n:Bool} {c:Nat}:To n (.str [c]) (.str x)=some (.fr (.bl (decide (c∈x) != n))):=rfl
@[simp] theorem yE {n:Bool}:WT n .non .non=some (.fr (.bl (true != n))):=rfl
@[simp] theorem yD {n:Bool}:WT n (.int i) .non=some (.fr (.bl (false != n))):=rfl
@[simp] theorem yC {n:Bool}:WT n (.str x) .non=some (.fr (.bl (false != n))):=rfl
@[simp] theorem yB {n:Bool}:WT n (.tup xs) .non=some (.fr (.bl (false != n))):=rfl
@[simp] theorem yA {n:Bool}:WT n (.lst xs) .non=some (.fr (.bl (false != n))):=rfl
@[simp] theorem yz {n:Bool} {c a:String} {d:D}:WT n (.exn c a d) .non=some (.fr (.bl (false != n))):=rfl
@[simp] theorem yy {n:Bool}:WT n (.bl b) .non=some (.fr (.bl (false != n))):=rfl
@[simp] theorem v7 {d:D}:Zp (.lst xs) [d]=if xs.length < 16777216 then some (.non,.lst (xs++[d])) else none:=by
 by_cases h:xs.length < 16777216 <;> simp [Zp,h]
@[simp] theorem v3 {lo hi:Option Int}:UE (.str x) lo hi=if x.length<=16777216 then some (.fr (.str (cutD x lo hi))) else none:=by
 by_cases h:x.length<=16777216 <;> simp [UE,h]
@[simp] theorem vZ {lo hi:Option Int}:UE (.lst xs) lo hi=some (.own (.lst (cutD xs lo hi))):=rfl
@[simp] theorem vY {lo hi:Option Int}:UE (.ro xs) lo hi=some (.own (.lst (cutD xs lo hi))):=rfl
@[simp] theorem vX {lo hi:Option Int}:UE (.tup xs) lo hi=some (.fr (.tup (cutD xs lo hi))):=rfl
@[simp] theorem yx:So [.int i,.int j]=some (.fr (.int (if j > i then j else i))):=rfl
@[simp] theorem F_:T_ [.int i,.int j]=some (.fr (.int (if j < i then j else i))):=rfl
end
def Nx (r:OutS) (P:FL.Loc->Mem->Prop):Prop:=∃ δ μ,r = .nx δ μ/\P δ μ
@[simp] theorem ua {δ:FL.Loc} {μ:Mem} {P:FL.Loc->Mem->Prop}:Nx (.nx δ μ) P↔P δ μ :=
 ⟨fun ⟨_,_,e,p⟩=>by cases e; exact p,fun p=>⟨_,_,rfl,p⟩⟩
theorem Nx.imp {r:OutS} {P P':FL.Loc->Mem->Prop} (h:Nx r P) (i:∀ δ μ,P δ μ->P' δ μ):Nx r P':=let ⟨δ,μ,e,p⟩:=h; ⟨δ,μ,e,i δ μ p⟩
section
variable {δ : FL.Loc} {μ : Mem} {m : ME}
@[simp] theorem IM {h:(Mem->OutF)->Mem->OutF} {j:Nat} {P:Addr} {q:Str}:Wg h j P q m δ μ=(match μ[j]? with
 | some (.tab P' q')=>if P'=P/\q'=q then (match h (WL m δ) μ with
   | .ok s μ' => .ok s δ μ'
   | .exc x μ' => .exc x δ μ'
   | .bad=>.bad) else .bad
 | _=>.bad):=rfl
@[simp] theorem vW:WL m δ μ=(match m (hide δ) μ with
 | .ok s _ μ' => .ok s μ'
 | .exc x _ μ' => .exc x μ'
 | .bad=>.bad):=rfl
@[simp] theorem yw:Xu δ μ = .ok (.own (.dct [] [])) δ μ:=rfl
end
theorem Od {g:D->MS} (I:Nat->FL.Loc->Mem->Prop):∀ (ds:List D) (n:Nat) (δ:FL.Loc) (μ:Mem),I n δ μ->(∀ (i:Nat) (d:D) (δ:FL.Loc) (μ:Mem),ds[i]?=some d->I (n+i) δ μ->Nx (g d δ μ) (I (n+i+1)))->Nx (Wn g ds δ μ) (I (n+ds.length))
 | [],n,δ,μ,h0,_=>⟨δ,μ,rfl,h0⟩
 | d :: ds,n,δ,μ,h0,hs=>by
   obtain ⟨δ1,μ1,e,h1⟩:=hs 0 d δ μ rfl h0;have:=Od I ds (n+1) δ1 μ1 h1 fun i d δ μ hd hi=>by
    have:=hs (i+1) d δ μ hd (by rw [show n+(i+1)=n+1+i by omega]; exact hi);rw [show n+(i+1)+1=n+1+i+1 by omega] at this;exact this
   rw [show n+1+ds.length=n+(d :: ds).length by rw [List.length_cons]; omega] at this
   show Nx ((g d δ μ).loop (Wn g ds)) _;rw [e];exact this
theorem D2 {g:D->MS} (I:Nat->FL.Loc->Mem->Prop) {ds:List D} {δ:FL.Loc} {μ:Mem} (h0:I 0 δ μ) (hs:∀ (i:Nat) (d:D) (δ:FL.Loc) (μ:Mem),ds[i]?=some d->I i δ μ->Nx (g d δ μ) (I (i+1))):Nx (Wn g ds δ μ) (I ds.length):=by
 have:=Od I ds 0 δ μ h0 fun i d δ μ hd hi=>by
  rw [Nat.zero_add] at hi ⊢;exact hs i d δ μ hd hi
 rwa [Nat.zero_add] at this
theorem Oc {n i:Nat} {d:D} (h:(Zj 0 n)[i]?=some d):d = .int (i:Nat)/\i < n:=by
 unfold Zj at h;rw [List.getElem?_map] at h;by_cases hi:i < n
 ·rw [List.getElem?_range hi] at h
  cases h;exact ⟨by simp,hi⟩
 ·rw [List.getElem?_eq_none (by simp; omega)] at h
  cases h
def PL (f:VY) (t:MT) (m:ME) (vs:List Nat) (d:D) (δ:FL.Loc) (μ:Mem):Out (Option D):=match f d δ with
 | none=>.bad
 | some δ' => (t δ' μ).cut.bind fun b δ2 μ2=>if b=true then (m δ2 μ2).cut.bind fun s δ3 μ3=>.ok (some s.d) (ZJ δ3 vs) μ3 else .ok none (ZJ δ2 vs) μ2
theorem F9 {f:VY} {t:MT} {m:ME} {vs:List Nat} {d:D} {ds acc:List D} {δ:FL.Loc} {μ:Mem}:Sn f t m vs (d :: ds) acc δ μ=(PL f t m vs d δ μ).bind fun o δ1 μ1=>match o with
  | some e=>if acc.length < 16777216 then Sn f t m vs ds (acc++[e]) δ1 μ1 else .bad
  | none=>Sn f t m vs ds acc δ1 μ1:=by
 rw [IX];unfold PL;cases f d δ with
 | none=>rfl
 | some δ' =>
   cases h:(t δ' μ).cut with
   | bad=>simp only [h]; rfl
   | exc x δ2 μ2=>simp only [h]; rfl
   | ok b δ2 μ2 =>
     simp only [h,Wu];cases b with
     | false=>rfl
     | true =>
       simp only [if_true];cases h2:(m δ2 μ2).cut with
       | bad=>rfl
       | exc x δ3 μ3=>rfl
       | ok s δ3 μ3=>rfl
theorem Xr {f:VY} {t:MT} {m:ME} {vs:List Nat} {δ:FL.Loc} {μ:Mem} (F:D->Option D):∀ {ds acc:List D},(∀ d∈ds,PL f t m vs d δ μ = .ok (F d) δ μ)->acc.length+ds.length < 16777216 ->
  Sn f t m vs ds acc δ μ = .ok (.own (.lst (acc++ds.filterMap F))) δ μ
 | [],acc,_,_=>by simp
 | d :: ds,acc,h,hl=>by
   rw [List.length_cons] at hl;rw [F9,h d (List.mem_cons_self ..),Wu];cases e:F d with
   | none =>
     simp only [];rw [Xr F (fun d hd=>h d (List.mem_cons_of_mem _ hd)) (by omega)];simp [e]
   | some x =>
     simp only [show acc.length < 16777216 by omega,if_true];rw [Xr F (fun d hd=>h d (List.mem_cons_of_mem _ hd)) (by rw [List.length_append,List.length_singleton]; omega)];simp [e]
section
variable {δ : FL.Loc} {μ : Mem} {m : ME} {f : VY} {h : P4} {d : D} {ds xs : List D} {n : Nat} {g g' : D -> D -> Option FL.Slot} {oa ob oc : Opn}
@[simp] theorem vV:Vm n h (.tup ds) δ=if ds.length=n then h ds δ else none:=rfl
@[simp] theorem vU:XB f h (d :: ds) δ=(match f d δ with | some δ' => h ds δ' | none=>none):=rfl
@[simp] theorem vT:Vn [] δ=some δ:=rfl
@[simp] theorem yv:WQ [.lst xs]=some (.fr (.tup xs)):=rfl
@[simp] theorem yu:WQ [.tup xs]=some (.fr (.tup xs)):=rfl
@[simp] theorem Ar:Vk g g' oa ob oc δ μ=(oa.ev δ μ).bind fun ra δ1 μ1=>(ob.ev δ1 μ1).bind fun rb δ2 μ2=>match ra.at δ2 μ2,rb.at δ2 μ2 with
 | some da,some db=>(match g da db with
   | some (.fr (.bl true))=>(oc.ev δ2 μ2).bind fun rc δ3 μ3=>(match rb.at δ3 μ3,rc.at δ3 μ3 with
     | some db',some dc=>lift (g' db' dc) δ3 μ3
     | _,_=>.bad)
   | some (.fr (.bl false))=>.ok (.fr (.bl false)) δ2 μ2
   | _=>.bad)
 | _,_=>.bad:=rfl
end
end FL
namespace FL
open PySem PySem.Spec PyProof.Rows L2
structure ClW (P:Program) (w:World) (K:PySem.W.Frag) (mg:Str->Option Value) (base:Heap) (j:Nat) (c:String) (n:Nat) (ks:List Str) (sel:List Sel) (mi:MF) (N:Nat) (dds:List D):Prop where
 len:∀ {α:Type} (vs ds zs:List α),vs.length=n->ds.length=dds.length->zs.length=ks.length->(YX sel vs ds zs).length=N
 ex:∃ (C f:Addr) (fd:FuncData) (ps:List Str) (ds:List Value) (dvs:List V),mg (Str.ofString c)=some (.ref C)/\Mk K C f/\FnG P w K mg base (L2.CX P w) j f fd ps (spM K mg mi (N+1))/\VQ K fd ps n ks sel ds/\Vals dvs ds/\∀ F ρ,RepL K mg F ρ dvs dds
section
variable {X : Cx} {j n N : Nat} {x : Str} {c : String} {ks : List Str} {sel : List Sel} {m mi : MF} {dds : List D}
theorem ClW.callF (V:ClW X.prog X.w X.K X.mg X.base j c n ks sel mi N dds):∃ a,X.mg (Str.ofString c)=some (.ref a)/\CallW X (j+1) a n ks sel (mkF c mi) N dds:=by
 obtain ⟨C,f,fd,ps,ds,dvs,e1,e2,e3,e4,e5,e6⟩:=V.ex;exact ⟨C,e1,.mkF e1 e2 e3 e4 e5 e6 V.len⟩
theorem ClW.callS (V:ClW X.prog X.w X.K X.mg X.base j c n ks sel mi N dds):∃ a,X.mg (Str.ofString c)=some (.ref a)/\CallW X (j+1) a n ks sel (mkS c mi) N dds:=by
 obtain ⟨C,f,fd,ps,ds,dvs,e1,e2,e3,e4,e5,e6⟩:=V.ex;exact ⟨C,e1,.mkS e1 e2 e3 e4 e5 e6 V.len⟩
end
def PropR (P:Program) (w:World) (K:PySem.W.Frag) (mg:Str->Option Value) (base:Heap) (j:Nat) (pt:String->String->Option MF):Prop :=
 ∀ c f m,pt c f=some m->∀ C,mg (Str.ofString c)=some (.ref C)->Cls K C/\∃ (p g:Addr) (fd:FuncData) (nm:Str),PropOf K C (Str.ofString f) p g/\FnG P w K mg base (L2.CX P w) j g fd [nm] (spM K mg m 1)/\Binds K fd [nm] []
theorem PropR.ok {X:Cx} {j:Nat} {pt:String->String->Option MF} (h:PropR X.prog X.w X.K X.mg X.base j pt):PV X j pt:=h
def MethR (P:Program) (w:World) (K:PySem.W.Frag) (mg:Str->Option Value) (base:Heap) (j:Nat) (mt:String->String->Nat->Option MF):Prop :=
 ∀ c f n m,mt c f n=some m->∀ C,mg (Str.ofString c)=some (.ref C)->Cls K C/\∃ (g:Addr) (fd:FuncData) (ps:List Str) (ds:List Value) (dvs:List V) (dds:List D) (m':MF) (N:Nat),Meth K C (Str.ofString f) g/\FnG P w K mg base (L2.CX P w) j g fd ps (spM K mg m' N)/\Binds K fd ps ds/\Vals dvs ds /\
  (∀ F ρ,RepL K mg F ρ dvs dds)/\n+1+dds.length=N/\∀ ds' μ,m ds' μ=m' (ds'++dds) μ
theorem MethR.ok {X:Cx} {j:Nat} {mt:String->String->Nat->Option MF} (h:MethR X.prog X.w X.K X.mg X.base j mt):RO X j mt:=h
def SupR (P:Program) (w:World) (K:PySem.W.Frag) (mg:Str->Option Value) (base:Heap) (j:Nat) (c f:String) (D:Addr) (mi:MF) (N:Nat):Prop :=
 ∀ C,mg (Str.ofString c)=some (.ref C)->∃ (g:Addr) (og:Obj) (fd:FuncData) (ps:List Str) (ds:List Value) (dvs:List V) (cdC:ClassData),PySem.W.clsIn K C=some cdC/\PySem.W.alongIn K (Str.ofString f) ((cdC.mro.dropWhile (· != .ref D)).drop 1)=some (some (.ref g)) /\
  K.lookup g=some og/\og.cls = .type "function" /\ PySem.W.fnIn K g=true/\PySem.W.mroIn K C (.ref D)=some true/\FnG P w K mg base (L2.CX P w) j g fd ps (spM K mg mi N)/\Binds K fd ps []
theorem SupR.ok {X:Cx} {j:Nat} {c f:String} {D:Addr} {mi:MF} {N:Nat} (h:SupR X.prog X.w X.K X.mg X.base j c f D mi N):AF X j c f D mi N:=h
structure SupP (P:Program) (K:PySem.W.Frag) (mg:Str->Option Value) (f cda cc D:Addr) (p0:Str) (sc:Scope) (N:List Str):Prop where
 lk:∃ o fd ar,K.lookup f=some o/\o.data = .func fd/\(fd.params.posonlyargs++fd.params.args).head?=some ar/\ar.arg=p0
 code:∃ ccl cdd vs ccs file tf,K.lookup cda=some { cls:=ccl,dict:=cdd,data:=.fields vs,slots:=ccs }/\vs[2]?=some (.str file tf)/\((P.main.file:Str) == file)=true
 cell:∃ cl cld csl,K.lookup cc=some { cls:=cl,dict:=cld,data:=.cell (some (.ref D)),slots:=csl }
 clsD:∃ cdD,PySem.W.clsIn K D=some cdD
 any:PySem.W.nsIn K cStatics "thirdparty.any" = some none
 top:(P.main.scope.names.lookup ("super" : Str)).isSome=false
 sup:mg "super" = none
 ls:sc.names.lookup ("super" : Str)=some .globalImplicit
 lc:sc.names.lookup ("__class__" : Str)=some .free
 l0:sc.names.lookup p0=some .local
 n0:N[0]?=some p0
theorem SupP.t {X:Cx} {W:WX} {k:Nat} {f cda cc D:Addr} {p0:Str} {st:Stmt} {N:List Str} (h:SupP X.prog X.K X.mg f cda cc D p0 (defScope st) N) (C:Cd X W k N (defScope st)) (S:CsK X f cda cc D st):SupT X f cda cc D p0:=by
 obtain ⟨fd,x,qual,dV,F,e⟩:=S.fd;refine ⟨h.lk,h.code,h.cell,h.clsD,h.any,h.top,h.sup,by rw [C.hsc]; exact h.ls,by rw [C.hsc]; exact h.lc,by rw [C.hsc]; exact h.l0,by rw [C.hN]; exact h.n0,by rw [e],by rw [e],?_⟩;rw [e]
 show ([(("__class__" : Str),cc)]:List (Str×Addr)).lookup ("__class__" : Str)=some cc;simp
end FL
namespace FL
open PySem PySem.Spec PyProof.Rows L2
def Sa (i:Int):Tx:=(toString i:Str).cps.toList
theorem IL (i:Int):toS (Sa i)=(toString i:Str):=by simp [Sa,toS]
end FL
namespace FL
open PySem PySem.Spec PyProof.Rows L2
def Qn:List D->Option Slot
 | [.int i]=>if i.natAbs.log2 < 1920 then some (.fr (.str (Sa i))) else none
 | _=>none
abbrev Aq:List V->Hp->VK->Prop:=fun xs H Q => ∃ i,xs=[.int i]/\i.natAbs.log2 < 1920/\Q (.str (toString i)) H
section
variable {X : Cx} {W : WX} {k : Nat} {N : List Str} {sc : Scope} {x : Str} {pos : Pos}
theorem CA:RLJ X Aq Qn:=by
 intro Z F ρ μ δ σ H xs ds s Q S b e q;unfold Qn at e
 split at e
 ·rename_i i
  by_cases c:i.natAbs.log2 < 1920
  ·rw [if_pos c] at e
   cases e;obtain ⟨v,rfl,hb⟩:=b.one;cases hb.int;refine ⟨i,rfl,c,?_⟩;rw [← IL];exact q _ H F .refl S (VR.fr' .str)
  ·rw [if_neg c] at e; cases e
 ·cases e
def Cz (K:PySem.W.Frag) (mg:Str->Option Value) (x:Str) (xs:List Tx):Prop :=
 ∃ (a:Addr) (o:Obj) (its:List Value) (n:Nat),mg x=some (.ref a)/\K.lookup a=some o/\o.cls = .type "tuple" /\ o.data = .seq its.toArray n/\StrsAre its (xs.map toS)/\xs.length<=sizeLine
theorem PH:∀ {its:List Value} {xs:List Tx},StrsAre its (xs.map toS)->Vals ((xs.map toS).map V.str) its
 | [],[],_=>.nil
 | _ :: _,x :: xs,h=>by
   cases h with
   | cons y t r=>exact .cons ⟨t,rfl⟩ (PH r)
 | [],_ :: _,h=>by cases h
 | _ :: _,[],h=>by cases h
theorem Cs.gTupS {xs:List Tx} (C:Cs X W k N sc) (h:Th sc x=true) (hm:Cz X.K X.mg x xs):JE X W (.Name x pos) (mD (.tup (xs.map .str))):=by
 obtain ⟨g1,g2,g3⟩:=C.gl h;obtain ⟨a,o,its,n,e1,e2,e3,e4,e5,e6⟩:=hm;refine Nf g1 e1 (v:=.ref a) rfl (fun F ρ=>.tup (vs:=(xs.map toS).map V.str) (.inr ⟨o,its.toArray,n,e2,e3,e4,?_,by simpa using PH e5⟩) (RepL.ofStrs _)) g2;have l:=(PH e5).length;rw [List.length_map,List.length_map] at l;rw [List.size_toArray,← l];exact e6
end
end FL
namespace FL
open PySem PySem.Spec PyProof.Rows L2
section
variable {K : PySem.W.Frag} {c f s : Str}
theorem FZ (h:tFld c f K=true):Cls K (He.ga K c)/\NoAttr K (He.ga K c) f :=
 let ⟨a,b⟩:=Bool.and_eq_true_iff.mp h
 ⟨He.cls_ok a,He.noat_ok b⟩
theorem FY (h:tCon c f s K=true):Cls K (He.ga K c)/\∃ u,Con K (He.ga K c) f (.str s) u:=by
 obtain ⟨a,b⟩:=Bool.and_eq_true_iff.mp h;refine ⟨He.cls_ok a,?_⟩
 split at b
 ·rename_i y t e
  obtain ⟨b1,b2⟩:=Bool.and_eq_true_iff.mp b;obtain ⟨b2,b3⟩:=Bool.and_eq_true_iff.mp b2;have b1:=of_decide_eq_true b1;subst b1;exact ⟨_,e,⟨t,rfl⟩,of_decide_eq_true b2,by simpa using b3⟩
 ·cases b
theorem FX (h:Bw c f K=true):Cls K (He.ga K c)/\PropOf K (He.ga K c) f (He.ma K (He.ga K c) f) (ZM K (c,some f)):=by
 obtain ⟨a,b⟩:=Bool.and_eq_true_iff.mp h;obtain ⟨b1,b⟩:=Bool.and_eq_true_iff.mp b;obtain ⟨b2,b⟩:=Bool.and_eq_true_iff.mp b;obtain ⟨b3,b⟩:=Bool.and_eq_true_iff.mp b;refine ⟨He.cls_ok a,of_decide_eq_true b1,of_decide_eq_true b2,of_decide_eq_true b3,?_⟩
 split at b
 ·rename_i g r e
  refine ⟨r,?_⟩;rw [e];have:ZM K (c,some f)=g:=by
   unfold ZM;rw [show He.fAd K (c,some f)=He.ma K (He.ga K c) f from rfl,e]
  rw [this]
 ·cases b
theorem Ru (h:Mj c f K=true):ZM K (c,some f)=He.ma K (He.ga K c) f:=of_decide_eq_true h
theorem Ob:∀ {vs:List Value} {xs:List Str},Mi vs xs=true->StrsAre vs xs
 | [],[],_=>.nil
 | .str y t :: vs,x :: xs,h=>by
   obtain ⟨a,b⟩:=Bool.and_eq_true_iff.mp (show (decide (y=x)&&Mi vs xs)=true from h);have a:=of_decide_eq_true a;subst a;exact .cons y t (Ob b)
 | [],_ :: _,h=>by cases h
 | v :: _,[],h=>by cases v <;> cases h
theorem FW {h:Heap} {mg:Str->Option Value} {x:Str} {xs:List Tx} (X:K.In h) (G:h.Ns mainGlobals mg) (t:tTup x (xs.map toS) K=true):Cz K mg x xs:=by
 unfold tTup at t
 split at t
 ·rename_i a e
  split at t
  ·rename_i T od its n sl lk
   obtain ⟨t1,t2⟩:=Bool.and_eq_true_iff.mp t;obtain ⟨t2,t3⟩:=Bool.and_eq_true_iff.mp t2;have t1:=of_decide_eq_true t1;subst t1;refine ⟨a,_,its.toList,n,PySem.W.mg_of X G e,lk,rfl,rfl,Ob t2,?_⟩;have t3:=of_decide_eq_true t3;rw [List.length_map] at t3;rw [YM];omega
  ·cases t
 ·cases t
theorem FV {D B:Str} (t:DJ c D B f K=true):∃ cdC og,PySem.W.clsIn K (He.ga K c)=some cdC/\PySem.W.alongIn K f ((cdC.mro.dropWhile (· != .ref (He.ga K D))).drop 1)=some (some (.ref (ZM K (B,some f))))/\K.lookup (ZM K (B,some f))=some og/\og.cls = .type "function" /\
  PySem.W.fnIn K (ZM K (B,some f))=true/\PySem.W.mroIn K (He.ga K c) (.ref (He.ga K D))=some true:=by
 obtain ⟨t1,t2⟩:=Bool.and_eq_true_iff.mp t;obtain ⟨t2,t3⟩:=Bool.and_eq_true_iff.mp t2;obtain ⟨t3,t4⟩:=Bool.and_eq_true_iff.mp t3
 split at t1
 ·rename_i cd e1
  split at t2
  ·rename_i T od dt sl e2
   have t2:=of_decide_eq_true t2;subst t2;exact ⟨cd,_,e1,of_decide_eq_true t1,e2,rfl,t3,of_decide_eq_true t4⟩
  ·cases t2
 ·cases t1
end
end FL
namespace FL.S
def Xq (δ:FL.Loc) (μ:Mem):OutS:=(Z4 (ZR (ZN (m2 (To false) (.v 3) (.e (mD (.str (lit "abcdefghijklmnopqrstuvwxyz0123456789")))))) (ZK 2 (m2 ZP (.v 2) (.v 3)))
  ZW)
  (ZR (VX (ZN (m2 (YC true) (.v 2) (.e (mD (.str (lit "")))))) (QT (ZN (m2 (To true) (.v 3) (.e (mD (.str (lit "abcdefghijklmnopqrstuvwxyz0123456789")))))) (ZN (m2 (YC false) (.e (mC Zt [(.v 2)])) (.e (mD (.int 20))))))) (Z4 (W6 (VS "list" Zp (.v 1) [(mV 2)]))
  (ZK 2 (mD (.str (lit "")))))
  ZW)) δ μ
def Yi (δ:FL.Loc) (μ:Mem):OutS:=(Z4 (UN 1 2 (ZQ []) (mD (.str (lit ""))))
  (Z4 (WD (Uc (mM "str" Uv (.v 0) [])) (Zq 3) Xq)
  (ZF (Tq (ZN (m2 (YC true) (.v 2) (.e (mD (.str (lit "")))))) (m2 ZP (.v 1) (.e (ZQ [(mV 2)]))) (D6 1))))) δ μ
def YG:MF:=Zu 4 (Yi)
end FL.S
namespace FL
open PySem L2
def sp (c:Nat):Nat:=if c∈WS then c else 32
def vS (x:Tx):List Tx:=(List.range ((x.length+19) / 20)).map fun i=>(x.drop (20 * i)).take 20
end FL
namespace FL
open PySem L2
section
variable {μ : Mem}
theorem TX {x:Tx}:Yc [.str x,.ty "str"]=some (tb true):=by simp [Yc,Dm,Gf]
theorem IK {x:Tx} (ha:∀ c∈x,c < 128) (hl:x.length<=1000):S.YG [.str x] μ = .ok (.own (.lst ((WK x).map .str))) μ:=by
 have ha':x.all (· < 128)=true:=List.all_eq_true.mpr fun c hc=>decide_eq_true (ha c hc);have hl2:x.length<=5592405:=by omega
 obtain ⟨s',e⟩:=Ry (t:=.str x) (μ:=μ) (x.map lo1) ([],[]) none (by simp; omega) (by simp; omega);have hlen:=K0 (x.map lo1) ([],[]);generalize hw:(x.map lo1).foldl Wv ([],[])=w at e hlen;obtain ⟨f,r⟩:=w;have hf:f.length+1<=16777216:=by simp at hlen; omega
 have gl:Uv (.str x) []=some (.fr (.str (x.map lo1))):=by simp [Uv,ha',hl2]
 have e0:(G2 (.str x) ([],[]) none)=[some (.fr (.str x)),some (.own (.lst [])),some (.fr (.str [])),none]:=rfl;rw [e0] at e;have hW:WK x=Gg (f,r):=by unfold WK PM; rw [hw]
 have e':Wn (Zv (Zq 3) S.Xq) (chars (x.map lo1)) [some (.fr (.str x)),some (.own (.lst [])),some (.fr (.str [])),none] μ = .nx [some (.fr (.str x)),some (.own (.lst (f.map .str))),some (.fr (.str r)),s'] μ:=e;rw [hW];by_cases hr:r=[]
 ·subst hr
  simp [S.YG,S.Yi,ZZ,U1,gl,e',Gg]
 ·simp [S.YG,S.Yi,ZZ,U1,gl,e',Gg,hr,hf]
end
end FL
namespace FL.S
def Yh (δ:FL.Loc) (μ:Mem):Out FL.Slot:=(m2 (To false) (.v 3) (.v 1)) δ μ
def Yp (δ:FL.Loc) (μ:Mem):OutS:=(ZF (X' (mC Yc [(.v 0),(.e (mD (.ty "str")))]) (X' (Vk Tv Tv (.e (mD (.int 1))) (.e (mC Zt [(.v 0)])) (.v 2)) (mC Tn [(.e (Tj (Uc (mV 0)) (Zq 3) Vx Yh [3]))])))) δ μ
def Zo:MF:=Zu 4 (Yp)
end FL.S
namespace FL
open PySem L2
section
variable {μ : Mem}
theorem KY {x s:Tx} {a b c:Option FL.Slot} (hl:x.length < 16777216):Sn (Zq 3) Vx S.Yh [3] (chars x) [] [a,some (.fr (.str s)),c,none] μ = .ok (.own (.lst ((x.map fun c=>decide (c∈s)).map .bl))) [a,some (.fr (.str s)),c,none] μ:=by
 have h:=Xr (f:=Zq 3) (t:=Vx) (m:=S.Yh) (vs:=[3]) (δ:=[a,some (.fr (.str s)),c,none]) (μ:=μ) (fun d=>match d with | .str [c]=>some (.bl (decide (c∈s))) | _=>none) (ds:=chars x) (acc:=[]) (fun d hd=>by
  obtain ⟨c,_,rfl⟩:=List.mem_map.mp hd;simp [PL,S.Yh]) (by simp [chars]; exact hl)
 rw [h];simp [chars,List.filterMap_map,Function.comp_def]
def Made (x s:Tx) (n:Int):Prop:=1<=x.length/\(x.length:Int)<=n/\∀ c∈x,c∈s
instance (x s : Tx) (n : Int) : Decidable (Made x s n) := inferInstanceAs (Decidable (_ /\ _))
theorem made_str {x s:Tx} {n:Int} (hl:x.length < 16777216):S.Zo [.str x,.str s,.int n] μ = .ok (.fr (.bl (decide (Made x s n)))) μ:=by
 have h:=KY (μ:=μ) (x:=x) (s:=s) (a:=some (.fr (.str x))) (c:=some (.fr (.int n))) (b:=none) hl;have hb:=RS (x.map fun c=>decide (c∈s));have hl':x.length<=16777216:=by omega
 have ga:Tn [.lst ((x.map fun c=>decide (c∈s)).map .bl)]=some (.fr (.bl (x.all fun c=>decide (c∈s)))):=by
  simp only [Tn,hb,Option.map_some];simp [List.all_map,Function.comp_def]
 by_cases h1:(1:Int)<=x.length
 ·by_cases h2:(x.length:Int)<=n
  ·have e:decide (Made x s n)=x.all fun c=>decide (c∈s):=by
    by_cases h3:∀ c∈x,c∈s
    ·rw [decide_eq_true (show Made x s n from ⟨by omega,h2,h3⟩)]
     exact (List.all_eq_true.mpr fun c hc=>decide_eq_true (h3 c hc)).symm
    ·rw [decide_eq_false (fun z:Made x s n=>h3 z.2.2)]
     refine (Bool.eq_false_iff.mpr fun z=>h3 fun c hc => ?_).symm;exact of_decide_eq_true (List.all_eq_true.mp z c hc)
   rw [e];generalize List.map D.bl (List.map (fun c=>decide (c∈s)) x)=L at h ga;simp [S.Zo,S.Yp,ZZ,TX,hl',h1,h2,h,ga]
  ·rw [decide_eq_false (fun z:Made x s n=>h2 z.2.1)]
   simp [S.Zo,S.Yp,ZZ,TX,hl',h1,h2]
 ·rw [decide_eq_false (fun z:Made x s n=>h1 (by have:=z.1; omega))]
  simp [S.Zo,S.Yp,ZZ,TX,hl',h1]
abbrev Wd (x:Tx):Prop:=Made x WS 20
end
end FL
namespace FL
open PySem PySem.Spec PyProof.Rows L2
open PySem.Froz (SD sObj TxOk addTx tailTx is_str add_ok add_x)
def inD (D:SD):List Str:=D.1.toList.map fun e=>strOf e.2
theorem FU (ep:Nat) (es:Array (Int×Value)) (t:SetTable) (b:Bool):(inD (tailTx ep es t b)).Perm (es.toList.map fun e=>strOf e.2):=by
 unfold tailTx
 split
 ·exact (relayAll_perm _ _ _).map _
 ·exact List.Perm.refl _
theorem IJ {ep:Nat} {es:Array (Int×Value)} {t:SetTable} {b:Bool} (r:Ris t.place.toList):Ris (tailTx ep es t b).2.2.place.toList:=by
 unfold tailTx
 split
 ·exact relayAll_ris _ _ _
 ·exact r
theorem II (ep:Nat) (es:Array (Int×Value)) (t:SetTable) (b:Bool):(tailTx ep es t b).2.2.led=t.led:=by
 unfold tailTx
 split
 ·exact relayAll_led _ _ _
 ·rfl
theorem FT (D:SD) (k:Str) (u:Tok) (h:Int):(inD (addTx h (.str k u) D)).Perm (k :: inD D):=by
 have hp:=(layNew_perm D.2.2 D.1 h (.str k u)).map fun e=>strOf e.2;rw [Array.toList_push,List.map_append] at hp;exact (FU ..).trans (hp.trans (List.perm_append_singleton _ _))
theorem FR (D:SD) (h:Int) (v:Value) (r:Ris D.2.2.place.toList):Ris (addTx h v D).2.2.place.toList:=by
 have one:=layNew_ris D.2.2 D.1 h v r;refine IJ ?_
 split <;> exact one
theorem FQ (D:SD) (h:Int) (v:Value):(addTx h v D).2.2.led=D.2.2.led:=by
 refine (II ..).trans (Eq.trans ?_ (layNew_led D.2.2 D.1 h v))
 split <;> rfl
structure TxSet (P:Program) (w:World) (h:Heap) (a:Addr) (l:List Str):Prop where
 ob:∃ D:SD,h.get? a=some (sObj "set" D)/\TxOk P w D l/\(inD D).Perm l/\Ris D.2.2.place.toList/\(w.params.followText "set-order" = true\/D.2.2.led=true)
 nd:l.Nodup
 few:l.length < scanBound
def Wl (l:List Str) (k:Str):List Str:=if k∈l then l else k :: l
theorem IH (l:List Str) (k:Str):(Wl l k).length<=l.length+1:=by
 unfold Wl
 split
 ·exact Nat.le_succ _
 ·exact Nat.le_refl _
theorem TxSet.at {P:Program} {w:World} {h h':Heap} {a:Addr} {l:List Str} (R:TxSet P w h a l) (k:∀ o,h.get? a=some o->h'.get? a=some o):TxSet P w h' a l :=
 let ⟨⟨D,g,r⟩,nd,few⟩:=R
 ⟨⟨D,k _ g,r⟩,nd,few⟩
section
variable {P : Program} {w : World} {A : Around} {E : Value -> Shared -> Prop} {s : Shared} {a : Addr} {l : List Str} {k : Str} {u : Tok}
theorem FP {D:SD} {T:String} {Q:Bool->Shared->Prop} (g:s.heap.get? a=some (sObj T D)) (F:TxOk P w D l) (hk:k∈l) (hb:l.length < scanBound) (h:Q false s) :
  wpAny (model P w) A (setAddHashed a (.str k u) (hashStr w k)) Q E s:=by
 obtain ⟨es,ep,t⟩:=D;have fit:t.fits es.size=true:=F.fit;have els:ElemsOf (strKind P w) es.toList:=F.el;have data:(sObj T (es,ep,t)).data = .set es ep t:=rfl;have big:es.size < scanBound:=by have z:es.size=l.length:=F.sz; omega
 unfold setAddHashed setAddHashedIn;refine wpAny_holding (wpAny_bind (wpAny_setState_of g data fit ?_));dsimp only;rw [byScan_of (x:=.str k u) rfl big els];simp only [↓reduceIte];unfold setAddByScan;refine wpAny_bind (wpAny_bind (wpAny_rule (wpAny_bind (wpAny_setScan_of (knd:=strKind P w) (k:=k) (is_str k u) g data fit els ?_))));obtain ⟨e,he,q⟩:=(F.mem k).mp hk;cases fi:List.findIdx? (fun e=>(strKind P w).is k e.2) es.toList with
 | none=>exact absurd q (by rw [List.findIdx?_eq_none_iff.mp fi e he]; exact Bool.false_ne_true)
 | some j=>exact wpAny_pure (wpAny_pure h)
theorem FO {Q:Bool->Shared->Prop} (R:TxSet P w s.heap a l) (room:l.length+1 < scanBound)
  (h:∀ b h',Heap.SameBut a s.heap h'->TxSet P w h' a (Wl l k)->Q b { s with heap:=h' }):wpAny (model P w) A (setAddHashed a (.str k u) (hashStr w k)) Q E s:=by
 obtain ⟨⟨D,g,F,pm,r,ld⟩,nd,few⟩:=R;by_cases hk:k∈l
 ·have e:Wl l k=l:=if_pos hk
  rw [e] at h;exact FP g F hk few (h false s.heap (Heap.SameBut.refl a s.heap) ⟨⟨D,g,F,pm,r,ld⟩,nd,few⟩)
 ·have e:Wl l k=k :: l:=if_neg hk
  rw [e] at h;refine add_x g F hk room (h true _ (Heap.SameBut.update s.heap a _) ⟨⟨addTx (hashStr w k) (.str k u) D,PySem.Froz.get_upd _ g rfl,add_ok u F,(FT D k u _).trans (pm.cons k),FR D _ _ r,?_⟩,List.nodup_cons.mpr ⟨hk,nd⟩,room⟩);rw [FQ];exact ld
end
section
variable {prog : Program} {w : World} {A : Around} {R : Result -> Shared -> Prop} {I : Addr} {fp wr : List Addr} {G : Array GenState -> Array GenState -> Prop} {n : Nat} {P : Nat -> Value -> Prop} {St : Nat -> Shared -> Prop}
theorem Oa:∀ (ys l:List Str),(ys.foldl Wl l).length<=l.length+ys.length
 | [],l=>Nat.le_refl _
 | y :: ys,l=>by
   have a:=Oa ys (Wl l y);have b:=IH l y;rw [List.foldl_cons,List.length_cons];omega
theorem upd_loop (W:WalksS prog w A.in1 I fp wr G n P St) {S:Addr} (out:S∉fp) {xs:List Str} (hx:xs.length=n) (hv:∀ i v,P i v->∃ x t,xs[i]?=some x/\v = .str x t) (hb:n+1 < scanBound) :
  ∀ (m i:Nat) (s:Shared),n - i=m->i<=n->St i s->TxSet prog w s.heap S ((xs.take i).foldl Wl []) ->
   (∀ s',Moved (S :: wr) G s s'->TxSet prog w s'.heap S (xs.foldl Wl [])->R (.ok (.ret .none)) s') ->
   codeAny (model prog w) A (.builtin "set.update.loop" ⟨[.ref S,.ref I],[]⟩) R s:=by
 have out':S∉wr:=fun z=>out (W.sub _ z);have more:∀ b∈wr,b∈S :: wr:=fun b z=>List.mem_cons_of_mem _ z;intro m
 induction m with
 | zero =>
   intro i s hm hi st T fin;have full:xs.take i=xs:=List.take_of_length_le (by omega);rw [full] at T;have last:i=n:=by omega
   subst last;refine codeAny_builtin F.entry_set_update_loop (A:=A) ?_;rw [Around.under_plainId F.plain_set_update_loop _]
   show wpAny _ A.in1 (pyNext (.ref I) >>= _) _ _ s;exact wpAny_bind (W.done s _ _ st fun s' mv=>wpAny_pure (fin s' (mv.mono more) (T.at fun o z=>mv.heap S o out' z)))
 | succ m ih =>
   intro i s hm hi st T fin;have lt:i < n:=by omega
   refine codeAny_builtin F.entry_set_update_loop (A:=A) ?_;rw [Around.under_plainId F.plain_set_update_loop _]
   show wpAny _ A.in1 (pyNext (.ref I) >>= _) _ _ s;refine wpAny_bind (W.item i s _ _ lt st fun v s' hP st' mv => ?_);obtain ⟨x,t,hxi,rfl⟩:=hv i v hP;have T':=T.at fun o z=>mv.heap S o out' z
   show wpAny _ A.in1 (holding [Value.str x t] (setAdd S (.str x t)) >>= _) _ _ s';refine wpAny_bind (wpAny_holding ?_);unfold setAdd;refine wpAny_holding (wpAny_bind ((strKind prog w).pyHash (k:=x) (is_str x t) ?_));have room:((xs.take i).foldl Wl []).length+1 < scanBound:=by
    have z:=Oa (xs.take i) [];have z2:=List.length_take_le i xs;simp only [List.length_nil] at z;omega
   refine FO (s:={ s' with toks:=s'.toks+1 }) T' room fun b h' same T2 => ?_;have e2:(xs.take (i+1)).foldl Wl []=Wl ((xs.take i).foldl Wl []) x:=by
    rw [List.take_add_one,hxi,List.foldl_append];rfl
   rw [← e2] at T2;refine wpAny_pure ⟨plainId_quiet F.plain_set_update_loop _,ih (i+1) _ (by omega) lt (W.frame _ s' _ _ st' (Nat.le_succ _) fun c hc o z => ?_) T2 fun s2 mv2 T3 => ?_⟩
   ·exact (same.2 c fun e=>out (e▸hc)).trans z
   ·exact fin s2 (Moved.trans W.gtrans ((mv.mono more).then_heap (Nat.le_succ _) fun c o hc z=>(same.2 c fun e=>hc (by rw [e]; exact List.mem_cons_self ..)).trans z) mv2) T3
end
def newD (w:World):SD:=(#[],0,.fresh 0 0 (!w.params.followText "set-order"))
theorem FN {P:Program} {w:World} {h:Heap} {a:Addr} (e:h.get? a=some (sObj "set" (newD w))):TxSet P w h a []:=by
 refine ⟨⟨newD w,e,.nil rfl,List.Perm.refl _,List.Pairwise.nil,?_⟩,List.nodup_nil,by decide⟩
 show _\/(!w.params.followText "set-order")=true;cases w.params.followText "set-order"
 ·exact .inr rfl
 ·exact .inl rfl
theorem N':∀ {us:List Value} {xs:List Str},StrsAre us xs->∀ (i:Nat) (v:Value),us[i]?=some v->∃ x t,xs[i]?=some x/\v = .str x t
 | _,_,.nil,i,v,h=>by simp at h
 | _,_,.cons x t r,0,v,h=>by
   simp only [List.getElem?_cons_zero,Option.some.injEq] at h;exact ⟨x,t,rfl,h.symm⟩
 | _,_,.cons x t r,i+1,v,h=>by
   simp only [List.getElem?_cons_succ] at h ⊢;exact N' r i v h
section
variable {P : Program} {w : World} {A : Around} {E : Value -> Shared -> Prop} {s : Shared}
set_option maxHeartbeats 4000000 in
theorem KW {l:Addr} {its:Array Value} {xs:List Str} {Q:Value->Shared->Prop} (hh:A.handled=none) (hl:s.heap.IsList l its) (hx:StrsAre its.toList xs) (hb:xs.length+1 < scanBound)
  (q:∀ (h':Heap) (tk:Nat),TxSet P w h' s.heap.objs.size (xs.foldl Wl [])->(∀ b o,s.heap.get? b=some o->h'.get? b=some o)->Q (.ref s.heap.objs.size) { s with heap:=h',toks:=tk }) :
  wpAny (model P w) A (call (.type "set") [.ref l]) Q E s:=by
 have cnt:its.size=xs.length:=by
  have z:=StrsAre.length hx;rwa [Array.length_toList] at z
 obtain ⟨c,tl,mro⟩:=F.called_set.mro;have made:=F.called_set.made;have sub:=F.called_set.sub;refine wpAny_call (codeAny_of_tree (show wpAny _ _ (callAny (.type "set") _) _ _ _ from ?_));refine wpAny_pure ⟨Code.quiet_builtin _ (by decide +kernel),codeAny_builtin F.entry_type_call (R:=_) ?_⟩;rw [Around.under_plain (weight_type_call_type "set" [Value.ref l] []) rfl];have g1:=F.called_set.notType;have g2:=F.called_set.canCreate;have g3:=F.typeCall_set_1 (Value.ref l)
 repeat (any_goals first | assumption | wp_step)
 refine codeAny_mono (code_set_led1 (.ref l) (E:=E) (Q₁:=fun v s1=>v = .ref s.heap.objs.size/\s1={ s with heap:=s.heap.push (sObj "set" (newD w)) }) ⟨rfl,rfl⟩) fun r s1 hr => ?_;cases r with
 | error e=>exact hr
 | ok fl =>
   cases fl with
   | ret v =>
     obtain ⟨rfl,rfl⟩:=hr;have at_:(s.heap.push (sObj "set" (newD w))).get? s.heap.objs.size=some (sObj "set" (newD w)):=Heap.get?_push_size _ rfl;have ty:Shared.TypeIs { s with heap:=s.heap.push (sObj "set" (newD w)) } (.ref s.heap.objs.size) "set":=⟨_,at_,rfl⟩;have i1:=F.called_set.init.lookup;have i2:=F.called_set.init.bind (.ref s.heap.objs.size)
     repeat (any_goals first | assumption | wp_step)
     refine codeAny_mono (codeAny_call_builtin (R:=wants (fun v s2=>v = .none/\∃ h' tk,s2={ s with heap:=h',toks:=tk }/\TxSet P w h' s.heap.objs.size (xs.foldl Wl []) /\
       (∀ b o,s.heap.get? b=some o->h'.get? b=some o)) E) F.called_set.init.plain F.entry_set_init (check_set_init_1 ty ?_)) fun r2 s2 hr2 => ?_
     ·obtain ⟨ol,e1,e2,nl,e3⟩:=hl
      obtain ⟨oc,od,ob,os⟩:=ol;simp only at e2 e3;subst e2; subst e3;have lat:(s.heap.push (sObj "set" (newD w))).get? l=some { cls:=.type "list",dict:=od,data:=.seq its nl,slots:=os }:=Heap.get?_push_of_some _ e1;have f1:=F.sub_list_set;have f2:=F.sub_list_frozenset;have f3:(Value.type "list" == Value.type "dict")=false:=by decide
      have isl:(s.heap.push (sObj "set" (newD w))).IsList l its:=⟨_,lat,rfl,nl,rfl⟩;unfold Builtin.«set.__init__» noKeywords Builtin.Frozenset.updateFrom;generalize hp:pyIter=piter
      wp_walk
      subst hp;refine wpAny_pyIter_list isl (wpAny_bind (wpAny_runValue ?_));have below:l < s.heap.objs.size:=Heap.lt_size e1;have z1:(s.heap.push (sObj "set" (newD w))).objs.size=s.heap.objs.size+1:=Heap.size_push ..;have nI:l≠(s.heap.push (sObj "set" (newD w))).objs.size:=by rw [z1]; exact Nat.ne_of_lt (Nat.lt_succ_of_lt below)
      have nS:s.heap.objs.size∉[(s.heap.push (sObj "set" (newD w))).objs.size,l]:=by
       rw [z1];intro z;rcases List.mem_cons.mp z with z | z
       ·exact absurd z (Nat.ne_of_lt (Nat.lt_succ_self _))
       ·exact absurd (List.mem_singleton.mp z).symm (Nat.ne_of_lt below)
      refine upd_loop ((Walks.list (A:=A.in1.in1.in1) (by simp [hh]) _ l nI its).toS) nS (xs:=xs) cnt.symm (fun i v e=>N' hx i v (by rw [Array.getElem?_toList]; exact e)) (by rw [cnt]; exact hb) (its.size - 0) 0 _ rfl (Nat.zero_le _)
       ?place ?first fun s3 mv T => ?_
      case place=>exact ⟨⟨_,Heap.get?_push_size _ rfl,rfl,rfl⟩,isl.push _⟩
      case first=>exact FN (Heap.get?_push_of_some _ at_)
      obtain ⟨h3,g3,d3,t3,o3⟩:=s3;have eg:g3=s.gens:=mv.gens;have ed:d3=s.drawn:=mv.drawn;have eo:o3=s.os:=mv.os;subst eg; subst ed; subst eo
      show wpAny _ _ _ _ _ _;refine wpAny_pure ?_
      show wpAny _ _ (ret Value.none) _ _ _;refine wpAny_pure ⟨rfl,h3,t3,rfl,T,fun b o e=>mv.heap b o ?_ (Heap.get?_push_of_some _ (Heap.get?_push_of_some _ e))⟩;have lo:=Heap.lt_size e;intro z;rcases List.mem_cons.mp z with z | z
      ·exact absurd z (Nat.ne_of_lt lo)
      ·have z:=List.mem_singleton.mp z
       rw [z1] at z;exact absurd z (Nat.ne_of_lt (Nat.lt_succ_of_lt lo))
     ·cases r2 with
      | error e=>exact hr2
      | ok fl2 =>
        cases fl2 with
        | ret v2 =>
          obtain ⟨rfl,h3,t3,rfl,T,kp⟩:=hr2
          repeat (any_goals first | assumption | wp_step)
          exact q h3 t3 T kp
        | _=>exact hr2.elim
   | _=>exact hr.elim
end
end FL
namespace FL
open PySem PySem.Spec PyProof.Rows L2 SrtO
open PySem.Froz (SD sObj TxOk addTx tailTx is_str add_ok add_x)
def LO (P:Program) (w:World) (a:Addr) (l:List Str):HO:=.ext fun h=>TxSet P w h a l
theorem KU {w:World} {P:Program} {H:Hp} {h:Heap} {a:Addr} {l:List Str} (R:TxSet P w h a l):ObjOk P w H h a (LO P w a l):=by
 have ⟨⟨D,g,_⟩,_,_⟩:=R;exact ⟨R,⟨_,g⟩,fun h1 h2 p k=>TxSet.at p k⟩
def DZ (K:PySem.W.Frag) (P:Program) (w:World):List V->Hp->VK->Prop:=fun xs H Q => ∃ (l:Addr) (ys:List Str),xs=[V.ref l]/\SqL K H l (ys.map V.str)/\ys.length+1 < scanBound /\
 ∀ a,H a=none->Q (.ref a) (upd H a (LO P w a (ys.foldl Wl [])))
section
variable {X : Cx}
theorem FJ (hc:X.calm=true):CallR X (.type "set") (DZ X.K X.prog X.w):=by
 intro pins s σ H xs us Q I r h;obtain ⟨l,ys,rfl,hl,few,q⟩:=h;rw [Vals.ref1 r];obtain ⟨its,rv,pl,hz⟩:=I.list hl;refine KW (P:=X.prog) (w:=X.w) (xs:=ys) (I.ok.hd hc) pl.isList (by simpa using strsAre_of rv) few fun h' tk T kp => ?_;exact ⟨.ref s.heap.objs.size,upd H s.heap.objs.size (LO X.prog X.w s.heap.objs.size (ys.foldl Wl [])),I.laid (t':=tk) kp (Nat.le_refl _) (KU T),rfl,q _ (I.hok.fresh (Nat.le_refl _))⟩
end
def MY:D->Tx
 | .str x=>x
 | _=>[]
def IG:D->Bool
 | .str _=>true
 | _=>false
def N_ (l:List Tx) (k:Tx):List Tx:=if k∈l then l else k :: l
theorem FI (l:List Tx) (k:Tx):Wl (l.map toS) (toS k)=(N_ l k).map toS:=by
 unfold Wl N_;have inj:toS k∈l.map toS↔k∈l:=by
  constructor
  ·intro h
   obtain ⟨y,hy,e⟩:=List.mem_map.mp h;have e:y=k:=by simpa [toS] using congrArg (fun s:Str=>s.cps.toList) e
   exact e▸hy
  ·exact fun h=>List.mem_map.mpr ⟨k,h,rfl⟩
 by_cases h:k∈l
 ·rw [if_pos h,if_pos (inj.mpr h)]
 ·rw [if_neg h,if_neg (fun z=>h (inj.mp z))]
  rfl
theorem N9:∀ (xs l:List Tx),(xs.map toS).foldl Wl (l.map toS)=(xs.foldl N_ l).map toS
 | [],l=>rfl
 | x :: xs,l=>by
   rw [List.map_cons,List.foldl_cons,FI,N9 xs];rfl
theorem IF:∀ {xs:List D},xs.all IG=true->xs=(xs.map MY).map .str
 | [],_=>rfl
 | x :: xs,h=>by
   rw [List.all_cons,Bool.and_eq_true] at h;cases x <;> first | (exact absurd h.1 Bool.false_ne_true) | skip
   rw [List.map_cons,List.map_cons,← IF h.2];rfl
theorem N8 {K:PySem.W.Frag} {mg:Str->Option Value} {F:Hp} {ρ:List Addr}:∀ {xs:List Tx} {vs:List V},RepL K mg F ρ vs (xs.map .str)->vs=(xs.map toS).map V.str
 | [],_,.nil=>rfl
 | x :: xs,_,.cons h t=>by
   cases h;rw [N8 t];rfl
end FL
namespace FL
open PySem PySem.Spec PyProof.Rows L2 LamX
theorem Cy {P:Program} {w:World} {K:PySem.W.Frag} {mg:Str->Option Value} {base:Heap} {k n:Nat} {f cda cc Dc:Addr} {x qual:Str} {st:Stmt} {fd:FuncData} {N ps:List Str} {m:MS} {dV:Value} {sc:Scope} (F:FdC K x qual st f fd dV cda cc Dc) (S:ClsScope N ps sc) (hsc:defScope st=sc) (hn:ps.length=n)
  (hbody:∀ (X:Cx) (W:WX),X.prog=P->X.w=w->X.K=K->X.mg=mg->X.base=base->Cd X W k N sc->(∀ p0,SupP X.prog X.K X.mg f cda cc Dc p0 sc N->SupT X f cda cc Dc p0)->AH X W (defBody st) (defBody st) m):FnG P w K mg base (L2.CX P w) (k+1) f fd ps (spM K mg (Zu N.length m) n):=by
 subst hsc;exact AG F S hn fun X W h1 h2 h3 h4 h5 C Z=>hbody X W h1 h2 h3 h4 h5 C fun p0 h=>h.t C Z
structure FdK (K:PySem.W.Frag) (x qual:Str) (st:Stmt) (f:Addr) (kV:Value) (cda cc:Addr) (fd:FuncData):Prop where
 ex:∃ (oc:Value) (od:Option Addr) (doc pm:Value) (an:Option Addr) (ct:Value) (osl:Array (Option Value)),
  fd=PySem.W.ksFn x qual (defArgs st) (defBody st) (defScope st) .none kV doc pm an (.ref cda) ct cc/\K.lookup f=some { cls:=oc,dict:=od,data:=.func fd,slots:=osl }
 cd:PySem.W.codeIn K (.ref cda) qual=true
section
variable {fs : List (PySem.W.Frag -> Bool)} {ds : List Dsc} {ts : Ml} {K : PySem.W.Frag}
theorem HkSays.fk (c:HkSays fs ds ts K) (i:Nat) {d:Dsc} (h:ds[i]?=some d) (hc:d.clo=([("__class__" : Str)]:List Str)) (hn:d.nd=true:=by rfl):∃ fd,FdK K d.x d.qual d.st (ZM K d.p) (G0 K d.p) (Y_ K d.p) (UO K d.p) fd:=by
 obtain ⟨oc,od,osl,kV,doc,pm,an,cdv,ct,clo,e1,e2,e3⟩:=c.fn i h hn;rw [hc] at e1
 match clo,e1 with
 | [(y,cc)],e1 =>
   have e1:y=("__class__" : Str):=(List.cons.inj (show [y]=([("__class__" : Str)]:List Str) from e1)).1;subst e1;cases cdv with
   | ref cda =>
     have k1:G0 K d.p=kV:=by unfold G0; rw [e2]
     have k2:UO K d.p=cc:=by unfold UO; rw [e2]
     have k3:Y_ K d.p=cda:=by unfold Y_; rw [e2]
     rw [k1,k2,k3];exact ⟨_,⟨oc,od,doc,pm,an,ct,osl,rfl,e2⟩,e3⟩
   | _=>cases e3
theorem HkSays.fl (c:HkSays fs ds ts K) (i:Nat) {d:Dsc} (h:ds[i]?=some d) (hc:d.clo=[]) (hn:d.nd=true:=by rfl):∃ fd,FdL K d.x d.qual d.st (ZM K d.p) fd .none (Y_ K d.p):=by
 obtain ⟨oc,od,osl,kV,doc,pm,an,cdv,ct,clo,e1,e2,e3⟩:=c.fn i h hn;rw [hc] at e1;have e1:clo=[]:=List.map_eq_nil_iff.mp e1;subst e1;cases cdv with
 | ref cda =>
   have k3:Y_ K d.p=cda:=by unfold Y_; rw [e2]
   rw [k3];exact ⟨_,oc,od,kV,doc,pm,an,ct,osl,rfl,e2,e3⟩
 | _=>cases e3
end
structure CellOk (K:PySem.W.Frag) (cda cc D:Addr) (file:Str):Prop where
 cell:∃ cl cld csl,K.lookup cc=some { cls:=cl,dict:=cld,data:=.cell (some (.ref D)),slots:=csl }
 code:∃ ccl cdd vs ccs fl tf,K.lookup cda=some { cls:=ccl,dict:=cdd,data:=.fields vs,slots:=ccs }/\vs[2]?=some (.str fl tf)/\(file == fl)=true
 clsD:∃ cdD,PySem.W.clsIn K D=some cdD
 any:PySem.W.nsIn K cStatics "thirdparty.any" = some none
theorem Xp {K:PySem.W.Frag} {c m file:Str} (h:tCell c m file K=true):CellOk K (Y_ K (c,some m)) (UO K (c,some m)) (He.ga K c) file:=by
 obtain ⟨h1,h⟩:=Bool.and_eq_true_iff.mp h;obtain ⟨h2,h⟩:=Bool.and_eq_true_iff.mp h;obtain ⟨h3,h4⟩:=Bool.and_eq_true_iff.mp h;refine ⟨?_,?_,Option.isSome_iff_exists.mp h3,of_decide_eq_true h4⟩
 ·split at h1
  ·rename_i cl cld v csl e
   have h1:=of_decide_eq_true h1;subst h1;exact ⟨_,_,_,e⟩
  ·cases h1
 ·split at h2
  ·rename_i ccl cdd vs ccs e
   split at h2
   ·rename_i f tf e2
    exact ⟨_,_,_,_,_,_,e,e2,h2⟩
   ·cases h2
  ·cases h2
theorem FdK.fc {K:PySem.W.Frag} {x qual:Str} {st:Stmt} {f:Addr} {kV:Value} {cda cc D:Addr} {fd:FuncData} {file:Str} (F:FdK K x qual st f kV cda cc fd) (C:CellOk K cda cc D file):FdC K x qual st f fd .none cda cc D :=
 let ⟨oc,od,doc,pm,an,ct,osl,h1,h2⟩:=F.ex
 ⟨⟨oc,od,kV,doc,pm,an,ct,osl,h1,h2⟩,F.cd,C.cell⟩
theorem FH {P:Program} {mg:Str->Option Value} {K:PySem.W.Frag} {x qual p0:Str} {st:Stmt} {f:Addr} {kV:Value} {cda cc D:Addr} {fd:FuncData} {N:List Str} {sc:Scope} (F:FdK K x qual st f kV cda cc fd) (C:CellOk K cda cc D P.main.file) (sup:mg "super" = none) (hsc:defScope st=sc)
  (self:∃ ar,((defArgs st).posonlyargs++(defArgs st).args).head?=some ar/\ar.arg=p0) (top:(P.main.scope.names.lookup ("super" : Str)).isSome=false) (ls:sc.names.lookup ("super" : Str)=some .globalImplicit)
  (lc:sc.names.lookup ("__class__" : Str)=some .free) (l0:sc.names.lookup p0=some .local) (n0:N[0]?=some p0):SupP P K mg f cda cc D p0 sc N:=by
 subst hsc;obtain ⟨oc,od,doc,pm,an,ct,osl,h1,h2⟩:=F.ex;obtain ⟨ar,s1,s2⟩:=self;exact ⟨⟨_,fd,ar,h2,rfl,by rw [h1]; exact s1,s2⟩,C.code,C.cell,C.clsD,C.any,top,sup,ls,lc,l0,n0⟩
theorem ZU {K:PySem.W.Frag} {h:Heap} {mg:Str->Option Value} {x:Str} (X:K.In h) (G:h.Ns mainGlobals mg) (t:Sr x K=true):mg x=some (.ref (ZM K (x,none)))/\PySem.W.keepIn K (.ref (ZM K (x,none)))=true:=by
 obtain ⟨t1,t⟩:=Bool.and_eq_true_iff.mp t;obtain ⟨t2,t3⟩:=Bool.and_eq_true_iff.mp t;rw [of_decide_eq_true t3];exact ⟨He.glo_ok X G t1,He.keep_ok t2⟩
theorem FdK.bind1 {K:PySem.W.Frag} {x qual:Str} {st:Stmt} {f:Addr} {kV:Value} {cda cc:Addr} {fd:FuncData} {ps ks:List Str} {n:Nat} {sel:List Sel} {dw:List Value} (F:FdK K x qual st f kV cda cc fd)
  (h:∀ (doc pm:Value) (an:Option Addr) (cdv ct:Value) (cc:Addr),VQ K (PySem.W.ksFn x qual (defArgs st) (defBody st) (defScope st) .none kV doc pm an cdv ct cc) ps n ks sel dw):VQ K fd ps n ks sel dw:=by
 obtain ⟨oc,od,doc,pm,an,ct,osl,h1,h2⟩:=F.ex;rw [h1];exact h _ _ _ _ _ _
theorem yt {P:Program} {w:World} {K:PySem.W.Frag} {h:Heap} {mg:Str->Option Value} {base:Heap} {c at_:String} {st:Stmt} {p0 p1:Str} {q:Nat->Pos} {sc:Scope} {qual:Str} {kV:Value} {fd:FuncData} (S:SupS P st p0 p1 (Str.ofString at_) q sc) (hm:mg (Str.ofString c)=some (.ref (He.ga K (Str.ofString c)))) (hsup:mg "super" = none)
  (T:J9 (Str.ofString c) (Str.ofString at_) K=true) (F:FdK K "__init__" qual st (ZM K (Str.ofString c,some "__init__")) kV (Y_ K (Str.ofString c,some "__init__")) (UO K (Str.ofString c,some "__init__")) fd) (C:CellOk K (Y_ K (Str.ofString c,some "__init__")) (UO K (Str.ofString c,some "__init__")) (He.ga K (Str.ofString c)) P.main.file)
  (hb:∀ (kV doc pm:Value) (an:Option Addr) (cdv ct:Value) (cc:Addr) (us:List Value),us.length=[p0,p1].length->bindArgs (PySem.W.ksFn "__init__" qual (defArgs st) (defBody st) (defScope st) .none kV doc pm an cdv ct cc) ⟨us,[]⟩=pure ([p0,p1].zip us)):Xc P w K mg base c at_:=by
 obtain ⟨t0,T⟩:=Bool.and_eq_true_iff.mp T;obtain ⟨t1,T⟩:=Bool.and_eq_true_iff.mp T;obtain ⟨t2,T⟩:=Bool.and_eq_true_iff.mp T;obtain ⟨t3,T⟩:=Bool.and_eq_true_iff.mp T;obtain ⟨t4,T⟩:=Bool.and_eq_true_iff.mp T;obtain ⟨t5,T⟩:=Bool.and_eq_true_iff.mp T;obtain ⟨t6,T⟩:=Bool.and_eq_true_iff.mp T;obtain ⟨t7,T⟩:=Bool.and_eq_true_iff.mp T;obtain ⟨t8,T⟩:=Bool.and_eq_true_iff.mp T;obtain ⟨t9,t10⟩:=Bool.and_eq_true_iff.mp T;obtain ⟨ccl,cdd,vs,ccs,fl,tf,lcd,hvs,hfile⟩:=C.code;obtain ⟨cl,cld,csl,lcc⟩:=C.cell;obtain ⟨oc,od,doc,pm,an,ct,osl,rfl,lI⟩:=F.ex
 split at t0
 ·rename_i T dd cd sl ho
  split at t0
  ·rename_i C' bm k0 k1 k2 k3 n k5 hmr hs
   simp only [Bool.and_eq_true,beq_iff_eq,Bool.not_eq_true',decide_eq_true_eq] at t0;obtain ⟨hT,hC',hn,hdel,hd,hbm⟩:=t0;subst hT hn;obtain ⟨nm,bs,mro,ns,qn,hdct,sn,sub,ab,col,del⟩:=cd;dsimp only at hmr hdel hd;subst hmr hdel hd;have hsl:sl = #[k0,k1,k2,k3,some (.builtin "ValueError.__new__"),k5]:=by
    obtain ⟨l⟩:=sl;simp only at hs;rw [hs]
   subst hsl;rw [hC'] at ho;exact AR S hm hsup ho hbm (of_decide_eq_true t1) (of_decide_eq_true t2) (of_decide_eq_true t3) t4 (of_decide_eq_true t5) (of_decide_eq_true t6) lI F.cd lcd hvs hfile lcc C.any (of_decide_eq_true t7) (of_decide_eq_true t8) (of_decide_eq_true t9) (of_decide_eq_true t10) (hb _ _ _ _ _ _ _)
  ·cases t0
 ·cases t0
theorem KS {K:PySem.W.Frag} {h:Heap} {mg:Str->Option Value} (X:K.In h) (G:h.Ns mainGlobals mg):∀ (t:Mh),J2 t K=true->PY K mg (Ot t):=by
 intro t
 induction t with
 | nil=>intro _ c f C n; exact absurd rfl n
 | cons e t ih =>
   intro ht c f C n hC;obtain ⟨h1,h2⟩:=Bool.and_eq_true_iff.mp (show (J6 e K&&t.all fun e=>J6 e K)=true from by simpa [J2] using ht);obtain ⟨c',f',o⟩:=e;by_cases hc:c=c'/\f=f'
   ·obtain ⟨rfl,rfl⟩:=hc
    have e1:Ot ((c,f,o) :: t) c f=AB o:=by simp [Ot]
    rw [e1];obtain ⟨g1,g2⟩:=Bool.and_eq_true_iff.mp h1;have g1:=He.glo_ok X G g1;rw [hC] at g1;cases g1;cases o with
    | none =>
      obtain ⟨a,b⟩:=FZ g2;exact ⟨a,b⟩
    | some s =>
      obtain ⟨a,u,b⟩:=FY g2;refine ⟨a,_,u,b,fun F ρ => ?_⟩;rw [U7];exact .str
   ·have e1:Ot ((c',f',o) :: t) c f=Ot t c f:=by simp [Ot,hc]
    rw [e1] at n ⊢;exact ih h2 c f C n hC
def Cw (K:PySem.W.Frag) (mg:Str->Option Value) (t:RH):Prop:=∀ c f b,Oq t c f=some b->∀ C,mg (Str.ofString c)=some (.ref C)->Cls K C/\∃ p,PropOf K C (Str.ofString f) p (ZM K (Str.ofString b,some (Str.ofString f)))
theorem FG {K:PySem.W.Frag} {h:Heap} {mg:Str->Option Value} (X:K.In h) (G:h.Ns mainGlobals mg):∀ (t:RH),J0 t K=true->Cw K mg t:=by
 intro t
 induction t with
 | nil=>intro _ c f b n; cases n
 | cons e t ih =>
   intro ht c f b n C hC;obtain ⟨h1,h2⟩:=Bool.and_eq_true_iff.mp (show (J1 e K&&t.all fun e=>J1 e K)=true from by simpa [J0] using ht);obtain ⟨c',f',b'⟩:=e;by_cases hc:c=c'/\f=f'
   ·obtain ⟨rfl,rfl⟩:=hc
    have e1:Oq ((c,f,b') :: t) c f=some b':=by simp [Oq]
    rw [e1] at n;cases n;obtain ⟨g1,g2⟩:=Bool.and_eq_true_iff.mp h1;obtain ⟨g2,g3⟩:=Bool.and_eq_true_iff.mp g2;have g1:=He.glo_ok X G g1;rw [hC] at g1;cases g1;obtain ⟨a,p⟩:=FX g2;have g3:=of_decide_eq_true g3;dsimp only at g3;rw [g3] at p;exact ⟨a,_,p⟩
   ·have e1:Oq ((c',f',b') :: t) c f=Oq t c f:=by simp [Oq,hc]
    rw [e1] at n;exact ih h2 c f b n C hC
def Ap (t:RH) (gm:String->String->Option MF):String->String->Option MF:=fun c f=>(Oq t c f).bind fun b=>gm b f
theorem IE {P:Program} {w:World} {K:PySem.W.Frag} {mg:Str->Option Value} {base:Heap} {j:Nat} {t:RH} {gm:String->String->Option MF} (B:Cw K mg t)
  (hg:∀ b f m,gm b f=some m->∃ fd nm,FnG P w K mg base (L2.CX P w) j (ZM K (Str.ofString b,some (Str.ofString f))) fd [nm] (spM K mg m 1)/\Binds K fd [nm] []):PropR P w K mg base j (Ap t gm):=by
 intro c f m h C hC;obtain ⟨b,e1,e2⟩:=Option.bind_eq_some_iff.mp h;obtain ⟨cl,p,hp⟩:=B c f b e1 C hC;obtain ⟨fd,nm,F,bb⟩:=hg b f m e2;exact ⟨cl,p,_,fd,nm,hp,F,bb⟩
def Cv (K:PySem.W.Frag) (mg:Str->Option Value) (c f:String) (D g:Addr):Prop:=∀ C,mg (Str.ofString c)=some (.ref C)->∃ og cdC,PySem.W.clsIn K C=some cdC/\PySem.W.alongIn K (Str.ofString f) ((cdC.mro.dropWhile (· != .ref D)).drop 1)=some (some (.ref g)) /\
  K.lookup g=some og/\og.cls = .type "function" /\ PySem.W.fnIn K g=true/\PySem.W.mroIn K C (.ref D)=some true
theorem FF {K:PySem.W.Frag} {mg:Str->Option Value} {c f:String} {D B:Str} (hm:mg (Str.ofString c)=some (.ref (He.ga K (Str.ofString c)))) (t:DJ (Str.ofString c) D B (Str.ofString f) K=true):Cv K mg c f (He.ga K D) (ZM K (B,some (Str.ofString f))):=by
 intro C hC;rw [hm] at hC;cases hC;obtain ⟨cdC,og,h1,h2,h3,h4,h5,h6⟩:=FV t;exact ⟨og,cdC,h1,h2,h3,h4,h5,h6⟩
theorem FE {P:Program} {w:World} {K:PySem.W.Frag} {mg:Str->Option Value} {base:Heap} {j N:Nat} {c f:String} {D g:Addr} {fd:FuncData} {ps:List Str} {mi:MF} (B:Cv K mg c f D g) (F:FnG P w K mg base (L2.CX P w) j g fd ps (spM K mg mi N)) (hb:Binds K fd ps []):SupR P w K mg base j c f D mi N:=by
 intro C hC;obtain ⟨og,cdC,h1,h2,h3,h4,h5,h6⟩:=B C hC;exact ⟨g,og,fd,ps,[],[],cdC,h1,h2,h3,h4,h5,h6,F,hb⟩
section
variable {X : Cx} {W : WX} {k j n N : Nat} {e : Expr} {es : List Expr} {kws : List Keyword} {pos p : Pos} {ks nm : List Str} {sc : Scope} {dds : List D} {m mi : MF} {x : Str} {c : String} {sel : List Sel} {ms mks : List ME}
theorem vR (Cc:Cs X W k nm sc) (V:ClW X.prog X.w X.K X.mg X.base j c n ks sel mi N dds) (hjk:j+1<=k) (hg:Th sc (Str.ofString c)=true) (ha:JA X W (e :: es) ms) (hkw:JK X W kws mks) (h1:ms.length=n) (h2:mks.length=ks.length)
  (hall:(backToKw pos (keywordEach kws X.env)).all (·.1.isSome)=true:=by rfl) (hks:(backToKw pos (keywordEach kws X.env)).filterMap (·.1)=ks:=by rfl)
  (he:starEach (e :: es) X.env=(false,eval e X.env) :: starEach es X.env:=by rfl) (hpl:((backTo pos (starEach (e :: es) X.env)).any (·.1)||(backToKw pos (keywordEach kws X.env)).any (·.1.isNone))=false:=by rfl) :
  JE X W (.Call (.Name (Str.ofString c) p) (e :: es) kws pos) (YI (mkF c mi) sel ms mks dds) :=
 let ⟨_,hm,F⟩:=V.callF
 Oy Cc F hm hjk hg ha hkw h1 h2 hall hks he hpl
theorem N7 {α:Type} (vs ds zs:List α):∀ sel:List Sel,(sel.all fun a=>match a with
  | .pos i=>decide (i < vs.length)
  | .key i=>decide (i < zs.length)
  | .dfl i=>decide (i < ds.length))=true->(YX sel vs ds zs).length=sel.length
 | [],_=>rfl
 | a :: sel,h=>by
   rw [List.all_cons] at h;obtain ⟨h1,h2⟩:=Bool.and_eq_true_iff.mp h;have ih:=N7 vs ds zs sel h2;unfold YX at ih ⊢;have:∃ v,a.get vs ds zs=some v:=by
    cases a with
    | pos i=>exact ⟨_,List.getElem?_eq_getElem (of_decide_eq_true h1)⟩
    | key i=>exact ⟨_,List.getElem?_eq_getElem (of_decide_eq_true h1)⟩
    | dfl i=>exact ⟨_,List.getElem?_eq_getElem (of_decide_eq_true h1)⟩
   obtain ⟨v,e⟩:=this;rw [List.filterMap_cons_some e,List.length_cons,List.length_cons,ih]
def DY (n nd nk:Nat) (sel:List Sel):Bool:=sel.all fun a=>match a with
  | .pos i=>decide (i < n)
  | .key i=>decide (i < nk)
  | .dfl i=>decide (i < nd)
theorem FD {n nd nk:Nat} {sel:List Sel} (h:DY n nd nk sel=true) {α:Type} (vs ds zs:List α) (h1:vs.length=n) (h2:ds.length=nd) (h3:zs.length=nk):(YX sel vs ds zs).length=sel.length:=by
 subst h1 h2 h3;exact N7 vs ds zs sel h
theorem MX {P:Program} {w:World} {K:PySem.W.Frag} {mg:Str->Option Value} {base:Heap} {C f:Addr} {fd:FuncData} {ps:List Str} {ds:List Value} {dvs:List V} (hm:mg (Str.ofString c)=some (.ref C)) (M:Mk K C f) (F:FnG P w K mg base (L2.CX P w) j f fd ps (spM K mg mi (N+1))) (hb:VQ K fd ps n ks sel ds)
  (hd:Vals dvs ds) (hr:∀ F ρ,RepL K mg F ρ dvs dds) (hs:DY n dds.length ks.length sel=true) (hN:sel.length=N):ClW P w K mg base j c n ks sel mi N dds :=
 ⟨fun vs ds zs h1 h2 h3=>by rw [← hN]; exact FD hs vs ds zs h1 h2 h3,C,f,fd,ps,ds,dvs,hm,M,F,hb,hd,hr⟩
end
end FL
namespace FL
open PySem L2
section
variable {α β : Type} {δ : FL.Loc} {μ : Mem} {o : Opn} {os : List Opn} {m : ME} {ms mks : List ME} {f c : String} {at_ : String -> String -> Att} {d : D} {ds vs dds : List D} {k : Nat} {ks : List String}
@[simp] theorem vQ:(OR.d d).self δ=some d:=rfl
@[simp] theorem MW {j:Nat}:(OR.i j).self δ=(match δ[j]? with | some (some (.fr x))=>some x | _=>none):=rfl
@[simp] theorem vP:Yt μ (.ins c ks vs)=some (c,ks,vs):=rfl
@[simp] theorem vO:Yt μ (.obj k)=(match μ[k]? with | some (.ins c _ ks vs)=>some (c,ks,vs) | _=>none):=rfl
@[simp] theorem vN {i:Int}:Yt μ (.int i)=none:=rfl
@[simp] theorem vM {x:Tx}:Yt μ (.str x)=none:=rfl
@[simp] theorem vL {b:Bool}:Yt μ (.bl b)=none:=rfl
@[simp] theorem vK:Yt μ .non=none:=rfl
@[simp] theorem vJ {xs:List D}:Yt μ (.lst xs)=none:=rfl
@[simp] theorem vI {xs:List D}:Yt μ (.tup xs)=none:=rfl
@[simp] theorem yr {b:FxM} {ks:List DK} {xs:List D}:Yt μ (.fx b ks xs)=none:=rfl
@[simp] theorem vH {xs:List DK}:Yt μ (.dct xs ds)=none:=rfl
@[simp] theorem t_:getF [] ds f=none:=by cases ds <;> rfl
@[simp] theorem tZ {q:String}:getF (q :: ks) (d :: ds) f=if q=f then some d else getF ks ds f:=rfl
@[simp] theorem vG:VC [] f=[f]:=rfl
@[simp] theorem vF {q:String}:VC (q :: ks) f=if q=f then q :: ks else q :: VC ks f:=rfl
@[simp] theorem vE:T5 [] ds f d=[d]:=by cases ds <;> rfl
@[simp] theorem vD {q:String} {e:D}:T5 (q :: ks) (d :: ds) f e=if q=f then e :: ds else d :: T5 ks ds f e:=rfl
@[simp] theorem vC:Att.fld.isF=true:=rfl
@[simp] theorem vB:(Att.con d).isF=false:=rfl
@[simp] theorem tY:Yu at_ f o δ μ=(o.ev δ μ).bind fun r δ1 μ1=>match (r.self δ1).bind (Yt μ1) with
 | some (c,ks,ds)=>(match at_ c f with
   | .fld=>lift ((getF ks ds f).map .fr) δ1 μ1
   | .con d=>if getF ks ds f=none then .ok (.fr d) δ1 μ1 else .bad
   | .no=>.bad)
 | none=>.bad:=rfl
@[simp] theorem vA:Xt at_ f o m δ μ=(m δ μ).thn fun s δ1 μ1=>(o.ev δ1 μ1).thn fun r δ2 μ2=>match r.self δ2 with
 | some (.obj k)=>(match μ2[k]? with
   | some (.ins c kd ks vs)=>if (at_ c f).isF=true/\ks.length < 1000 then .nx δ2 (μ2.set k (.ins c kd (VC ks f) (T5 ks vs f s.d))) else .bad
   | _=>.bad)
 | _=>.bad:=rfl
@[simp] theorem Ao {mi:MF}:Rz c mi ms δ μ=(match δ[0]? with
 | some (some (FL.Slot.fr d))=>(match Yt μ d with
   | some (c',_,_)=>if c'=c then (XF ms δ μ).thn fun ds δ1 μ1=>(match mi (d :: ds) μ1 with
     | .ok _ μ2=>.nx δ1 μ2
     | .exc x μ2=>.exc x δ1 μ2
     | .bad=>.bad) else .bad
   | none=>.bad)
 | _=>.bad):=rfl
@[simp] theorem ID {mf:MF} {sel:List Sel}:YI mf sel ms mks dds δ μ=(XF ms δ μ).bind fun ds δ1 μ1=>(XF mks δ1 μ1).bind fun zs δ2 μ2=>match mf (YX sel ds dds zs) μ2 with
 | .ok s μ3=>.ok s δ2 μ3
 | .exc x μ3=>.exc x δ2 μ3
 | .bad=>.bad:=rfl
@[simp] theorem An {vs ds zs:List α}:YX [] vs ds zs=[]:=rfl
@[simp] theorem Am {vs ds zs:List α} {a:Sel} {sel:List Sel}:YX (a :: sel) vs ds zs=(match a.get vs ds zs with | some x=>x :: YX sel vs ds zs | none=>YX sel vs ds zs):=by
 unfold YX;cases h:a.get vs ds zs with
 | none=>rw [List.filterMap_cons_none h]
 | some x=>rw [List.filterMap_cons_some h]
@[simp] theorem yq {vs ds zs:List α} {i:Nat}:(Sel.pos i).get vs ds zs=vs[i]?:=rfl
@[simp] theorem yp {vs ds zs:List α} {i:Nat}:(Sel.key i).get vs ds zs=zs[i]?:=rfl
@[simp] theorem yo {vs ds zs:List α} {i:Nat}:(Sel.dfl i).get vs ds zs=ds[i]?:=rfl
@[simp] theorem RL {pt:String->String->Option MF}:We pt f o δ μ=(o.ev δ μ).bind fun r δ1 μ1=>match r.self δ1 with
 | some d=>(match Yt μ1 d with
   | some (c,_,_)=>(match pt c f with
     | some m=>(match m [d] μ1 with
       | .ok s μ2=>.ok s δ1 μ2
       | _=>.bad)
     | none=>.bad)
   | none=>.bad)
 | none=>.bad:=rfl
@[simp] theorem FC {a b:Own}:(μ++[a,b])[μ.length]?=some a:=by simp
@[simp] theorem FA {a b:Own}:(μ++[a,b])[μ.length+1]?=some b:=by simp
@[simp] theorem yn {a b e:Own}:(μ++[a,b]).set μ.length e=μ++[e,b]:=by
 rw [List.set_append_right _ _ (Nat.le_refl _)];simp
theorem KR {xs:List Own}:Keeps μ (μ++xs):=fun j u e=>by
 rw [List.getElem?_append_left (List.getElem?_eq_some_iff.mp e).1];exact e
abbrev Cu (μ:Mem) (c:String) (ks:List String) (vs:List D):Mem:=μ++[.ins c (μ.length+1) ks vs,.idc μ.length]
theorem Ct {mi:MF} {ks:List String} {vs:List D} (h:mi (.obj μ.length :: ds) (Cu μ c [] []) = .ok (.fr .non) (Cu μ c ks vs)) (hb:D.lowbs μ.length vs=true):mkF c mi ds μ = .ok (.fr (.ins c ks vs)) μ:=by
 rw [Jn];unfold Jo;rw [h];unfold L5;simp only [FC,FA];rw [if_pos ⟨⟨rfl,rfl,rfl⟩,KR,hb⟩]
end
section
variable {k : Nat}
@[simp] theorem vy:D.lowb k .non=true:=by simp [D.lowb]
@[simp] theorem tX {b:Bool}:D.lowb k (.bl b)=true:=by simp [D.lowb]
@[simp] theorem vw {i:Int}:D.lowb k (.int i)=true:=by simp [D.lowb]
@[simp] theorem vu {x:Tx}:D.lowb k (.str x)=true:=by simp [D.lowb]
@[simp] theorem vt {xs:List D}:D.lowb k (.tup xs)=D.lowbs k xs:=by simp [D.lowb]
@[simp] theorem vp {xs:List D}:D.lowb k (.lst xs)=D.lowbs k xs:=by simp [D.lowb]
@[simp] theorem tW {b:FxM} {q:List DK} {xs:List D}:D.lowb k (.fx b q xs)=D.lowbs k xs:=by simp [D.lowb]
@[simp] theorem vo {q:List DK} {xs:List D}:D.lowb k (.dct q xs)=D.lowbs k xs:=by simp [D.lowb]
@[simp] theorem vn {c:String} {q:List String} {xs:List D}:D.lowb k (.ins c q xs)=D.lowbs k xs:=by simp [D.lowb]
@[simp] theorem vm:D.lowbs k []=true:=by simp [D.lowbs]
@[simp] theorem ym {d:D} {ds:List D}:D.lowbs k (d :: ds)=(D.lowb k d&&D.lowbs k ds):=by simp [D.lowbs]
end
end FL
namespace FL
open PySem
def stuck:Resume->Sem PySem.Fin:=fun _=>.unsupported ""
def sV (x y:GenState):Prop:=∃ k l c p fs cl,x = .suspended stuck l c p fs cl/\y = .suspended k l c p fs cl
def Keep (a a' b b':Array GenState):Prop:=∀ (i:Nat) x y,a[i]?=some x->b[i]?=some y->sV x y->a'[i]?=some x/\b'[i]?=some y
end FL
namespace FL
open PySem
open Sem (wp)
def Sg (M:Model) (A:Around) (Φ:End->Shared->Prop) (c:Code) (t:Sem PySem.Fin) (fs:List Frame) (s:Shared):Prop :=
 ∀ Γ p,Γ.code=c->Γ.Woken A->∃ e s',Runs M Γ p t fs s e s'/\Φ e s'
end FL
namespace FL
open PySem PySem.Spec PyProof.Rows L2
section
variable {X : Cx}
theorem len0 {xs:List V} {its:List Value} (r:Vals xs its):(its.toArray.size == (#[]:Array Value).size)=decide (xs=[]):=by
 cases r with
 | nil=>rfl
 | cons=>simp
end
end FL
namespace FL.LQ
open PySem PySem.SeqAt
open AutoSeq1 (wpAny_loadPart')
open MeetsSeq MeetsSeq2 MeetsSeq3 SeqRoads2
section
variable {prog : Program} {w : World} {A : Around} {R : Result -> Shared -> Prop}
theorem IC (l b:Addr) (N:Nat) (I:Nat->Shared->Prop) (hl:GQ.ListI prog w A (fun e s' => R (.error e) s') l b N I)
  (fin:∀ s,I N s->R (.ok (.ret (.bool false))) s) (k:Nat) :
  ∀ i:Nat,N - i=k->i<=N->∀ s,I i s ->
   wpAny (model prog w) A.in1 (Builtin.«list.__eq__.loop» ⟨[.ref l,.ref b,rawInt i,rawInt 3],[]⟩) (GQ.FinOf prog w A R) (fun e s' => R (.error e) s') s:=by
 induction k with
 | zero =>
   intro i hk hi s h;obtain ⟨items,items2,n,n2,hl1,hb1,hs1,hs2,_⟩:=hl _ _ h;have hi':i=N:=by omega
   have hR:R (.ok (.ret (.bool false))) s:=fin s (hi'▸h);obtain ⟨hp,g,d,tk,os⟩:=s
   wp_walk using wpAny_loadPart' hl1,wpAny_loadPart' hb1
   have hi1:items[((i:Nat):Int).toNat]?=none:=by simp; omega
   have hi2:items2[((i:Nat):Int).toNat]?=none:=by simp; omega
   rw [hi1,hi2]
   wp_walk using wpAny_loadPart' hl1,wpAny_loadPart' hb1
   show R (.ok (.ret (.bool (items.size != items2.size)))) _;rw [hs1,hs2];simpa using hR
 | succ k ih =>
   intro i hk hi s h;obtain ⟨items,items2,n,n2,hl1,hb1,hs1,hs2,turn⟩:=hl _ _ h;have hlt:i < items.size:=by omega
   have hlt2:i < items2.size:=by omega
   have ht:=turn hlt hlt2;obtain ⟨hp,g,d,tk,os⟩:=s
   wp_walk using wpAny_loadPart' hl1,wpAny_loadPart' hb1
   have hi1:items[((i:Nat):Int).toNat]?=some items[i]:=by simp [hlt]
   have hi2:items2[((i:Nat):Int).toNat]?=some items2[i]:=by simp [hlt2]
   have hc:((i:Int)+1)=((i+1:Nat):Int):=by omega
   rw [hi1,hi2];refine wpAny_bind (wpAny_mono ht (fun r s2 h2 => ?_) fun _ _ x=>x);obtain ⟨hr,h2⟩:=h2;subst hr;have hrec:=ih (i+1) (by omega) (by omega) s2 h2;obtain ⟨hp2,g2,d2,tk2,os2⟩:=s2
   wp_walk
   rw [hc];exact ⟨plainId_quiet plain_eq_loop _,codeAny_builtin entry_eq_loop (by
    rw [Around.under_plainId plain_eq_loop _];exact hrec)⟩
theorem IB (l b:Addr) (N:Nat) (I:Nat->Shared->Prop) (hl:GQ.ListI prog w A (fun e s' => R (.error e) s') l b N I)
  (fin:∀ s,I N s->R (.ok (.ret (.bool false))) s) {s:Shared} (h:I 0 s) :
  wpAny (model prog w) A.in1 (Builtin.«list.__ne__» ⟨[.ref l,.ref b],[]⟩) (GQ.FinOf prog w A R) (fun e s' => R (.error e) s') s:=by
 obtain ⟨items,items2,n,n2,hl1,hb1,hs1,hs2,_⟩:=hl _ _ h;have hrec:=IC (A:=A) (R:=R) l b N I hl fin _ 0 rfl (Nat.zero_le _) s h;obtain ⟨hp,g,d,tk,os⟩:=s;have f3:=AutoSeq1.sub_list_list;have hne : ¬ (items.size != items2.size)=true:=by simp [hs1,hs2]
 wp_walk using wpAny_loadPart' hl1,wpAny_loadPart' hb1
 exact ⟨plainId_quiet plain_eq_loop _,codeAny_builtin entry_eq_loop (by
  rw [Around.under_plainId plain_eq_loop _];exact hrec)⟩
theorem N6 (neg:Bool) {l b:Addr} {items items2:Array Value} {n n2:Nat} {s:Shared} (h1:s.heap.get? l=some { cls:=.type "list",data:=.seq items n }) (h2:s.heap.get? b=some { cls:=.type "list",data:=.seq items2 n2 }) (hne:items.size≠items2.size)
  (h:R (.ok (.ret (.bool neg))) s):wpAny (model prog w) A.in1 ((if neg then Builtin.«list.__ne__» else Builtin.«list.__eq__») ⟨[.ref l,.ref b],[]⟩) (GQ.FinOf prog w A R) (fun e s' => R (.error e) s') s:=by
 obtain ⟨hp,g,d,tk,os⟩:=s;have f3:=AutoSeq1.sub_list_list;have hne:(items.size != items2.size)=true:=by simpa using hne
 cases neg with
 | false =>
   simp only [Bool.false_eq_true,if_false]
   wp_walk using wpAny_loadPart' h1,wpAny_loadPart' h2
   exact h
 | true =>
   simp only [if_true]
   wp_walk using wpAny_loadPart' h1,wpAny_loadPart' h2
   exact h
end
section
variable {prog : Program} {w : World} {A : Around} {E : Value -> Shared -> Prop} {s : Shared}
theorem Iz {l b:Addr} {N:Nat} {Q:Value->Shared->Prop} (hu:A.units < cLine) (I:Nat->Shared->Prop) (hl:GQ.ListI prog w A E l b N I)
  (fin:∀ s,I N s->Q (.bool false) s) (h:I 0 s):wpAny (model prog w) A (richCompare .NotEq (.ref l) (.ref b)) Q E s:=by
 obtain ⟨items,items2,n,n2,hl1,hb1,_,_,_⟩:=hl _ _ h;refine wpAny_richCompare_same_room (op:=.NotEq) ⟨_,hl1,rfl⟩ ⟨_,hb1,rfl⟩ F.slot_list_ne (GQ.call_here F.slot_list_ne ⟨_,hl1,rfl⟩ F.entry_list_ne (F.args_list_ne_2 _ _) ?_) hu;exact IB (R:=wants (fun v s' => v ≠ .notImplemented/\Q v s') E) l b N I hl (fun s' q=>⟨(fun x=>nomatch x),fin s' q⟩) h
theorem Cr {l b:Addr} {items items2:Array Value} {n n2:Nat} {Q:Value->Shared->Prop} (hu:A.units < cLine) (h1:s.heap.get? l=some { cls:=.type "list",data:=.seq items n }) (h2:s.heap.get? b=some { cls:=.type "list",data:=.seq items2 n2 }) (hne:items.size≠items2.size)
  (h:Q (.bool false) s):wpAny (model prog w) A (richCompare .Eq (.ref l) (.ref b)) Q E s:=by
 refine wpAny_richCompare_same_room (op:=.Eq) ⟨_,h1,rfl⟩ ⟨_,h2,rfl⟩ F.slot_list_eq (GQ.call_here F.slot_list_eq ⟨_,h1,rfl⟩ F.entry_list_eq (F.args_list_eq_2 _ _) ?_) hu;exact N6 (R:=wants (fun v s' => v ≠ .notImplemented/\Q v s') E) false h1 h2 hne ⟨(fun x=>nomatch x),h⟩
theorem Cq {l b:Addr} {items items2:Array Value} {n n2:Nat} {Q:Value->Shared->Prop} (hu:A.units < cLine) (h1:s.heap.get? l=some { cls:=.type "list",data:=.seq items n }) (h2:s.heap.get? b=some { cls:=.type "list",data:=.seq items2 n2 }) (hne:items.size≠items2.size)
  (h:Q (.bool true) s):wpAny (model prog w) A (richCompare .NotEq (.ref l) (.ref b)) Q E s:=by
 refine wpAny_richCompare_same_room (op:=.NotEq) ⟨_,h1,rfl⟩ ⟨_,h2,rfl⟩ F.slot_list_ne (GQ.call_here F.slot_list_ne ⟨_,h1,rfl⟩ F.entry_list_ne (F.args_list_ne_2 _ _) ?_) hu;exact N6 (R:=wants (fun v s' => v ≠ .notImplemented/\Q v s') E) true h1 h2 hne ⟨(fun x=>nomatch x),h⟩
end
end FL.LQ
namespace FL
open PySem PySem.Spec PyProof.Rows L2
def Ur (neg:Bool):D->D->Option Slot
 | .lst xs,.lst ys=>if xs.length≠ys.length then some (tb neg) else (match xs with
   | []=>some (tb (!neg))
   | _=>none)
 | _,_=>none
def WB (neg:Bool):D->D->Option Slot:=fun x y=>(YC neg x y).or (Ur neg x y)
def Iy (neg:Bool):R2:=fun x y H Q => ∃ p q xs ys,x = .ref p/\y = .ref q/\H p=some (.lst xs)/\H q=some (.lst ys)/\((xs.length≠ys.length/\Q (.bl neg) H)\/(xs=[]/\ys=[]/\Q (.bl (!neg)) H))
section
variable {X : Cx}
theorem Iw (neg:Bool):R2J X (Iy neg) (Ur neg):=by
 intro Z F ρ μ δ σ H x y dx dy s Q S bx bY e q;unfold Ur at e
 split at e
 ·rename_i xs ys
  obtain ⟨p,vs,rfl,hp,rp⟩:=bx.lst S;obtain ⟨p2,vs2,rfl,hp2,rp2⟩:=bY.lst S;refine ⟨p,p2,vs,vs2,rfl,rfl,hp,hp2,?_⟩;by_cases h:xs.length≠ys.length
  ·rw [if_pos h] at e
   cases e;exact .inl ⟨by rw [rp.len,rp2.len]; exact h,q _ H F .refl S ⟨.bl,fun o p z=>by cases z⟩⟩
  ·rw [if_neg h] at e
   have h:xs.length=ys.length:=Classical.not_not.mp h
   split at e
   ·rename_i xs'
    cases e;have h1:vs=[]:=List.eq_nil_of_length_eq_zero rp.len;have h2:vs2=[]:=List.eq_nil_of_length_eq_zero (by rw [rp2.len,← h]; rfl);exact .inr ⟨h1,h2,q _ H F .refl S ⟨.bl,fun o p z=>by cases z⟩⟩
   ·cases e
 ·cases e
theorem Ak {s:Shared} {H:Hp} {pins:List (Addr×Obj)} {σ:L2.St} {p q:Addr} {A:Around} {E:Value->Shared->Prop} (I:Inv X pins σ H s) (h1:H p=some (.lst [])) (h2:H q=some (.lst [])):GQ.ListI X.prog X.w A E p q 0 (fun _ s' => s'=s):=by
 intro i s' hs;subst hs;obtain ⟨z,its,k,r,e⟩:=I.hok p _ h1;obtain ⟨z2,its2,k2,r2,e2⟩:=I.hok q _ h2;cases r;cases r2;exact ⟨_,_,k,k2,e,e2,rfl,rfl,fun h=>absurd h (Nat.not_lt_zero _)⟩
theorem Iv (hu:X.A.units+64 < cLine):OpR X (compareOp .Eq) (Iy false):=by
 intro pins s σ H x y v u Q I rx ry h;obtain ⟨p,q,xs,ys,rfl,rfl,h1,h2,h⟩:=h;cases (show v=Value.ref p from rx);cases (show u=Value.ref q from ry);have hu0:X.A.units < cLine:=by omega
 show wpAny (model X.prog X.w) X.A (richCompare .Eq (.ref p) (.ref q)) (EP X pins σ Q) X.xe s;rcases h with ⟨hn,k⟩ | ⟨rfl,rfl,k⟩
 ·obtain ⟨z,its,kk,r,e⟩:=I.hok p _ h1
  obtain ⟨z2,its2,kk2,r2,e2⟩:=I.hok q _ h2;exact LQ.Cr hu0 e e2 (by rw [List.size_toArray,List.size_toArray,← r.length,← r2.length]; exact hn) ⟨.bl false,H,I,rfl,k⟩
 ·exact GQ.rc_listG (N:=0) hu0 (fun _ s' => s'=s) (Ak I h1 h2) (fun s' e=>by subst e; exact ⟨.bl true,H,I,rfl,k⟩) rfl
theorem Iu (hu:X.A.units+64 < cLine):OpR X (compareOp .NotEq) (Iy true):=by
 intro pins s σ H x y v u Q I rx ry h;obtain ⟨p,q,xs,ys,rfl,rfl,h1,h2,h⟩:=h;cases (show v=Value.ref p from rx);cases (show u=Value.ref q from ry);have hu0:X.A.units < cLine:=by omega
 show wpAny (model X.prog X.w) X.A (richCompare .NotEq (.ref p) (.ref q)) (EP X pins σ Q) X.xe s;rcases h with ⟨hn,k⟩ | ⟨rfl,rfl,k⟩
 ·obtain ⟨z,its,kk,r,e⟩:=I.hok p _ h1
  obtain ⟨z2,its2,kk2,r2,e2⟩:=I.hok q _ h2;exact LQ.Cq hu0 e e2 (by rw [List.size_toArray,List.size_toArray,← r.length,← r2.length]; exact hn) ⟨.bl true,H,I,rfl,k⟩
 ·exact LQ.Iz (N:=0) hu0 (fun _ s' => s'=s) (Ak I h1 h2) (fun s' e=>by subst e; exact ⟨.bl false,H,I,rfl,k⟩) rfl
theorem DX {r r':R2} {g g':D->D->Option Slot} (h:R2J X r g) (h':R2J X r' g'):R2J X (fun x y H Q=>r x y H Q\/r' x y H Q) (fun x y=>(g x y).or (g' x y)):=by
 intro Z F ρ μ δ σ H x y dx dy s Q S bx bY e q;dsimp only at e;cases e1:g dx dy with
 | some s' =>
   rw [e1] at e;cases e;exact .inl (h Z F ρ μ δ σ H x y dx dy _ Q S bx bY e1 q)
 | none =>
   rw [e1] at e;exact .inr (h' Z F ρ μ δ σ H x y dx dy s Q S bx bY e q)
end
section
variable {X : Cx} {W : WX} {k j : Nat} {N : List Str} {sc : Scope} {a b : Expr} {pos : Pos} {oa ob : Opn} {ma mb : ME}
theorem Cs.eqNT (C:Cs X W k N sc) (ha:JO X W a oa) (hb:JO X W b ob):JT X W (.Compare a [.Eq] [b] pos) (ZN (m2 (WB false) oa ob)):=WV ((Dv C.hu).or (Iv C.hu)) (DX Du (Iw false)) ha hb (nomark _)
theorem Cs.neNT (C:Cs X W k N sc) (ha:JO X W a oa) (hb:JO X W b ob):JT X W (.Compare a [.NotEq] [b] pos) (ZN (m2 (WB true) oa ob)):=WV ((A_ C.hu).or (Iu C.hu)) (DX A8 (Iw true)) ha hb (nomark _)
end
end FL
namespace FL
open PySem PySem.Spec PyProof.Rows L2
structure GD where
 P:Program
 w:World
 K:PySem.W.Frag
 mg:Str->Option Value
 base:Heap
 N:List Str
 env:Env
 l:List Env
 A:Around
section
variable {G : GD} {Z F H F' H1 : Hp} {ρ ρ' : List Addr} {μ : Mem} {δ δ' : Loc} {σ σ' : L2.St} {lk : Addr -> Option (List V)} {hs : List Addr} {s s1 : Shared}
open Classical in
def vl (δ:Loc) (σ:L2.St) (H1:Hp):Addr->Option (List V):=fun p=>if P5 δ σ p then (match H1 p with | some (.lst vs)=>some vs | _=>none) else none
end
end FL
namespace FL
open PySem PySem.Spec PyProof.Rows L2
def MV:List (Option Bool)->Option Bool
 | []=>some false
 | some true :: _=>some true
 | some false :: r=>MV r
 | none :: _=>none
section
variable {X : Cx} {W : WX} {k : Nat} {N : List Str} {sc : Scope} {e : Expr} {es : List Expr} {pos p p2 : Pos} {o : Opn} {isa isb : String -> String -> Option Bool} {ds : List String}
theorem Qm {K:PySem.W.Frag} {t:Value} {f:String->Option Bool}:∀ {ds:List String} {us:List Value} {b:Bool},Paired (fun d u => ∀ b,f d=some b->PySem.W.kitOne K t u=some b) ds us->MV (ds.map f)=some b->PySem.W.kitAny K t us=some b
 | _,_,b,.nil,e=>by cases e; rfl
 | d :: ds,u :: us,b,.cons h r,e=>by
   unfold PySem.W.kitAny;rw [List.map_cons] at e;cases hf:f d with
   | none=>rw [hf] at e; cases e
   | some b1 =>
     rw [hf] at e;rw [h b1 hf];cases b1 with
     | true=>cases e; rfl
     | false=>exact Qm r e
theorem Ql {F:Hp} {ρ:List Addr}:∀ {ds:List String} {vs:List V},(∀ d∈ds,∃ D:Addr,X.mg (Str.ofString d)=some (.ref D))->RepL X.K X.mg F ρ vs (ds.map .glo)->∃ us:List Addr,vs=us.map V.ref/\Paired (fun d u=>X.mg (Str.ofString d)=some (.ref u)) ds us
 | [],_,_,.nil=>⟨[],rfl,.nil⟩
 | d :: ds,_,h,.cons (v:=v) (vs:=vs) r t=>by
   obtain ⟨D,hD⟩:=h d (List.mem_cons_self ..);cases Gp hD r;obtain ⟨us,rfl,p⟩:=Ql (fun d hd=>h d (List.mem_cons_of_mem _ hd)) t;exact ⟨D :: us,rfl,.cons hD p⟩
theorem LN {t:Value} {f:String->Option Bool} (kk:∀ d b (D:Addr),f d=some b->X.mg (Str.ofString d)=some (.ref D)->PySem.W.kitOne X.K t (.ref D)=some b):∀ {ds:List String} {us:List Addr},Paired (fun d u=>X.mg (Str.ofString d)=some (.ref u)) ds us ->
  Paired (fun d u => ∀ b,f d=some b->PySem.W.kitOne X.K t u=some b) ds (us.map Value.ref)
 | _,_,.nil=>.nil
 | _,_,.cons h p=>.cons (fun b e=>kk _ b _ e h) (LN kk p)
theorem N5 {δ:FL.Loc} {μ:Mem}:∀ ds:List String,XF (ds.map fun d=>mD (.glo d)) δ μ = .ok (ds.map .glo) δ μ
 | []=>rfl
 | d :: ds=>by
   show ((mD (.glo d) δ μ).bind fun s δ1 μ1=>(XF (ds.map fun d=>mD (.glo d)) δ1 μ1).bind fun ds δ2 μ2=>Out.ok (s.d :: ds) δ2 μ2)=_
   show (XF (ds.map fun d=>mD (.glo d)) δ μ).bind _=_;rw [N5 ds];rfl
end
end FL
namespace FL
open PySem PySem.Spec PyProof.Rows L2
def MU (K:PySem.W.Frag) (mg:Str->Option Value) (cs:List String) (b f:Str):Prop:=∀ c∈cs,∀ C,mg (Str.ofString c)=some (.ref C)->Cls K C/\Meth K C f (ZM K (b,some f))
theorem TV {K:PySem.W.Frag} {h:Heap} {mg:Str->Option Value} {cs:List String} {b f:Str} (X:K.In h) (G:h.Ns mainGlobals mg) (t:Qz cs b f K=true):MU K mg cs b f:=by
 intro c hc C hC;obtain ⟨t1,t⟩:=Bool.and_eq_true_iff.mp t;obtain ⟨t2,t⟩:=Bool.and_eq_true_iff.mp t;obtain ⟨t3,t⟩:=Bool.and_eq_true_iff.mp (List.all_eq_true.mp t c hc);obtain ⟨t4,t5⟩:=Bool.and_eq_true_iff.mp t;rw [He.glo_ok X G t3] at hC;cases hC;exact ⟨He.cls_ok t4,of_decide_eq_true t5,t1,t2⟩
end FL
namespace FL
open PySem PySem.Spec PyProof.Rows L2
theorem KV.get_no {K:PySem.W.Frag} {mg:Str->Option Value} {F:Hp} {ρ:List Addr} {k:DK}:∀ {kvs:List (Key×V)} {kds:List (DK×D)},KV K mg F ρ kvs kds->YA kds k=none->valV kvs k.key=none
 | _,_,.nil,e=>rfl
 | _,_,@KV.cons _ _ _ _ k1 v1 d1 kvs kds h t,e=>by
   unfold YA at e;rw [List.find?_cons] at e;unfold valV;rw [List.find?_cons];simp only [PN];by_cases z:k1=k
   ·rw [decide_eq_true z] at e
    cases e
   ·rw [decide_eq_false z] at e ⊢
    exact KV.get_no t e
theorem KV.len {K:PySem.W.Frag} {mg:Str->Option Value} {F:Hp} {ρ:List Addr}:∀ {kvs:List (Key×V)} {kds:List (DK×D)},KV K mg F ρ kvs kds->kvs.length=kds.length
 | _,_,.nil=>rfl
 | _,_,.cons h t=>by rw [List.length_cons,List.length_cons,KV.len t]
def YB:D->Option (List DK×List D)
 | .dct ks ds=>some (ks,ds)
 | .fx .df ks ds=>some (ks,ds)
 | _=>none
theorem VO {K:PySem.W.Frag} {mg:Str->Option Value} {Z F H:Hp} {ρ:List Addr} {μ:Mem} {δ:Loc} {σ:L2.St} {v:V} {d:D} {ks:List DK} {ds:List D} (S:Sim K mg Z F ρ μ δ σ H) (b:Bor K mg F ρ H v d) (h:YB d=some (ks,ds)) :
  ∃ p vs,v = .ref p/\Rd H p (.dK ((ks.map DK.key).zip vs))/\ks.length=vs.length/\RepL K mg F ρ vs ds:=by
 cases d <;> first | (cases h; done) | skip
 ·rename_i m ks' ds'
  cases m <;> first | (cases h; done) | skip
  cases h;obtain ⟨p,o,vs,e,_,q,l,r⟩:=b.dcf S;exact ⟨p,vs,e,.inr ⟨o,q⟩,l,r⟩
 ·cases h
  exact b.dct S
def VB (d:D):Bool:=(YB d).isSome
def Sm (d y:D):Option Slot:=(YB d).bind fun p=>(Yo y).map fun k=>.fr ((YA (p.1.zip p.2) k).getD .non)
def Rr (oo ob:Opn):ME:=fun δ μ=>(oo.ev δ μ).bind fun ra δ1 μ1=>match ra.at δ1 μ1 with
 | some d0=>if VB d0=true then (ob.ev δ1 μ1).bind fun rb δ2 μ2=>match ra.at δ2 μ2,rb.at δ2 μ2 with
   | some da,some db=>lift (Sm da db) δ2 μ2
   | _,_=>.bad
   else .bad
 | none=>.bad
section
variable {X : Cx} {W : WX} {o e f : Expr} {pos apos cpos : Pos} {oo ob : Opn} {m : ME} {k : Nat} {N : List Str} {sc : Scope}
theorem Ir {Z F H:Hp} {ρ:List Addr} {μ:Mem} {δ:Loc} {σ:L2.St} {v:V} {d:D} (S:Sim X.K X.mg Z F ρ μ δ σ H) (b:Bor X.K X.mg F ρ H v d) (h:VB d=true):∃ a,v = .ref a/\IsD H a:=by
 obtain ⟨⟨ks,ds⟩,e⟩:=Option.isSome_iff_exists.mp h;obtain ⟨p,vs,rfl,hr,hl,r⟩:=VO S b e;exact ⟨p,rfl,.inl ⟨_,hr⟩⟩
theorem RK {Z F H:Hp} {ρ:List Addr} {μ:Mem} {δ:Loc} {σ:L2.St} {x y:V} {dy:D} {dx:D} {ks:List DK} {ds:List D} {k:DK} (S:Sim X.K X.mg Z F ρ μ δ σ H) (bx:Bor X.K X.mg F ρ H x dx) (ed:YB dx=some (ks,ds)) (bY:Bor X.K X.mg F ρ H y dy) (ek:Yo dy=some k) :
  ∃ a r,x = .ref a/\DGet H a y r/\((∃ v d,r=some v/\YA (ks.zip ds) k=some d/\Rep X.K X.mg F ρ v d)\/(r=none/\YA (ks.zip ds) k=none)):=by
 obtain ⟨p,vs,rfl,hr,hl,r⟩:=VO S bx ed;cases g:YA (ks.zip ds) k with
 | some d =>
   obtain ⟨v,ev,rv⟩:=(KV.of hl r).get g;exact ⟨p,some v,rfl,.inl ⟨_,k.key,hr,key_of bY ek,ev.symm⟩,.inl ⟨v,d,rfl,rfl,rv⟩⟩
 | none=>exact ⟨p,none,rfl,.inl ⟨_,k.key,hr,key_of bY ek,((KV.of hl r).get_no g).symm⟩,.inr ⟨rfl,rfl⟩⟩
theorem Fy (hu:X.A.units+1 < cLine) (ho:JO X W o oo) (he:JO X W e ob) (mm:M1 X o "get" apos e cpos):JE X W (.Call (.Attribute o "get" apos) [e] [] cpos) (Rr oo ob):=by
 refine (pe_dget1 hu ho he mm).imp fun σ H Q ⟨Z,F,ρ,μ,δ,S,q⟩=>⟨Z,F,ρ,μ,δ,S,(FinE.bind q).imp fun ra δ1 μ1 H1 F1 ρ1 l lr S1 ⟨_,_,_,p⟩ x hx => ?_⟩;cases e0:ra.at δ1 μ1 with
 | none=>simp only [e0] at p; exact p.elim
 | some d0 =>
   simp only [e0] at p;by_cases hd:VB d0=true
   ·rw [if_pos hd] at p
    obtain ⟨a,rfl,isd⟩:=Ir S1 (hx.bor S1 e0) hd;refine ⟨a,rfl,isd,Z,F1,ρ1,μ1,δ1,S1,p.bind.imp fun rb δ2 μ2 H2 F2 ρ2 l2 lr2 S2 ⟨_,_,_,p2⟩ y hy => ?_⟩;cases e1:ra.at δ2 μ2 with
    | none=>simp only [e1] at p2; exact p2.elim
    | some da =>
      cases e2:rb.at δ2 μ2 with
      | none=>simp only [e1,e2] at p2; exact p2.elim
      | some db =>
        simp only [e1,e2] at p2;unfold lift at p2;cases eg:Sm da db with
        | none=>simp only [eg] at p2; exact p2.elim
        | some s =>
          simp only [eg] at p2;unfold Sm at eg;obtain ⟨⟨ks,ds⟩,ed,eg⟩:=Option.bind_eq_some_iff.mp eg;obtain ⟨kk,ek,rfl⟩:=Option.map_eq_some_iff.mp eg;obtain ⟨a',r,ea,g,hr⟩:=RK S2 ((hx.up l2 lr2).bor S2 e1) ed (hy.bor S2 e2) ek;cases ea;refine ⟨r,g,?_⟩;rcases hr with ⟨v,d,rfl,eg2,rv⟩ | ⟨rfl,eg2⟩
          ·rw [eg2] at p2
           exact p2 H2 F2 ρ2 .refl .refl S2 v ⟨rv,fun o p z=>by cases z⟩
          ·rw [eg2] at p2
           exact p2 H2 F2 ρ2 .refl .refl S2 .non ⟨.non,fun o p z=>by cases z⟩
   ·rw [if_neg hd] at p; exact p.elim
def Sl (oo ob oc:Opn):ME:=fun δ μ=>(oo.ev δ μ).bind fun ra δ1 μ1=>match ra.at δ1 μ1 with
 | some d0=>if VB d0=true then (ob.ev δ1 μ1).bind fun rb δ2 μ2=>(oc.ev δ2 μ2).bind fun rc δ3 μ3=>match ra.at δ3 μ3,rb.at δ3 μ3,rc with
   | some da,some db,.d dc=>(match YB da,Yo db with
     | some p,some k=>.ok (.fr ((YA (p.1.zip p.2) k).getD dc)) δ3 μ3
     | _,_=>.bad)
   | _,_,_=>.bad
   else .bad
 | none=>.bad
theorem Fw {oc:Opn} (hu:X.A.units+1 < cLine) (ho:JO X W o oo) (he:JO X W e ob) (hf:JO X W f oc) (mm:M2 X o "get" apos e f cpos):JE X W (.Call (.Attribute o "get" apos) [e,f] [] cpos) (Sl oo ob oc):=by
 refine (pe_dget2 hu ho he hf mm).imp fun σ H Q ⟨Z,F,ρ,μ,δ,S,q⟩=>⟨Z,F,ρ,μ,δ,S,(FinE.bind q).imp fun ra δ1 μ1 H1 F1 ρ1 l lr S1 ⟨_,_,_,p⟩ x hx => ?_⟩;cases e0:ra.at δ1 μ1 with
 | none=>simp only [e0] at p; exact p.elim
 | some d0 =>
   simp only [e0] at p;by_cases hd:VB d0=true
   ·rw [if_pos hd] at p
    obtain ⟨a,rfl,isd⟩:=Ir S1 (hx.bor S1 e0) hd;refine ⟨a,rfl,isd,Z,F1,ρ1,μ1,δ1,S1,p.bind.imp fun rb δ2 μ2 H2 F2 ρ2 l2 lr2 S2 ⟨_,_,_,p2⟩ y hy => ?_⟩;refine ⟨Z,F2,ρ2,μ2,δ2,S2,p2.bind.imp fun rc δ3 μ3 H3 F3 ρ3 l3 lr3 S3 ⟨_,_,_,p3⟩ z hz => ?_⟩;cases e1:ra.at δ3 μ3 with
    | none=>simp only [e1] at p3; exact p3.elim
    | some da =>
      cases e2:rb.at δ3 μ3 with
      | none=>simp only [e1,e2] at p3; exact p3.elim
      | some db =>
        cases rc with
        | i j=>simp only [e1,e2] at p3; exact p3.elim
        | d dc =>
          simp only [e1,e2] at p3;cases ed:YB da with
          | none=>simp only [ed] at p3; exact p3.elim
          | some pp =>
           obtain ⟨ks,ds⟩:=pp;cases ek:Yo db with
           | none=>simp only [ed,ek] at p3; exact p3.elim
           | some kk =>
            simp only [ed,ek] at p3;obtain ⟨a',r,ea,g,hr⟩:=RK S3 (((hx.up l2 lr2).up l3 lr3).bor S3 e1) ed ((hy.up l3 lr3).bor S3 e2) ek;cases ea;refine ⟨r,g,?_⟩;rcases hr with ⟨v,d,rfl,eg2,rv⟩ | ⟨rfl,eg2⟩
            ·rw [eg2] at p3
             exact p3 H3 F3 ρ3 .refl .refl S3 v ⟨rv,fun o p z=>by cases z⟩
            ·rw [eg2] at p3
             exact p3 H3 F3 ρ3 .refl .refl S3 z ⟨hz,fun o p z=>by cases z⟩
   ·rw [if_neg hd] at p; exact p.elim
def Vw (neg:Bool) (y d:D):Option Slot:=(YB d).bind fun p=>(Yo y).map fun k=>.fr (.bl ((YA (p.1.zip p.2) k).isSome != neg))
def Iq (d:D):Option Slot:=(YB d).map fun p=>.fr (.int (p.1.zip p.2).length)
def Qk:List D->Option Slot:=fun ds=>match ds with
 | [d]=>Iq d
 | _=>none
theorem Fv:CallR X (.builtin "len") (fun xs H Q => ∃ a kvs,xs=[V.ref a]/\Rd H a (.dK kvs)/\Q (.int kvs.length) H):=by
 intro pins s σ H xs us Q I r h;obtain ⟨a,kvs,rfl,ha,q⟩:=h;obtain ⟨u,rfl,ru⟩:=vals1 r;cases ru;exact d_len I ha fun t s' I' => ⟨.int kvs.length,H,I',⟨t,rfl⟩,q⟩
theorem Cp:RLJ X (fun xs H Q => ∃ a kvs,xs=[V.ref a]/\Rd H a (.dK kvs)/\Q (.int kvs.length) H) Qk:=by
 intro Z F ρ μ δ σ H xs ds s Q S bs e q;unfold Qk at e
 split at e
 ·obtain ⟨v,rfl,hb⟩:=bs.one
  rename_i d
  obtain ⟨⟨ks,ds'⟩,ed,rfl⟩:=Option.map_eq_some_iff.mp e;obtain ⟨p,vs,rfl,hr,hl,r⟩:=VO S hb ed;refine ⟨p,_,rfl,hr,q _ H F .refl S ⟨?_,fun o p z=>by cases z⟩⟩;have hl2:=RepL.len r;have:((ks.map DK.key).zip vs).length=(ks.zip ds').length:=by simp [List.length_zip,hl,hl2]
  rw [this];exact .int
 ·cases e
def LJ (d:D):Option Slot:=(YB d).bind fun p=>if p.1.length=p.2.length then some (.own (.dct p.1 p.2)) else none
def Rq:List D->Option Slot:=fun ds=>match ds with
 | [d]=>LJ d
 | _=>none
end
end FL
namespace FL
open PySem PySem.Spec PyProof.Rows L2
theorem N4:typeLookup (.type "tuple") "keys" = pure none:=am_miss_of_fast (by first | decide +kernel | rfl)
section
variable {P : Program} {w : World} {A : Around} {E : Value -> Shared -> Prop}
theorem Ip {s:Shared} {a:Addr} {o:Obj} {xs:Array Value} {k:Nat} {Q:Option Value->Shared->Prop} (hx:s.heap.get? a=some o) (hc:o.cls = .type "tuple") (hdat:o.data = .seq xs k) (hd:o.dict=none) (hA:A.handled=none)
  (h:∀ h' tk,(∀ b ob,s.heap.get? b=some ob->h'.get? b=some ob)->Q none { s with heap:=h',toks:=tk }):wpAny (model P w) A (getAttr? (.ref a) "keys") Q E s:=by
 obtain ⟨c,dct,dat,sl⟩:=o;simp only at hc hdat hd;subst hc hdat hd;obtain ⟨hp,g0,d0,tk0,os0⟩:=s;have tT:∀ tk',(⟨hp,g0,d0,tk',os0⟩:Shared).TypeIs (.ref a) "tuple":=fun _=>⟨_,hx,rfl⟩;have m1:=N4;have m2:(["__module__","__name__","__qualname__","__doc__","__annotations__"]:List Str).contains "keys" = false:=by decide +kernel
 have m3:("keys" : Str).length+100<=sizeLine:=by first | size_fits | decide +kernel
 have f1:=sub_AttributeError;have f3:=PySem.F.slot_tuple_getattribute.lookup;have f4:=PySem.F.slot_tuple_getattribute.bind (.ref a);have f5:typeLookup (.type "tuple") "__getattr__" = pure none:=am_miss_of_fast (by first | decide +kernel | rfl)
 (unfold getAttr? getAttrBy? getAttrBy; repeat (any_goals (first | assumption | exact tT _ | ((with_reducible show wpAny _ _ (call (Value.builtin "tuple.__getattribute__") _ _) _ _ _); refine call_meets PySem.F.slot_tuple_getattribute (tT _) am_entry_tuple_getattribute (PySem.F.args_tuple_getattribute_2 _ _) (meets_getattribute_miss_tuple a xs k sl "keys" _ m1 m2 m3) ⟨hx,hA,fun h' tk' e ne => ?_⟩) | wp_step)))
 (obtain ⟨t1,u1,e1⟩:=ne.there; show wpAny _ _ (getattributeRaised _ _ _ _ _ _ _) _ _ _; unfold getattributeRaised; repeat (any_goals (first | assumption | wp_step)))
 all_goals (first | exact h _ _ ne.keeps | (dsimp only; repeat (any_goals (first | assumption | exact h _ _ ne.keeps | wp_step))))
theorem Qj {R:Result->Shared->Prop} {D0 it tu:Addr} {row:Array Value} {res:Value} (hh:A.handled=none) (n1:tu≠it) (n2:D0≠it) (n3:D0≠tu) :
  ∀ (todo:List (Key×Value)) (i:Nat) (got:List (Key×Value)) (ix:Int) (t:Tok) (s:Shared),row.size=i+todo.length->got.length+todo.length<=sizeLine ->
   (∀ (j:Nat) (q:Key×Value),todo[j]?=some q->∃ (b:Addr) (u:Value),row[i+j]?=some (.ref b)/\b≠D0/\b≠it/\IsTup s.heap b #[u,q.2]/\keyIs q.1 u=true) ->
   s.heap.IsTupleIter it tu i->s.heap.IsTuple tu row->s.heap.DictOf (mixKind P w) D0 got ->
   (∀ h' tk,h'.DictOf (mixKind P w) D0 (merged got todo)->(∀ b o,b≠D0->b≠it->s.heap.get? b=some o->h'.get? b=some o)->R (.ok (.ret res)) { s with heap:=h',toks:=tk }) ->
   codeAny (model P w) A (.builtin "dict.update.loop" ⟨[.ref D0,.ref it,.int ix t,res],[]⟩) R s
 | [],i,got,ix,t,s,z1,z2,hp,hit,hl,hm,hR=>by
   refine codeAny_builtin ud_entry (by
    rw [Around.under_plainId ud_plain _]
    show wpAny _ A.in1 (pyNext (.ref it) >>= _) _ _ s;refine wpAny_bind (wpAny_pyNext_tuple_end (A:=A.in1) hh hit hl (by first | exact Array.getElem?_eq_none (Nat.le_of_eq z1) | (simp at z1; simp; omega)) fun h' he => ?_)
    show wpAny _ A.in1 (Builtin.Dict.addKeywords D0 [] >>= _) _ _ _;exact wpAny_bind (wpAny_pure (wpAny_pure (hR h' s.toks (hm.extBut he n2) fun b o _ hb e=>he b o hb e))))
 | q :: todo,i,got,ix,t,s,z1,z2,hp,hit,hl,hm,hR=>by
   obtain ⟨b,u,eb,bD,bI,tp,hk⟩:=hp 0 q rfl;rw [List.length_cons] at z1 z2;refine codeAny_builtin ud_entry (by
    rw [Around.under_plainId ud_plain _]
    show wpAny _ A.in1 (pyNext (.ref it) >>= _) _ _ s;refine wpAny_bind (wpAny_pyNext_tuple_item (x:=.ref b) hit hl (by simpa using eb) fun h1 hit1 sb1 => ?_);have tp1:IsTup h1 b #[u,q.2]:=tp.extBut sb1.extBut bI;have hl1:h1.IsTuple tu row:=hl.extBut sb1.extBut n1;have hm1:h1.DictOf (mixKind P w) D0 got:=hm.extBut sb1.extBut n2;obtain ⟨o,ho,hc,n,hd⟩:=id tp1
    show wpAny _ A.in1 (holding [Value.ref b] _ >>= _) _ _ _;refine wpAny_bind (wpAny_holding (wpAny_bind (wpAny_tryCatch ?_)));unfold Builtin.Dict.pairItems;refine wpAny_bind (wpAny_typeOf (T:="tuple") ⟨o,ho,hc⟩ ?_);rw [if_pos (by first | decide | rfl | simp)];refine wpAny_bind (wpAny_seqItems ho hd (wpAny_pure ?_))
    show wpAny _ A.in1 (holding [u,q.2] (dictSet D0 u q.2)) _ _ _;refine wpAny_holding (wpAny_dictSet_pairs (knd:=mixKind P w) (k:=q.1) hk hm1 (fun h2 hm2 sb2=>wpAny_pure ⟨plainId_quiet ud_plain _,Qj (row:=row) hh n1 n2 n3 todo (i+1) (stored got q.1 q.2) (ix+1) 0 _ (show row.size=i+1+todo.length by omega) ?_ (fun j q' e => ?_) ?_ ?_ hm2 fun h' tk hd' kp => ?_⟩) (by omega))
    ·have z3:=stored_length_le got q.1 q.2
     omega
    ·obtain ⟨b',u',eb',bD',bI',tp',hk'⟩:=hp (j+1) q' (by simpa using e)
     exact ⟨b',u',by rw [show i+1+j=i+(j+1) by omega]; exact eb',bD',bI',(tp'.extBut sb1.extBut bI').extBut sb2.extBut bD',hk'⟩
    ·exact hit1.at fun o' e=>sb2.extBut it o' (Ne.symm n2) e
    ·exact hl1.extBut sb2.extBut (Ne.symm n3)
    ·exact hR h' tk hd' fun c oc h3 h4 e=>kp c oc h3 h4 (sb2.extBut c oc h3 (sb1.extBut c oc h4 e)))
theorem PF {s:Shared} {l:Addr} {ol:Obj} {row:Array Value} {n:Nat} {prs:List (Key×Value)} {Q:Value->Shared->Prop} (hh:A.handled=none) (hl:s.heap.get? l=some ol) (hc:ol.cls = .type "tuple") (hd:ol.dict=none)
  (hdat:ol.data = .seq row n) (hsz:row.size=prs.length) (hln:prs.length<=sizeLine)
  (ht:∀ (j:Nat) (q:Key×Value),prs[j]?=some q->∃ (b:Addr) (u:Value),row[j]?=some (.ref b)/\IsTup s.heap b #[u,q.2]/\keyIs q.1 u=true)
  (h:∀ h' tk,h'.DictOf (mixKind P w) s.heap.objs.size (merged [] prs)->(∀ b o,s.heap.get? b=some o->h'.get? b=some o)->Q (.ref s.heap.objs.size) { s with heap:=h',toks:=tk }) :
  wpAny (model P w) A (call (.type "dict") [.ref l]) Q E s:=by
 refine callType_codes (Q₁:=fun obj s₁=>obj = .ref s.heap.objs.size/\s₁={ s with heap:=s.heap.push { cls:=.type "dict",data:=.dict #[] } }) PySem.F.kt_called_dict (PySem.F.kt_typeCall_dict_1 _) PySem.F.entry_dict_init (kt_code_dict_new _ ⟨rfl,rfl⟩) fun obj s1 ho => ?_;obtain ⟨rfl,rfl⟩:=ho;have new0:(s.heap.push { cls:=.type "dict",data:=.dict #[] }).DictOf (mixKind P w) s.heap.objs.size []:=Heap.DictOf.new s.heap;have kp0:∀ b o,s.heap.get? b=some o->(s.heap.push { cls:=.type "dict",data:=.dict #[] }).get? b=some o:=fun b o e=>Heap.get?_push_of_some _ e;refine ⟨new0.typeIs,PySem.F.args_dict_init_2 _ _,?_⟩
 (unfold Builtin.«dict.__init__»; refine wpAny_bind ?_; unfold Builtin.Dict.selfAndRest; refine wpAny_bind (wpAny_notOrdered_dict new0.typeIs ?_))
 (show wpAny _ _ (pure (s.heap.objs.size,[Value.ref l])) _ _ _; refine wpAny_pure ?_; show wpAny _ _ (Builtin.Dict.updateFrom "dict.__init__" s.heap.objs.size (.ref l) [] .none) _ _ _; unfold Builtin.Dict.updateFrom)
 refine wpAny_bind (wpAny_typeOf (T:="tuple") ⟨ol,kp0 _ _ hl,hc⟩ ?_);rw [if_pos (by first | decide | rfl | simp)];refine wpAny_bind (Ip (kp0 _ _ hl) hc hdat hd hh fun h1 tk1 kp1 => ?_)
 (rw [if_pos (show (none:Option Value).isNone=true from rfl)]; refine wpAny_bind (wpAny_rule ?_))
 have hl1:h1.IsTuple l row:=⟨ol,kp1 _ _ (kp0 _ _ hl),hc,n,hdat⟩;have lt1:s.heap.objs.size < h1.objs.size:=by
  have e:(s.heap.push { cls:=.type "dict",data:=.dict #[] }).get? s.heap.objs.size=some { cls:=.type "dict",data:=.dict #[] }:=Heap.get?_push_size _ rfl;exact Heap.lt_size (kp1 _ _ e)
 refine wpAny_bind (wpAny_pyIter_tuple hl1 ?_);have kp2:∀ b o,h1.get? b=some o->(h1.push { cls:=.type "tuple_iterator",data:=.fields #[.ref l,.int 0 0] }).get? b=some o:=fun b o e=>Heap.get?_push_of_some _ e;have llt:l < s.heap.objs.size:=Heap.lt_size hl;have key:=Qj (P:=P) (w:=w) (A:=A.in1) (R:=wants (fun r s2=>r = .none/\Q (.ref s.heap.objs.size) s2) E) (D0:=s.heap.objs.size) (it:=h1.objs.size) (tu:=l) (row:=row) (res:=Value.none) hh
  (Nat.ne_of_lt (Nat.lt_trans llt lt1)) (Nat.ne_of_lt lt1) (Nat.ne_of_gt llt) prs 0 [] 0 0
  { s with heap:=h1.push { cls:=.type "tuple_iterator",data:=.fields #[.ref l,.int 0 0] },toks:=tk1 } (by rw [hsz,Nat.zero_add]) (by rw [List.length_nil,Nat.zero_add]; exact hln)
  (fun j q e=>by
   obtain ⟨b,u,e1,e2,e3⟩:=ht j q e;have blt:b < s.heap.objs.size:=e2.lt;exact ⟨b,u,by rw [Nat.zero_add]; exact e1,Nat.ne_of_lt blt,Nat.ne_of_lt (Nat.lt_trans blt lt1),e2.keeps fun c o z=>kp2 _ _ (kp1 _ _ (kp0 _ _ z)),e3⟩)
  ⟨_,Heap.get?_push_size _ rfl,rfl,rfl⟩ (hl1.at fun o e=>kp2 _ _ e) ((new0.at fun o e=>kp1 _ _ e).at fun o e=>kp2 _ _ e)
  (fun h' tk hd' kp=>⟨rfl,h h' tk hd' fun b o e=>kp b o (Nat.ne_of_lt (Heap.lt_size e)) (Nat.ne_of_lt (Nat.lt_trans (Heap.lt_size e) lt1)) (kp2 _ _ (kp1 _ _ (kp0 _ _ e)))⟩)
 first
  | exact wpAny_pure ⟨plainId_quiet ud_plain _,key⟩
  | exact wpAny_bind (wpAny_pure (wpAny_pure ⟨plainId_quiet ud_plain _,key⟩))
end
end FL
namespace FL
open PySem PySem.Spec PyProof.Rows L2
section
variable {X : Cx} {W : WX} {es : List Expr} {pos : Pos} {t : TA}
def Aj (t:TA):TE:=fun σ H Q=>t σ H fun xs H1=>xs.length<=sizeLine/\∀ a o,H1 a=none->o.dict=none->Q (.ref a) (upd H1 a (.frz o (.tup xs)))
theorem Ft {k:Nat} (h:PA X es t):PE X (.Tuple es k pos) (Aj t):=by
 refine ⟨fun pins s σ H Q I hq=>wpAny_Tuple_spliced (thn (h.run pos pins s σ H _ I hq) fun us s1 ⟨xs,H1,I1,r,z,q⟩=>⟨by rw [← r.length]; exact z,?_⟩)⟩;have fresh:H1 s1.heap.objs.size=none:=I1.hok.fresh (Nat.le_refl _);exact ⟨.ref s1.heap.objs.size,upd H1 s1.heap.objs.size (.frz { cls:=.type "tuple",data:=.seq us.toArray } (.tup xs)),I1.laid (t':=s1.toks) (fun b u e=>Heap.get?_push_of_some _ e) (Nat.le_refl _) ⟨Heap.get?_push_size _ rfl,z,us,r,⟨_,Heap.get?_push_size _ rfl,rfl,_,rfl⟩⟩,rfl,q _ _ fresh rfl⟩
def MR (ms:List ME):ME:=fun δ μ=>(XF ms δ μ).bind fun ds δ1 μ1=>if ds.length<=16777216 then .ok (.fr (.rc ds)) δ1 μ1 else .bad
theorem Io {k:Nat} {ms:List ME} (h:JA X W es ms):JE X W (.Tuple es k pos) (MR ms):=by
 refine (Ft h).imp fun σ H Q ⟨Z,F,ρ,μ,δ,S,q⟩=>⟨Z,F,ρ,μ,δ,S,(FinE.bind q).imp fun ds δ1 μ1 H1 F1 ρ1 l lr S1 ⟨_,_,_,p⟩ vs hv => ?_⟩;by_cases hz:ds.length<=16777216
 ·rw [if_pos hz] at p
  refine ⟨by rw [hv.len,sizeLine_eq]; exact hz,fun a o ha hd => ?_⟩;obtain ⟨n1,n2,n3,n4⟩:=S1.notIn ha;have S2:=S1.laid (o:=.frz o (.tup vs)) ha;obtain ⟨l3,S3⟩:=S2.freeze (p:=a) upd_same ⟨n1,n2,n3⟩ n4;exact p _ _ ρ1 l3 .refl S3 _ ⟨.rc upd_same hd (hv.up l3.to fun _ _ h=>h),fun o p z=>by cases z⟩
 ·rw [if_neg hz] at p; exact p.elim
def UZ (X:Cx):List V->Hp->VK->Prop:=fun xs H Q => ∃ (a:Addr) (o:Obj) (ps:List Addr) (kvs:List (Key×V)),xs=[.ref a]/\H a=some (.frz o (.tup (ps.map V.ref)))/\o.dict=none/\Paired (fun p kv=>SqT X.K H p [kV kv.1,kv.2]) ps kvs /\
 ∀ p,H p=none->Q (.ref p) (upd H p (.dK (mergeK [] kvs)))
theorem Im (hcalm:X.calm=true):CallR X (.type "dict") (UZ X):=by
 intro pins s σ H xs us Q I r q;obtain ⟨a,o,ps,kvs,ex,hq,hdn,hp,q⟩:=q;subst ex;obtain ⟨u,eu,rx⟩:=vals1 r;subst eu;cases rx;obtain ⟨ho,hz,its,rv,o',ho',hc,n,hdat⟩:=I.hok a _ hq;rw [ho] at ho';cases ho';obtain rfl:=refs_at rv;obtain ⟨prs,rel,hl,hpr⟩:=pairs_of I hp;rw [List.length_map] at hz;have hm:(s.heap.objs.size == sysModules)=false:=beq_eq_false_iff_ne.mpr (Nat.ne_of_gt I.big);refine PF (prs:=prs) (I.ok.hd hcalm) ho hc hdn hdat (by simp [hl]) (by rw [hl]; exact hz) (fun j q' e => ?_) fun h' tk hd' k =>
  ⟨.ref s.heap.objs.size,upd H s.heap.objs.size (.dK (mergeK [] kvs)),I.laid (t':=tk) k (Nat.le_refl _) (show ObjOk X.prog X.w _ _ _ (.dK (mergeK [] kvs)) from ⟨?_,hm,merged [] prs,KV.merge rel .nil,hd'⟩),rfl,q _ (I.hok.fresh (Nat.le_refl _))⟩
 ·obtain ⟨b,u,e1,e2,e3⟩:=hpr j q' e
  exact ⟨b,u,by simp [e1],e2,e3⟩
 ·refine Nat.le_trans (length_mergeK kvs []) ?_
  rw [List.length_nil,Nat.zero_add,rel.length,hl];exact hz
def DW:List D->Option (DK×D)
 | [k,v]=>(Yo k).map fun kk=>(kk,v)
 | _=>none
def pairD:D->Option (DK×D)
 | .tup l=>DW l
 | _=>none
def Vi:List D->Option (List (DK×D))
 | []=>some []
 | x :: xs=>(pairD x).bind fun p=>(Vi xs).map fun r=>p :: r
def mergeA (kds more:List (DK×D)):List (DK×D):=more.foldl (fun acc p=>YH acc p.1 p.2) kds
theorem KV.mergeA {K:PySem.W.Frag} {mg:Str->Option Value} {F:Hp} {ρ:List Addr}:∀ {mk:List (Key×V)} {md:List (DK×D)} {kvs:List (Key×V)} {kds:List (DK×D)},KV K mg F ρ mk md->KV K mg F ρ kvs kds->KV K mg F ρ (mergeK kvs mk) (FL.mergeA kds md)
 | _,_,_,_,.nil,h=>h
 | _,_,kvs0,kds0,@KV.cons _ _ _ _ k1 v1 d1 _ _ r t,h=>KV.mergeA (kvs:=putK kvs0 k1.key v1) (kds:=YH kds0 k1 d1) t (h.put r)
theorem Fq {Z F H:Hp} {ρ:List Addr} {μ:Mem} {δ:Loc} {σ:L2.St} (S:Sim X.K X.mg Z F ρ μ δ σ H) {v:V} {d:D} {kk:DK} {x:D} (h:Rep X.K X.mg F ρ v d) (e:pairD d=some (kk,x)) :
  ∃ p y,v=V.ref p/\SqT X.K H p [kV kk.key,y]/\Rep X.K X.mg F ρ y x:=by
 cases d <;> first | (cases e; done) | skip
 rename_i l
 have ep:DW l=some (kk,x):=e;obtain ⟨p,vs',rfl,hq,rl⟩:=(Bor.fr (H:=H) h).tup S;cases rl with
 | nil=>cases ep
 | cons r1 t1 =>
   cases t1 with
   | nil=>cases ep
   | cons r2 t2 =>
     cases t2 with
     | nil =>
       obtain ⟨k2,ek,e2⟩:=Option.map_eq_some_iff.mp ep;injection e2 with e3 e4
       subst e3 e4;have e5:=RN r1 ek;subst e5;exact ⟨p,_,rfl,hq,r2⟩
     | cons r3 t3=>cases ep
theorem KQ {Z F H:Hp} {ρ:List Addr} {μ:Mem} {δ:Loc} {σ:L2.St} (S:Sim X.K X.mg Z F ρ μ δ σ H):∀ {ds:List D} {vs:List V} {kds:List (DK×D)},RepL X.K X.mg F ρ vs ds->Vi ds=some kds->∃ (ps:List Addr) (kvs:List (Key×V)),vs=ps.map V.ref/\Paired (fun p kv=>SqT X.K H p [kV kv.1,kv.2]) ps kvs/\KV X.K X.mg F ρ kvs kds:=by
 intro ds
 induction ds with
 | nil =>
   intro vs kds r e;cases r;cases e;exact ⟨[],[],rfl,.nil,.nil⟩
 | cons d ds ih =>
   intro vs kds r e;cases r with
   | cons h t =>
     unfold Vi at e;obtain ⟨⟨kk,x⟩,ep,e⟩:=Option.bind_eq_some_iff.mp e;obtain ⟨r,er,rfl⟩:=Option.map_eq_some_iff.mp e;obtain ⟨ps,kvs,rfl,hp,kv⟩:=ih t er;obtain ⟨p,y,rfl,hq,r2⟩:=Fq S h ep;exact ⟨p :: ps,(kk.key,y) :: kvs,rfl,.cons hq hp,.cons r2 kv⟩
def Fp:D->Option Slot
 | .fx .rc [] xs=>(Vi xs).map fun kds=>.own (Zl (FL.mergeA [] kds))
 | _=>none
def PD:List D->Option Slot:=fun ds=>match ds with
 | [d]=>Fp d
 | _=>none
theorem LH {Z F:Hp} {ρ:List Addr} {μ:Mem} {δ:Loc} {σ:L2.St} {H:Hp} {p:Addr} {kvs:List (Key×V)} {kds:List (DK×D)} (S:Sim X.K X.mg Z F ρ μ δ σ H) (hp:H p=none) (r:KV X.K X.mg F ρ kvs kds) :
  Sim X.K X.mg Z F ρ μ δ σ (upd H p (.dK kvs))/\VR X.K X.mg Z F ρ δ σ (upd H p (.dK kvs)) (.ref p) (.own (Zl kds)):=by
 obtain ⟨n1,n2,n3,n4⟩:=S.notIn hp;exact ⟨S.laid hp,⟨p,rfl,⟨n1,n2,n3⟩,Td r upd_same⟩,fun o p z z2=>by cases z2; exact n4⟩
theorem Fo:RLJ X (UZ X) PD:=by
 intro Z F ρ μ δ σ H xs ds s Q S b e q;unfold PD at e
 split at e
 ·rename_i d
  obtain ⟨v,rfl,hb⟩:=b.one;cases d <;> first | (cases e; done) | skip
  rename_i m' ks' row
  cases m' <;> cases ks' <;> first | (cases e; done) | skip
  obtain ⟨kds,e1,rfl⟩:=Option.map_eq_some_iff.mp (show (Vi row).map _=some s from e);obtain ⟨p,o,vs,rfl,hq,hd,r⟩:=hb.rc S;obtain ⟨ps,kvs,rfl,hp,kv⟩:=KQ S r e1;refine ⟨p,o,ps,kvs,rfl,hq,hd,hp,fun l hl => ?_⟩;obtain ⟨S',vr⟩:=LH S hl (KV.mergeA kv .nil);exact q _ _ F .refl S' vr
 ·cases e
abbrev MQ:List V->Hp->VK->Prop:=fun xs H Q => ∃ (a:Addr) (kvs:List (Key×V)),xs=[.ref a]/\Rd H a (.dK kvs)/\∀ p,H p=none->Q (.ref p) (upd H p (.dK kvs))
theorem Fn:RLJ X MQ Rq:=by
 intro Z F ρ μ δ σ H xs ds s Q S b e q;unfold Rq at e
 split at e
 ·rename_i d
  obtain ⟨v,rfl,hb⟩:=b.one;obtain ⟨⟨ks,vs⟩,ed,e⟩:=Option.bind_eq_some_iff.mp e;dsimp only at e;by_cases hl:ks.length=vs.length
  ·rw [if_pos hl] at e
   cases e;obtain ⟨p,ws,rfl,hr,hl2,r⟩:=VO S hb ed;refine ⟨p,_,rfl,hr,fun l hn => ?_⟩;obtain ⟨S',vr⟩:=LH S hn (KV.of hl2 r);have e2:Zl (ks.zip vs) = .dct ks vs:=by
    unfold Zl;rw [show (ks.zip vs).map (·.1)=ks from List.map_fst_zip (Nat.le_of_eq hl),show (ks.zip vs).map (·.2)=vs from List.map_snd_zip (Nat.le_of_eq hl.symm)]
   rw [e2] at vr;exact q _ _ F .refl S' vr
  ·rw [if_neg hl] at e; cases e
 ·cases e
def UC:List D->Option Slot:=fun x=>(PD x).or (Rq x)
theorem PB (hc:X.calm=true):CallR X (.type "dict") (fun xs H Q=>UZ X xs H Q\/MQ xs H Q):=(Im hc).or call_dictD
theorem MP:RLJ X (fun xs H Q=>UZ X xs H Q\/MQ xs H Q) UC:=RLJ.or Fo Fn
abbrev LG (neg:Bool):R2:=fun y x H Q => ∃ a o,x = .ref a/\DGet H a y o/\Q (.bl (o.isSome != neg)) H
theorem Il (neg:Bool):R2J X (LG neg) (Vw neg):=by
 intro Z F ρ μ δ σ H y x dy dx s Q S bY bx e q;obtain ⟨⟨ks,ds⟩,ed,e⟩:=Option.bind_eq_some_iff.mp e;obtain ⟨kk,ek,rfl⟩:=Option.map_eq_some_iff.mp e;obtain ⟨a,r,rfl,g,hr⟩:=RK S bx ed bY ek;refine ⟨a,r,rfl,g,q _ H F .refl S ⟨?_,fun o p z=>by cases z⟩⟩;rcases hr with ⟨v,d,rfl,eg,_⟩ | ⟨rfl,eg⟩
 ·rw [eg]; exact .bl
 ·rw [eg]; exact .bl
theorem vk {a b:Expr} {oa ob:Opn} (hu:X.A.units+1 < cLine) (ha:JO X W a oa) (hb:JO X W b ob) (hm:behindInMarks .In b=false:=by rfl):JE X W (.Compare a [.In] [b] pos) (m2 (Vw false) oa ob) :=
 (pe_cmp (pc_din hu ha hb) hm).imp fun σ H Q h=>by
  have:=W5 (Il false) σ H Q h;simpa only [tOp,tDIn,LG,Bool.bne_false] using this
end
end FL
namespace FL
open PySem PySem.Spec PyProof.Rows L2 PySem.SeqAt
section
variable {M : Model} {P : Program} {w : World} {A : Around} {E : Value -> Shared -> Prop} {s : Shared} {K : PySem.W.Frag} {x y C : Addr} {ox oy : Obj} {od oe : Option Obj}
theorem Qi {R:Bool->Shared->Prop} (hx:s.heap.get? x=some ox) (hy:s.heap.get? y=some oy) (hc:ox.cls = .ref C) (h:R (decide (x=y)) s):wpAny M A (isSame (.ref x) (.ref y)) R E s:=by
 by_cases e:x=y
 ·subst e
  rw [decide_eq_true rfl] at h;exact wpAny_isSame_ref_self h
 ·rw [decide_eq_false e] at h
  have e' : ¬ ((x == y)=true):=by simpa using e
  unfold isSame;simp only [if_neg e'];refine wpAny_bind (wpAny_load hx (wpAny_bind (wpAny_load hy ?_)));simp only [hc];exact wpAny_pure h
theorem Ik {Q:PySem.Fin->Shared->Prop} (hx:s.heap.get? x=some ox) (hy:s.heap.get? y=some oy) (hc:ox.cls = .ref C) (hq:Q (.done (.ret (if x=y then .bool true else .notImplemented))) s) :
  wpAny M A (Builtin.«object.__eq__» ⟨[.ref x,.ref y],[]⟩) Q E s:=by
 (unfold Builtin.«object.__eq__»; show wpAny M A (isSame (.ref x) (.ref y) >>= _) Q E s)
 refine wpAny_bind (Qi hx hy hc ?_);by_cases e:x=y
 ·rw [if_pos e] at hq
  rw [decide_eq_true e];exact wpAny_pure hq
 ·rw [if_neg e] at hq
  rw [decide_eq_false e];exact wpAny_pure hq
theorem Ij (X:K.In s.heap) (I:PySem.W.InstAt s.heap x ox C od) (hy:s.heap.get? y=some oy) (hx:s.heap.get? x=some ox) (hc:ox.cls = .ref C) (hm:PySem.W.mroIn K C (.type "object")=some true) (hs:PySem.W.findIn K (.ref C) "__eq__" = some (some (.builtin "object.__eq__"))) :
  wpAny (model P w) A (tryCompare (.ref x) "__eq__" (.ref y)) (fun r s' => r=(if x=y then some (.bool true) else none)/\s'=s) E s:=by
 unfold tryCompare;refine wpAny_bind (HN.ifBound_objEq X I hs (wpAny_call (codeAny_call_builtin F.cmp_object.eq.plain F.cmpEntry_eq (PySem.W.check_slot F.cmpKind_eq F.cmpSplit_eq (I.type.andThen (PySem.W.looks_mroIn X hm)) (F.cmpArgs_eq _ _) (Ik hx hy hc ?_)))));by_cases e:x=y
 ·rw [if_pos e,if_pos e]
  exact wpAny_pure ⟨rfl,rfl⟩
 ·rw [if_neg e,if_neg e]
  exact wpAny_pure ⟨rfl,rfl⟩
theorem Ai (hu:A.units < cLine) (X:K.In s.heap) (I:PySem.W.InstAt s.heap x ox C od) (J:PySem.W.InstAt s.heap y oy C oe) (hx:s.heap.get? x=some ox) (hy:s.heap.get? y=some oy) (hc:ox.cls = .ref C) (hc2:oy.cls = .ref C) (hm:PySem.W.mroIn K C (.type "object")=some true) (hs:PySem.W.findIn K (.ref C) "__eq__" = some (some (.builtin "object.__eq__"))) :
  RcAt A s (.ref x) (.ref y) (decide (x=y)):=fun P w E Q h=>by
 have one:=Ij (P:=P) (w:=w) (A:=A) (E:=E) X I hy hx hc hm hs;have two:=Ij (P:=P) (w:=w) (A:=A) (E:=E) X J hx hy hc2 hm hs;simp only [richCompare,cmpInfo_Eq,oneThing_ref];refine wpAny_holding (wpAny_bind (wpAny_cRoomFor hu (wpAny_bind (I.type.here (wpAny_bind (J.type.here ?_))))));rw [if_neg (by simp)];refine wpAny_bind (wpAny_pure ?_);simp only [Bool.false_eq_true,if_false,Bool.not_false,if_true];refine wpAny_bind (m:=tryCompare (.ref x) _ (.ref y)) (wpAny_mono one (fun r s1 z => ?_) fun _ _ e=>e);obtain ⟨rfl,rfl⟩:=z;by_cases e:x=y
 ·rw [decide_eq_true e] at h
  rw [if_pos e];exact wpAny_pure h
 ·rw [decide_eq_false e] at h
  rw [if_neg e];refine wpAny_bind (m:=tryCompare (.ref y) _ (.ref x)) (wpAny_mono two (fun r s2 z => ?_) fun _ _ e=>e);obtain ⟨rfl,rfl⟩:=z;rw [if_neg (Ne.symm e)];refine wpAny_bind (wpAny_rule (wpAny_bind (Qi hx hy hc (wpAny_pure ?_))));rw [decide_eq_false e];exact h
theorem Co (hu:A.units < cLine) (X:K.In s.heap) (I:PySem.W.InstAt s.heap x ox C od) (hm:PySem.W.mroIn K C (.type "object")=some true) (hs:PySem.W.findIn K (.ref C) "__eq__" = some (some (.builtin "object.__eq__"))) (hn:PySem.W.subIn K (.ref C) (.type "NoneType")=some false) :
  RcAt A s .none (.ref x) false:=fun P w E Q h=>by
 have one:wpAny (model P w) A (tryCompare (.ref x) "__eq__" .none) (fun r s' => r=none/\s'=s) E s:=by
  unfold tryCompare;exact wpAny_bind (HN.ifBound_objEq X I hs (HN.call_objEq X I hm (wpAny_pure ⟨rfl,rfl⟩)))
 have two:wpAny (model P w) A (tryCompare .none "__eq__" (.ref x)) (fun r s' => r=none/\s'=s) E s :=
  wpAny_tryCompare_declines (show s.TypeIs .none "NoneType" from rfl) F.slot_NoneType_eq (call_gives F.slot_NoneType_eq rfl F.entry_NoneType_eq (F.args_NoneType_eq_2 _ _) (NoneType___eq___none_ref_0 x) ⟨rfl,rfl,rfl⟩)
 simp only [richCompare,cmpInfo_Eq];rw [show oneThing? .Eq .none (.ref x)=none from rfl];refine wpAny_holding (wpAny_bind (wpAny_cRoomFor hu (wpAny_bind (wpAny_typeOf (show s.TypeIs .none "NoneType" from rfl) (wpAny_bind (I.type.here ?_))))));rw [if_pos (by simp)];refine wpAny_bind ((PySem.W.looks_subIn X hn).here ?_);simp only [Bool.false_eq_true,if_false,Bool.not_false,if_true];refine wpAny_bind (m:=tryCompare .none _ (.ref x)) (wpAny_mono two (fun r s1 z => ?_) fun _ _ e=>e);obtain ⟨rfl,rfl⟩:=z;refine wpAny_bind (m:=tryCompare (.ref x) _ .none) (wpAny_mono one (fun r s2 z => ?_) fun _ _ e=>e);obtain ⟨rfl,rfl⟩:=z;exact wpAny_bind (wpAny_rule (wpAny_bind (wpAny_of_eq (rfl:isSame .none (.ref x)=pure false) (wpAny_pure h))))
end
structure IdC (K:PySem.W.Frag) (C:Addr):Prop where
 ob:PySem.W.mroIn K C (.type "object")=some true
 eq:PySem.W.findIn K (.ref C) "__eq__" = some (some (.builtin "object.__eq__"))
 nn:PySem.W.subIn K (.ref C) (.type "NoneType")=some false
def Fl (K:PySem.W.Frag) (mg:Str->Option Value) (cs:List String):Prop:=∀ c∈cs,∀ C,mg (Str.ofString c)=some (.ref C)->IdC K C
def Ah (X:Cx):R2:=fun x y H Q => ∃ q C dy gs,y = .ref q/\H q=some (.ins C dy gs)/\IdC X.K C/\((x = .non/\Q (.bl false) H)\/∃ p dx fs,x = .ref p/\H p=some (.ins C dx fs)/\Q (.bl (decide (p=q))) H)
section
variable {X : Cx} {W : WX} {a b : Expr} {pos : Pos} {ma mb : ME} {k : Nat} {N : List Str} {sc : Scope}
theorem Cn (hu:X.A.units < cLine):OpR X (compareOp .Eq) (Ah X):=by
 intro pins s σ H x y v u Q I rx ry h;obtain ⟨q,C,dy,gs,rfl,hq,c,h⟩:=h;cases ry;obtain ⟨mq,O,_⟩:=ins_get I.hok hq;obtain ⟨oq,J,_⟩:=O.look;obtain ⟨_,_,_,gq,_⟩:=I.hok q _ hq
 show wpAny (model X.prog X.w) X.A (richCompare .Eq v (.ref q)) (EP X pins σ Q) X.xe s;rcases h with ⟨rfl,h⟩ | ⟨p,dx,fs,rfl,hp,h⟩
 ·cases rx
  exact Co hu I.kIn J c.ob c.eq c.nn X.prog X.w X.xe _ ⟨.bl false,H,I,rfl,h⟩
 ·cases rx
  obtain ⟨mp,O',_⟩:=ins_get I.hok hp;obtain ⟨op,J',_⟩:=O'.look;obtain ⟨_,_,_,gp,_⟩:=I.hok p _ hp;exact Ai hu I.kIn J' J gp gq rfl rfl c.ob c.eq X.prog X.w X.xe _ ⟨.bl _,H,I,rfl,h⟩
def Pz (μ:Mem) (k:Nat):Option String:=match μ[k]? with
 | some (.ins c _ _ _)=>some c
 | _=>none
def Ag (cs:List String) (μ:Mem):D->D->Option Bool
 | .non,.obj j=>(Pz μ j).bind fun c=>if c∈cs then some false else none
 | .obj i,.obj j=>(Pz μ i).bind fun c=>(Pz μ j).bind fun c' => if c=c'/\c∈cs then some (decide (i=j)) else none
 | _,_=>none
def Ii (cs:List String) (ma mb:ME):ME:=fun δ μ=>(ma δ μ).bind fun sa δ1 μ1=>(mb δ1 μ1).bind fun sb δ2 μ2=>match Ag cs μ2 sa.d sb.d with
 | some r=>.ok (.fr (.bl r)) δ2 μ2
 | none=>.bad
theorem Py {Z F H:Hp} {ρ:List Addr} {μ:Mem} {δ:Loc} {σ:L2.St} {v:V} {i:Nat} {c:String} (S:Sim X.K X.mg Z F ρ μ δ σ H) (h:Rep X.K X.mg F ρ v (.obj i)) (e:Pz μ i=some c) :
  ∃ p C dx fs,v = .ref p/\ρ[i]?=some p/\X.mg (Str.ofString c)=some (.ref C)/\H p=some (.ins C dx fs):=by
 unfold Pz at e;cases e1:μ[i]? with
 | none=>rw [e1] at e; cases e
 | some o =>
   rw [e1] at e;cases o with
   | ins c' kd ks ds =>
     cases e;obtain ⟨p,C,dx,vs,rfl,hm,hH,_,_⟩:=RB (d:=.obj i) (c:=c) (ks:=ks) (ds:=ds) S h (by simp only [Yt,e1]);cases h with
     | obj hr=>exact ⟨p,C,dx,_,rfl,hr,hm,hH⟩
   | _=>cases e
theorem Ih {cs:List String} (CC:Fl X.K X.mg cs):∀ σ H Q,Uw X W (Ii cs ma mb) σ H Q ->
  tOp (Ah X) (fun σ H Q => ∃ Z F ρ μ δ,Sim X.K X.mg Z F ρ μ δ σ H/\FinE X W Z F ρ σ (fun s δ' μ' F' ρ' H' => ∀ v,Rep X.K X.mg F' ρ' v s.d->Q v H') (ma δ μ))
   (fun σ H Q => ∃ Z F ρ μ δ,Sim X.K X.mg Z F ρ μ δ σ H/\FinE X W Z F ρ σ (fun s δ' μ' F' ρ' H' => ∀ v,Rep X.K X.mg F' ρ' v s.d->Q v H') (mb δ μ)) σ H Q:=by
 intro σ H Q ⟨Z,F,ρ,μ,δ,S,q⟩;refine ⟨Z,F,ρ,μ,δ,S,(FinE.bind q).imp fun sa δ1 μ1 H1 F1 ρ1 l1 lr1 S1 ⟨_,_,_,q1⟩ x hx => ?_⟩;refine ⟨Z,F1,ρ1,μ1,δ1,S1,(FinE.bind q1).imp fun sb δ2 μ2 H2 F2 ρ2 l2 lr2 S2 ⟨_,_,_,z⟩ y hy => ?_⟩;have hx2:=hx.up l2.to lr2.to;generalize sa.d=da at hx2 z;generalize sb.d=db at hy z;cases ei:Ag cs μ2 da db with
 | none=>simp only [ei] at z; exact z.elim
 | some r =>
   simp only [ei] at z;have fin:∀ r',r'=r->Q (.bl r') H2:=fun r' e=>by
    subst e;exact z H2 F2 ρ2 .refl .refl S2 _ (VR.fr' .bl)
   cases db <;> first | (cases da <;> (cases ei; done)) | skip
   rename_i j
   cases da <;> first | (cases ei; done) | skip
   ·obtain ⟨c,e1,e2⟩:=Option.bind_eq_some_iff.mp (show (Pz μ2 j).bind _=some r from ei)
    by_cases hc:c∈cs
    ·rw [if_pos hc] at e2
     obtain ⟨p,C,dx,fs,rfl,_,hm,hH⟩:=Py S2 hy e1;cases hx2;exact ⟨p,C,dx,fs,rfl,hH,CC c hc C hm,.inl ⟨rfl,fin _ (Option.some.inj e2)⟩⟩
    ·rw [if_neg hc] at e2; cases e2
   ·rename_i i
    obtain ⟨c,e1,e2⟩:=Option.bind_eq_some_iff.mp (show (Pz μ2 i).bind _=some r from ei);obtain ⟨c',e3,e4⟩:=Option.bind_eq_some_iff.mp e2;by_cases hc:c=c'/\c∈cs
    ·rw [if_pos hc] at e4
     obtain ⟨rfl,hc⟩:=hc;obtain ⟨q,C,dy,gs,rfl,hrq,hm,hH⟩:=Py S2 hy e3;obtain ⟨p,C',dx,fs,rfl,hrp,hm',hH'⟩:=Py S2 hx2 e1;rw [hm] at hm';cases hm';refine ⟨q,C,dy,gs,rfl,hH,CC c hc C hm,.inr ⟨p,dx,fs,rfl,hH',fin _ ?_⟩⟩;rw [← Option.some.inj e4,decide_eq_decide];constructor
     ·intro e
      subst e;exact (List.getElem?_inj (List.getElem?_eq_some_iff.mp hrp).1 S2.nod).mp (hrp.trans hrq.symm)
     ·intro e
      subst e;rw [hrp] at hrq;exact Option.some.inj hrq
    ·rw [if_neg hc] at e4; cases e4
end
end FL
namespace FL
open PySem PySem.Spec PyProof.Rows L2
section
variable {X : Cx} {W : WX} {k : Nat} {N : List Str} {sc : Scope} {e : Expr} {os : List Opn} {pos p pos' p' : Pos}
def DV (P:Program) (w:World):List V->Hp->VK->Prop:=fun xs H Q => ∃ (a:Addr) (l:List Str),xs=[V.ref a]/\H a=some (LO P w a l)/\Q (.int l.length) H
theorem Fj:CallR X (.builtin "len") (DV X.prog X.w):=by
 intro pins s σ H xs us Q I r h;obtain ⟨a,l,rfl,ha,q⟩:=h;have R:TxSet X.prog X.w s.heap a l:=(I.hok a _ ha).1;obtain ⟨D,g,ok,_⟩:=R.ob;have few:=R.few;rw [Vals.ref1 r];refine call_len_set g ⟨rfl,rfl,rfl⟩ rfl ok.fit (by rw [ok.sz]; unfold scanBound at few; omega) ?_;rw [ok.sz];exact ⟨.int l.length,H,I.tok _,⟨_,rfl⟩,q⟩
def Ck:D->Option Slot
 | .lst ys=>if ys.all IG=true/\ys.length < 4000 then some (.fr (.int ((ys.map MY).foldl N_ []).length)) else none
 | _=>none
def Qh:List D->Option Slot:=fun ds=>match ds with
 | [d]=>Ck d
 | _=>none
def sU (X:Cx):List V->Hp->VK->Prop:=fun xs H Q=>DZ X.K X.prog X.w xs H fun v H1=>DV X.prog X.w [v] H1 Q
theorem vj:RLJ X (sU X) Qh:=by
 intro Z F ρ μ δ σ H xs ds s Q S bs e q;unfold Qh at e
 split at e
 ·rename_i d
  obtain ⟨v,rfl,bv⟩:=bs.one;cases d <;> first | (cases e; done) | skip
  rename_i ys
  have e:(if ys.all IG=true/\ys.length < 4000 then some (Slot.fr (.int ((ys.map MY).foldl N_ []).length)) else none)=some s:=e;by_cases hc:ys.all IG=true/\ys.length < 4000
  ·rw [if_pos hc] at e
   cases e;obtain ⟨a,vs,rfl,hH,rl⟩:=bv.lst S;have hy:=IF hc.1;rw [hy] at rl;have hv:=N8 rl;subst hv;refine ⟨a,(ys.map MY).map toS,rfl,.of hH,by rw [List.length_map,List.length_map]; unfold scanBound; omega,fun b hb=>⟨b,_,rfl,upd_same,?_⟩⟩;have e2:(((ys.map MY).map toS).foldl Wl []).length=((ys.map MY).foldl N_ []).length:=by
    rw [show ([]:List Str)=([]:List Tx).map toS from rfl,N9,List.length_map]
   rw [e2];exact q _ _ F .refl (S.laid hb) ⟨.int,fun o p z=>by cases z⟩
  ·rw [if_neg hc] at e; cases e
 ·cases e
theorem Cs.lenSet (C:Cs X W k N sc) (h1:Th sc "len" = true) (m1:X.mg "len" = none) (h2:Th sc "set" = true) (m2:X.mg "set" = none) (ha:Ll X W [e] os)
  (he:starEach [e] X.env=(false,eval e X.env) :: starEach [] X.env:=by rfl)
  (he2:starEach [.Call (.Name "set" p') [e] [] pos'] X.env=(false,eval (.Call (.Name "set" p') [e] [] pos') X.env) :: starEach [] X.env:=by rfl) :
  JE X W (.Call (.Name "len" p) [.Call (.Name "set" p') [e] [] pos'] [] pos) (mC Qh os) :=
 (pe_callB Fj (C.gl h1).1 m1 PySem.boot_len (pa_cons (pe_callTy (FJ C.calm) (C.gl h2).1 m2 rfl ha (by decide) (by decide) he rfl) pa_nil he2) (by decide) (by decide) he2 rfl).imp (P8 vj)
end
end FL
namespace FL
open PySem PySem.Spec PyProof.Rows L2
section
variable {P : Program} {w : World} {A : Around} {E : Value -> Shared -> Prop} {s : Shared}
theorem Ig {d:Addr} {kvs:List (Key×Value)} {k:Key} {key v:Value} {Q:Unit->Shared->Prop} (hkey:(mixKind P w).is k key=true) (hm:s.heap.DictOf (mixKind P w) d kvs) (hz:kvs.length<=sizeLine)
  (hQ:∀ h',h'.DictOf (mixKind P w) d (stored kvs k v)->Heap.SameBut d s.heap h'->Q () { s with heap:=h' }):wpAny (model P w) A (dictPut d ((mixKind P w).hash k) key v) Q E s:=by
 obtain ⟨o,es,ep,ho,hc,hd,hk,hp,hn⟩:=hm;have hes:es.size<=sizeLine:=by
  have e1:=hp.length;have e2:es.toList.length=es.size:=by simp
  omega
 have idx:(es.findIdx? fun e=>(mixKind P w).is k e.key)=kvs.findIdx? fun kv=>decide (kv.1=k):=by
  rw [← hp.findIdx k];obtain ⟨l⟩:=es;simp
 unfold dictPut;refine wpAny_bind (wpAny_dictFind_of hkey ho hd hk ?_);cases hi:es.findIdx? fun e=>(mixKind P w).is k e.key with
 | some i =>
   refine wpAny_updateDict ho hd (hQ _ ⟨_,_,ep,Heap.get?_update_self _ ho (Obj.isFreed_of_dict (Obj.data_mapDict hd _)),hc.mapDict _,Obj.data_mapDict hd _,hk.modify _ _,?_,?_⟩ (Heap.SameBut.update ..))
   ·have hl:(es.toList.findIdx? fun e=>(mixKind P w).is k e.key)=some i:=by
     rw [← hi];obtain ⟨l⟩:=es;simp
    have:=hp.modify hn hl v;rw [stored,if_pos (any_of_findIdx_some (idx▸hi))];obtain ⟨l⟩:=es;simpa using this
   ·rw [stored,if_pos (any_of_findIdx_some (idx▸hi)),keys_map_store]
    exact hn
 | none =>
   have out:k∉kvs.map (·.1):=not_mem_of_findIdx_none (idx▸hi);have nany : ¬ (kvs.any fun kv=>decide (kv.1=k))=true:=by
    rw [List.any_eq_true];rintro ⟨kv,hkv,he⟩;exact out (List.mem_map.mpr ⟨kv,hkv,of_decide_eq_true he⟩)
   refine wpAny_updateDictKeys (hz:=hes) ho hd (hQ _ ⟨_,_,ep+1,Heap.get?_update_self _ ho (Obj.isFreed_of_dict (Obj.data_mapDictKeys hd _)),hc.mapDictKeys _,Obj.data_mapDictKeys hd _,hk.push hkey _,?_,?_⟩ (Heap.SameBut.update ..))
   ·have:=hp.append hkey ((mixKind P w).hash k) v
    rw [stored,if_neg nany];obtain ⟨l⟩:=es;simpa using this
   ·rw [stored,if_neg nany,List.map_append,List.nodup_append]
    exact ⟨hn,by simp,fun a ha b hb e=>out (by
     have hb':b=k:=by simpa using hb
     rw [← hb',← e];exact ha)⟩
theorem KP {k:Key} {v:Value} (h:(mixKind P w).is k v=true):∀ a,v ≠ .ref a:=by
 rcases keyIs_shape h with ⟨i,t,rfl,rfl⟩ | ⟨x,t,rfl,rfl⟩ <;> exact fun a e=>by cases e
theorem Cj {es:List DictEntry} {kvs:List (Key×Value)} (h:PySem.Pairs (mixKind P w) es kvs):∀ (i:Nat) (e:DictEntry),es[i]?=some e->∃ k,kvs[i]?=some (k,e.val)/\(mixKind P w).is k e.key=true:=by
 induction h with
 | nil=>intro i e h; simp at h
 | cons hk hv t ih =>
   intro i e h;cases i with
   | zero =>
     simp at h;subst h;exact ⟨_,by rw [hv]; rfl,hk⟩
   | succ i=>exact ih i e (by simpa using h)
theorem Rp:∀ (more got:List (Key×Value)),(merged got more).length<=got.length+more.length
 | [],got=>Nat.le_refl _
 | p :: more,got=>by
   have h1:=Rp more (stored got p.1 p.2);have h2:=stored_length_le got p.1 p.2
   show (merged (stored got p.1 p.2) more).length<=_;rw [List.length_cons];omega
theorem KO {d a:Addr} {got kvs:List (Key×Value)} {Q:Unit->Shared->Prop} (hda:a≠d) (hsm:(a == sysModules)=false) (h0:s.heap.DictOf (mixKind P w) d got) (ha:s.heap.DictOf (mixKind P w) a kvs) (hz:got.length+kvs.length<=sizeLine)
  (hQ:∀ h',h'.DictOf (mixKind P w) d (merged got kvs)->Heap.SameBut d s.heap h'->Q () { s with heap:=h' }):wpAny (model P w) A (mergeMapping d (.ref a) false) Q E s:=by
 obtain ⟨od,esd,epd,god,hcd,hdd,_⟩:=id h0;obtain ⟨oa,esa,epa,goa,hca,hda',hka,hpa,hna⟩:=id ha;have hlen:esa.size=kvs.length:=by
  have e1:=hpa.length;simpa using e1
 have loop:∀ (f:Nat->PUnit->Sem (ForInStep PUnit)) (Q2:PUnit->Shared->Prop),(∀ i s' e,esa[i]?=some e->s'.heap.get? a=some oa->∀ (R:Unit->Shared->Prop) (R2:ForInStep PUnit->Shared->Prop),wpAny (model P w) A (dictPut d e.hash e.key e.val) R E s'->(∀ s2,s2.heap.get? a=some oa->R () s2->R2 (.yield PUnit.unit) s2)->(∀ s2,R () s2->s2.heap.get? a=some oa)->wpAny (model P w) A (f i PUnit.unit) R2 E s') ->
   (∀ h',h'.DictOf (mixKind P w) d (merged got kvs)->Heap.SameBut d s.heap h'->Q2 PUnit.unit { s with heap:=h' })->wpAny (model P w) A (forIn (List.range esa.size) PUnit.unit f) Q2 E s:=by
  intro f Q2 hf hq;rw [List.range_eq_range'];refine wpAny_forIn_list f (fun rest _ s' => ∃ i h',i<=esa.size/\rest=List.range' i (esa.size - i)/\s'={ s with heap:=h' }/\h'.DictOf (mixKind P w) d (merged got (kvs.take i))/\Heap.SameBut d s.heap h') Q2 (fun x rest b s' hI => ?_) (fun b s' hI => ?_) _ _ ⟨0,s.heap,Nat.zero_le _,rfl,rfl,by simpa [merged] using h0,⟨rfl,fun _ _=>rfl⟩⟩
  ·obtain ⟨i,h',hi,er,rfl,hd',sb⟩:=hI
   have hlt:i < esa.size:=by
    rcases Nat.lt_or_ge i esa.size with z | z
    ·exact z
    ·rw [show esa.size - i=0 by omega] at er
     cases er
   rw [show esa.size - i=(esa.size - (i+1))+1 by omega,List.range'_succ] at er;injection er with e1 e2
   subst e1;have ge:esa[x]?=some esa[x]:=Array.getElem?_eq_getElem hlt;obtain ⟨k,ek,ik⟩:=Cj hpa x esa[x] (by simpa using ge);obtain ⟨k',ik',eh⟩:=hka esa[x] (Array.getElem_mem hlt);have ekk:k=k':=(mixKind P w).inj _ _ _ ik ik';subst ekk;have ga:h'.get? a=some oa:=(sb.2 a hda).trans goa;have hz2:(merged got (kvs.take x)).length<=sizeLine:=by
    refine Nat.le_trans (Rp (kvs.take x) got) ?_;rw [List.length_take];omega
   refine hf x _ esa[x] ge ga (fun _ s2 => ∃ h2,s2={ s with heap:=h2 }/\h2.DictOf (mixKind P w) d (merged got (kvs.take (x+1)))/\Heap.SameBut d s.heap h2) _ ?_ (fun s2 _ hs2 => ?_) fun s2 hs2 => ?_
   ·rw [eh]
    refine Ig (s:={ s with heap:=h' }) ik hd' hz2 fun h2 hd2 sb2=>⟨h2,rfl,?_,⟨sb2.1.trans sb.1,fun c hc=>(sb2.2 c hc).trans (sb.2 c hc)⟩⟩;have et:kvs.take (x+1)=kvs.take x++[(k,esa[x].val)]:=by
     rw [List.take_succ,ek];rfl
    rw [et];unfold merged at hd2 ⊢;rw [List.foldl_append];exact hd2
   ·obtain ⟨h2,rfl,z1,z2⟩:=hs2
    exact ⟨x+1,h2,hlt,e2,rfl,z1,z2⟩
   ·obtain ⟨h2,rfl,z1,z2⟩:=hs2
    exact (z2.2 a hda).trans goa
  ·obtain ⟨i,h',hi,er,rfl,hd',sb⟩:=hI
   have:esa.size - i=0:=by
    cases q:esa.size - i with
    | zero=>rfl
    | succ m=>rw [q,List.range'_succ] at er; cases er
   rw [List.take_of_length_le (by omega)] at hd';exact hq h' hd' sb
 unfold mergeMapping;refine wpAny_bind (wpAny_isInstance ha.typeIs isSubtype_dict_dict ?_);rw [if_pos rfl];refine wpAny_bind (wpAny_specialOf ha.typeIs F.slot_dict_iter.lookup (wpAny_bind (wpAny_pure ?_)));rw [show (some (Value.builtin "dict.__iter__") == some (Value.builtin "dict.__iter__"))=true by simp];dsimp only;rw [hsm,if_neg Bool.false_ne_true];refine wpAny_bind (wpAny_dictEntries god hdd ?_);have rest:∀ (t:Sem Unit),t=(do
   let es ← dictEntries a
   let epoch ← dictEpoch a
   forIn (List.range es.size) PUnit.unit fun i _=>do
    match (← dictEntries a)[i]? with
    | some e =>
      holding [e.key,e.val] (dictPut d e.hash e.key e.val)
      if ((← dictEpoch a) != epoch)=true then do
       unsupported "dict.changed-during-merge"
       pure (ForInStep.yield PUnit.unit)
      else pure (ForInStep.yield PUnit.unit)
    | _=>do
      unsupported "dict.changed-during-merge"
      pure (ForInStep.yield PUnit.unit)
   pure ())->wpAny (model P w) A t Q E s:=by
  intro t et;subst et;refine wpAny_bind (wpAny_dictEntries goa hda' (wpAny_bind (wpAny_dictEpoch goa hda' (wpAny_bind (loop _ _ (fun i s' e ge ga R R2 hp h2 h3 => ?_) fun h' z1 z2=>wpAny_pure (hQ h' z1 z2))))));refine wpAny_bind (wpAny_dictEntries ga hda' ?_);simp only [ge];refine wpAny_bind (wpAny_holding (wpAny_mono hp (fun _ s2 hr => ?_) fun _ _ z=>z));have g2:=h3 s2 hr;refine wpAny_bind (wpAny_dictEpoch g2 hda' ?_);rw [if_neg (by simp)];exact wpAny_pure (h2 s2 g2 hr)
 by_cases he:esd.isEmpty=true
 ·rw [if_pos he]
  refine wpAny_bind (wpAny_dictEntries goa hda' (wpAny_bind (wpAny_forIn_array' _ (fun l _ s' => s'=s/\∀ e∈l,e∈esa.toList) _ (fun x l b s' hI => ?_) (fun b s' hI => ?_) _ _ ⟨rfl,fun e he=>he⟩)))
  ·obtain ⟨rfl,hm⟩:=hI
   obtain ⟨k,ik,_⟩:=hka x (by simpa using hm x List.mem_cons_self);have nr:=KP ik;cases hx:x.key with
   | ref b=>exact absurd hx (nr b)
   | _=>exact wpAny_pure ⟨rfl,fun e he=>hm e (List.mem_cons_of_mem _ he)⟩
  ·obtain ⟨rfl,_⟩:=hI
   simp only [Bool.false_eq_true,if_false];exact rest _ rfl
 ·rw [if_neg he]
  simp only [Bool.false_eq_true,if_false];exact rest _ rfl
end
end FL
namespace FL
open PySem PySem.Spec PyProof.Rows L2
section
variable {X : Cx} {W : WX} {de ke ve : Expr} {pos : Pos} {td tk tv : TE}
def Ci (td tk tv:TE):TE:=fun σ H Q => ∀ p,H p=none->td σ (upd H p (.dK [])) fun x H1=>H1 p=some (.dK [])/\∃ a kvs,x = .ref a/\Rd H1 a (.dK kvs)/\a≠p/\kvs.length < sizeLine /\
 ∀ q,upd H1 p (.dK (mergeK [] kvs)) q=none->tk σ (upd (upd H1 p (.dK (mergeK [] kvs))) q (.dK [])) fun y H2=>tv σ H2 fun z H3=>H3 p=some (.dK (mergeK [] kvs))/\H3 q=some (.dK [])/\q≠p/\∃ k,y=kV k/\Q (.ref p) (upd (upd H3 q (.dK [(k,z)])) p (.dK (mergeK (mergeK [] kvs) [(k,z)])))
theorem Fi:eval (.Dict [none,some ke] [de,ve] pos) X.env=(do
  standAt pos
  dictDisplay [(none,(do let x ← eval de X.env; standAt pos; pure x)),(some (eval ke X.env),(do let x ← eval ve X.env; standAt pos; pure x))]):=rfl
theorem N3 {pins:List (Addr×Obj)} {σ:L2.St} {H:Hp} {s:Shared} {p a:Addr} {got kvs:List (Key×V)} {A:Around} {E:Value->Shared->Prop} {Q:Unit->Shared->Prop} (I:Inv X pins σ H s) (hp:H p=some (.dK got)) (ha:Rd H a (.dK kvs)) (hap:a≠p) (hz:got.length+kvs.length<=sizeLine)
  (hQ:∀ s',Inv X pins σ (upd H p (.dK (mergeK got kvs))) s'->Q () s'):wpAny (model X.prog X.w) A (mergeMapping p (.ref a) false) Q E s:=by
 obtain ⟨z1,hsp,vg,rg,dg⟩:=dk_of I.hok hp;obtain ⟨z2,hsa,va,ra,da⟩:=dk_rd I.hok ha;have l1:=rg.length;have l2:=ra.length;refine KO hap hsa dg da (by omega) fun h' dd sb=>hQ _ ?_;have hlen:(mergeK got kvs).length<=sizeLine:=Nat.le_trans (length_mergeK kvs got) (by omega);exact d_write I (by rw [hp]; exact True.intro) sb (let ⟨q,_,_,hq,_⟩:=dd; ⟨q,hq⟩) (dk_new hlen hsp (KV.merge ra rg) dd)
theorem Af (hd:PE X de td) (hk:PE X ke tk) (hv:PE X ve tv):PE X (.Dict [none,some ke] [de,ve] pos) (Ci td tk tv):=by
 refine ⟨fun pins s σ H Q I h => ?_⟩;have hn:=I.hok.fresh (Nat.le_refl s.heap.objs.size);have I1:=I.laid (a:=s.heap.objs.size) (o:=.dK []) (h':=s.heap.push { cls:=.type "dict",data:=.dict #[] }) (t':=s.toks) (fun _ _ q=>Heap.get?_push_of_some _ q) (Nat.le_refl _) (dk_empty s.heap I.big);have hd1:=h _ hn;generalize hpe:s.heap.objs.size=p at hn I1 hd1;rw [Fi];refine wpAny_bind (wpAny_standAt ?_);unfold dictDisplay;simp only [List.forIn_cons,List.forIn_nil,List.isEmpty_nil,if_true,pure_bind];refine wpAny_bind (wpAny_bind (wpAny_bind (wpAny_alloc ?_)));rw [hpe];refine wpAny_bind (wpAny_holding (wpAny_bind (thn (hd.run pins _ σ _ _ I1 hd1) fun u s2 h2=>wpAny_bind (wpAny_standAt (wpAny_pure ?_)))));obtain ⟨x,H1,I2,rx,gp,a,kvs,rfl,hr,hap,hz,h3⟩:=h2;cases rx;refine wpAny_bind (wpAny_onRaise (wpAny_tryCatch (wpAny_onRaise (wpAny_holding (N3 I2 gp hr hap (by rw [List.length_nil]; omega) fun s3 I3=>wpAny_pure ?_)))));dsimp only;rw [if_neg (by simp)];refine wpAny_bind (wpAny_pure ?_);dsimp only;refine wpAny_pure ?_;dsimp only;rw [if_neg (by simp)];have hn3:upd H1 p (.dK (mergeK [] kvs)) s3.heap.objs.size=none:=I3.hok.fresh (Nat.le_refl _);have I4:=I3.laid (a:=s3.heap.objs.size) (o:=.dK []) (h':=s3.heap.push { cls:=.type "dict",data:=.dict #[] }) (t':=s3.toks) (fun _ _ q=>Heap.get?_push_of_some _ q) (Nat.le_refl _) (dk_empty s3.heap I3.big);have h4:=h3 _ hn3;generalize hqe:s3.heap.objs.size=q at hn3 I4 h4;refine wpAny_bind (wpAny_bind (wpAny_holding ?_));unfold subDict;refine wpAny_bind (wpAny_alloc ?_);rw [hqe];refine wpAny_bind (wpAny_holding ?_);rw [if_pos (by simp)];simp only [List.nil_append,evalPairs,pure_bind];refine wpAny_bind (wpAny_bind (thn (hk.run pins _ σ _ _ I4 h4) fun u s5 h5 => ?_));obtain ⟨y,H2,I5,ry,h6⟩:=h5;refine wpAny_bind (wpAny_holding (wpAny_bind (thn (hv.run pins _ σ _ _ I5 h6) fun u2 s6 h7=>wpAny_bind (wpAny_standAt (wpAny_pure ?_)))));obtain ⟨z,H3,I6,rz,gp3,gq3,hqp,k,rfl,h8⟩:=h7;refine wpAny_bind (wpAny_holding (wpAny_pure (wpAny_pure ?_)));refine wpAny_holding ?_;simp only [List.forIn_cons,List.forIn_nil,pure_bind,bind_assoc];obtain ⟨z1,hsq,vq,rq,dq⟩:=dk_of I6.hok gq3;cases rq;refine wpAny_bind (wpAny_dictSet_pairs (knd:=mixKind X.prog X.w) (k:=k) (kV_is ry) dq (fun h' dd sb => ?_) (by simp));have I7:Inv X pins σ (upd H3 q (.dK [(k,z)])) { s6 with heap:=h',toks:=s6.toks+1 } :=
  d_write I6 (by rw [gq3]; exact True.intro) sb (let ⟨q',_,_,hq',_⟩:=dd; ⟨q',hq'⟩) (dk_new (vs:=[(k,u2)]) (by rw [sizeLine_eq]; simp) hsq (.cons ⟨rfl,rz⟩ .nil) dd)
 refine wpAny_pure (wpAny_pure ?_);have hp7:upd H3 q (.dK [(k,z)]) p=some (.dK (mergeK [] kvs)):=by rw [upd_ne (Ne.symm hqp)]; exact gp3
 refine wpAny_bind (wpAny_onRaise (wpAny_holding (N3 I7 hp7 (.inl upd_same) hqp ?_ fun s8 I8=>wpAny_pure (wpAny_pure ⟨.ref p,_,I8,rfl,h8⟩))));have:=length_mergeK kvs [];rw [List.length_nil] at this;simp only [List.length_cons,List.length_nil];omega
theorem FinE.cutZ {Z Z' F:Hp} {ρ:List Addr} {σ:L2.St} {α β:Type} {Pq:β->Loc->Mem->Hp->List Addr->Hp->Prop} {r:Out α} {g:α->Loc->Mem->Out β} (hL:∀ F',Le Z' F F'->Le Z F F') (hR:∀ ρ',LeR Z' ρ ρ'->LeR Z ρ ρ') (h:FinE X W Z F ρ σ Pq (r.cut.bind g)) :
  FinE X W Z' F ρ σ (fun a δ μ F' ρ' H' => Sim X.K X.mg Z' F' ρ' μ δ σ H'/\Le Z' F F'/\LeR Z' ρ ρ'/\FinE X W Z F' ρ' σ Pq (g a δ μ)) r:=by
 cases r with
 | ok a δ μ =>
   intro H' F' ρ' l lr S;exact ⟨S,l,lr,FinE.mono h (hL _ l) (hR _ lr)⟩
 | exc x δ μ=>exact h.elim
 | bad=>exact h
def Px (md mk mv:ME):ME:=fun δ μ=>(md δ μ).cut.bind fun sd δ1 μ1=>match YB sd.d with
 | some (ks,ds)=>if (ks.zip ds).length < 16777216 then (mk δ1 μ1).cut.bind fun sk δ2 μ2=>(mv δ2 μ2).cut.bind fun sv δ3 μ3=>match Yo sk.d with
   | some k=>.ok (.own (Zl (YH (FL.mergeA [] (ks.zip ds)) k sv.d))) δ3 μ3
   | none=>.bad
   else .bad
 | none=>.bad
theorem Ae {md mk mv:ME} (hd:JE X W de md) (hk:JE X W ke mk) (hv:JE X W ve mv):JE X W (.Dict [none,some ke] [de,ve] pos) (Px md mk mv):=by
 refine (Af hd.locked hk.locked hv.locked).imp fun σ H Q ⟨Z,F,ρ,μ,δ,S,q0⟩ p hp => ?_;obtain ⟨n1,n2,n3,n4⟩:=S.notIn hp;have S1:=(S.laid (o:=.dK []) hp).guard upd_same ⟨n1,n2,n3⟩ n4;refine ⟨_,F,ρ,μ,δ,S1,(FinE.cutZ (fun _ l=>l.unguard) (fun _ l=>l.unguard) q0).imp fun sd δ1 μ1 H1 F1 ρ1 l1 lr1 _ ⟨S2,l1',lr1',q1⟩ v rv=>⟨S2.guarded,?_⟩⟩;have fD1:Free Z F1 ρ1 p:=(Free.mk n1 n2 n3).on l1' lr1';generalize sd.d=dd at q1 rv;cases ed:YB dd with
 | none=>simp only [ed] at q1; exact q1.elim
 | some pp =>
 obtain ⟨ks,ds⟩:=pp;simp only [ed] at q1;by_cases hz:(ks.zip ds).length < 16777216
 ·rw [if_pos hz] at q1
  obtain ⟨a,vs,rfl,hr,hl,r⟩:=VO S2 (Bor.fr (H:=H1) rv) ed;have kv:=KV.of hl r;have hap:a≠p:=fun e=>by
   cases dd <;> first | (cases ed; done) | skip
   ·rename_i m _ _
    cases m <;> first | (cases ed; done) | skip
    cases rv with
    | dcf h _ _=>rw [e,fD1.f] at h; cases h
   ·cases rv with
    | dct h _ _=>rcases h with h | ⟨o,h⟩ <;> rw [e,fD1.f] at h <;> cases h
  refine ⟨a,_,rfl,hr,hap,by rw [kv.len,YM]; exact hz,fun qq hq => ?_⟩;generalize hK:(ks.map DK.key).zip vs=kvs at kv hr hq ⊢;have S3:=(S2.unguard n2).heap (H':=upd H1 p (.dK (mergeK [] kvs))) (fun b ne=>upd_ne ne) fD1.f fD1.z fD1.r S2.guardNo;have S4:=S3.guard upd_same fD1 S2.guardNo;obtain ⟨m1,m2,m3,m4⟩:=S4.notIn hq;have S5:=(S4.laid (o:=.dK []) hq).guard upd_same ⟨m1,m2,m3⟩ m4;have hqp:qq≠p:=fun e=>by
   rw [e,upd_same] at hq;cases hq
  refine ⟨_,F1,ρ1,μ1,δ1,S5,(FinE.cutZ (fun _ l=>l.unguard.unguard) (fun _ l=>l.unguard.unguard) q1).imp fun sk δ2 μ2 H2 F2 ρ2 l2 lr2 _ ⟨S6,l2',lr2',q2⟩ y ry => ?_⟩;refine ⟨_,F2,ρ2,μ2,δ2,S6,(FinE.cutZ (fun _ l=>l.unguard.unguard) (fun _ l=>l.unguard.unguard) q2).imp fun sv δ3 μ3 H3 F3 ρ3 l3 lr3 _ ⟨S7,l3',lr3',q3⟩ z rz => ?_⟩;cases ek:Yo sk.d with
  | none=>simp only [ek] at q3; exact q3.elim
  | some k =>
    simp only [ek] at q3;have fq:Free (upd Z p (.dK (mergeK [] kvs))) F3 ρ3 qq:=((Free.mk m1 m2 m3).on l2' lr2').on l3' lr3';have fp:Free Z F3 ρ3 p:=(fD1.on l2'.unguard lr2'.unguard).on l3'.unguard lr3'.unguard;have S8:=(S7.unguard m2).heap (H':=upd H3 qq (.dK [(k.key,z)])) (fun b ne=>upd_ne ne) fq.f fq.z fq.r S7.guardNo;have S9:=(S8.unguard n2).heap (H':=upd (upd H3 qq (.dK [(k.key,z)])) p (.dK (mergeK (mergeK [] kvs) [(k.key,z)]))) (fun b ne=>upd_ne ne) fp.f fp.z fp.r S8.guardNo;refine ⟨?_,S7.guarded,hqp,k.key,RN ry ek,?_⟩
    ·exact S7.zk p _ (by rw [upd_ne (Ne.symm hqp),upd_same])
    ·have kv3:KV X.K X.mg F3 ρ3 (mergeK (mergeK [] kvs) [(k.key,z)]) (YH (FL.mergeA [] (ks.zip ds)) k sv.d) :=
      KV.put rz (KV.mergeA ((kv.up l2'.to lr2'.to).up l3'.to lr3'.to) .nil)
     exact q3 _ F3 ρ3 .refl .refl S9 _ ⟨⟨p,rfl,fp,Td kv3 upd_same⟩,fun o p' e1 e2=>by cases e2; exact S8.guardNo⟩
 ·rw [if_neg hz] at q1; exact q1.elim
end
end FL
namespace FL
open PySem PySem.Spec PyProof.Rows L2
section
variable {X : Cx} {W : WX} {e : Expr} {es : List Expr} {pos p : Pos} {m : ME} {ms : List ME} {ma : MM (List D)}
def yk (X:Cx) (W:WX) (ma:MM (List D)):TA:=fun σ H Q => ∃ Z F ρ μ δ,Sim X.K X.mg Z F ρ μ δ σ H/\FinE X W Z F ρ σ (fun ds _ _ F' ρ' H' => ∀ vs,RepL X.K X.mg F' ρ' vs ds->Q vs H') (ma δ μ)
theorem Ie (h:JA X W es ms):PA X es (yk X W (XF ms)):=h
def Uq:D->Option (List D)
 | .lst xs=>some xs
 | .tup xs=>some xs
 | _=>none
def Vh (m:ME) (ma:MM (List D)):MM (List D):=fun δ μ=>(m δ μ).bind fun s δ1 μ1=>match Uq s.d with
 | some xs=>(ma δ1 μ1).bind fun ds δ2 μ2=>.ok (xs++ds) δ2 μ2
 | none=>.bad
theorem Pw (h:JE X W e m) (t:PA X es (yk X W ma)) (hs:starEach (.Starred e p :: es) X.env=(true,eval e X.env) :: starEach es X.env:=by rfl):PA X (.Starred e p :: es) (yk X W (Vh m ma)):=by
 refine (StX.pa_star h.locked t hs).imp fun σ H Q ⟨Z,F,ρ,μ,δ,S,q⟩ => ?_;refine ⟨Z,F,ρ,μ,δ,S,(FinE.bind q).imp fun s δ1 μ1 H1 F1 ρ1 l lr S1 ⟨_,_,_,q1⟩ v hv => ?_⟩;generalize s.d=d at hv q1;cases ei:Uq d with
 | none=>simp only [ei] at q1; exact q1.elim
 | some xs =>
   simp only [ei] at q1;have sq:∃ a vs,v = .ref a/\(SqT X.K H1 a vs\/SqL X.K H1 a vs)/\RepL X.K X.mg F1 ρ1 vs xs:=by
    cases d <;> first | (cases ei; done) | skip
    ·cases ei
     obtain ⟨a,vs,rfl,hl,r⟩:=(Bor.fr (H:=H1) hv).lst S1;exact ⟨a,vs,rfl,.inr (.of hl),r⟩
    ·cases ei
     obtain ⟨a,vs,rfl,hl,r⟩:=(Bor.fr (H:=H1) hv).tup S1;exact ⟨a,vs,rfl,.inl hl,r⟩
   obtain ⟨a,vs,rfl,hq,r⟩:=sq;refine ⟨a,vs,rfl,hq,Z,F1,ρ1,μ1,δ1,S1,(FinE.bind q1).imp fun ds δ2 μ2 H2 F2 ρ2 l2 lr2 S2 ⟨_,_,_,q2⟩ ws hws => ?_⟩;exact q2 H2 F2 ρ2 .refl .refl S2 (vs++ws) ((r.up l2.to lr2.to).app hws)
def Sk (ma:MM (List D)):ME:=fun δ μ=>(ma δ μ).bind fun ds δ1 μ1=>if ds.length<=16777216 then .ok (.own (.lst ds)) δ1 μ1 else .bad
theorem Pu (h:PA X es (yk X W ma)):JE X W (.List es pos) (Sk ma):=by
 refine (pe_lst h).imp fun σ H Q ⟨Z,F,ρ,μ,δ,S,q⟩=>⟨Z,F,ρ,μ,δ,S,(FinE.bind q).imp fun ds δ1 μ1 H1 F1 ρ1 l lr S1 ⟨_,_,_,p⟩ vs hv => ?_⟩;by_cases hz:ds.length<=16777216
 ·rw [if_pos hz] at p
  refine ⟨by rw [hv.len,sizeLine_eq]; exact hz,fun a ha => ?_⟩;obtain ⟨S2,vr⟩:=Ua S1 ha hv;exact p _ F1 ρ1 .refl .refl S2 _ vr
 ·rw [if_neg hz] at p; exact p.elim
end
end FL
namespace FL
open PySem PySem.Spec PyProof.Rows L2
def KN:List (DK×ME)->MM (List (DK×D))
 | []=>fun δ μ=>.ok [] δ μ
 | (k,m) :: r=>fun δ μ=>(m δ μ).cut.bind fun s δ1 μ1=>(KN r δ1 μ1).bind fun ps δ2 μ2=>.ok ((k,s.d) :: ps) δ2 μ2
def UA (kms:List (DK×ME)):ME:=fun δ μ=>(KN kms δ μ).bind fun kds δ1 μ1=>.ok (.own (Zl (FL.mergeA [] kds))) δ1 μ1
section
variable {X : Cx} {W : WX} {pos : Pos}
def tV (X:Cx) (W:WX) (m:ME):TE:=fun σ H Q => ∃ Z F ρ μ δ,Sim X.K X.mg Z F ρ μ δ σ H/\FinE X W Z F ρ σ (fun s _ _ F' ρ' H' => ∀ v,Rep X.K X.mg F' ρ' v s.d->Q v H') (m δ μ)
def vi (X:Cx) (W:WX) (kms:List (DK×ME)):List (TE×TE):=kms.map fun p=>(tC (kV p.1.key),tV X W p.2)
inductive JPs (X:Cx) (W:WX):List (Option Expr)->List Expr->List (DK×ME)->Prop where
 | nil:JPs X W [] [] []
 | cons {k v:Expr} {ks:List (Option Expr)} {vs:List Expr} {kk:DK} {m:ME} {r:List (DK×ME)} (hk:PE X k (tC (kV kk.key))) (hv:JE X W v m) (t:JPs X W ks vs r):JPs X W (some k :: ks) (v :: vs) ((kk,m) :: r)
theorem JPs.pps {keys:List (Option Expr)} {values:List Expr} {kms:List (DK×ME)} (h:JPs X W keys values kms):PPs X pos keys values (vi X W kms)/\keys.all (·.isSome)=true/\keys.length=values.length/\keys.length=kms.length:=by
 induction h with
 | nil=>exact ⟨pps_nil,rfl,rfl,rfl⟩
 | cons hk hv t ih =>
   obtain ⟨p,a,b,c⟩:=ih;exact ⟨pps_cons hk hv.locked p,by rw [List.all_cons,a]; rfl,by rw [List.length_cons,List.length_cons,b],by rw [List.length_cons,List.length_cons,c]⟩
theorem Qg {Z:Hp} {p:Addr} {o:HO} {σ:L2.St} {β:Type} {Pq:β->Loc->Mem->Hp->List Addr->Hp->Prop}:∀ (kms:List (DK×ME)) (g:List (DK×D)->Loc->Mem->Out β) (F:Hp) (ρ:List Addr) (μ:Mem) (δ:Loc) (H:Hp) (Q:List (V×V)->Hp->Prop),
  Sim X.K X.mg (upd Z p o) F ρ μ δ σ H->FinE X W Z F ρ σ Pq ((KN kms δ μ).bind g) ->
   (∀ kds kvs δ2 μ2 F2 ρ2 H2,Sim X.K X.mg (upd Z p o) F2 ρ2 μ2 δ2 σ H2->Le (upd Z p o) F F2->LeR (upd Z p o) ρ ρ2->KV X.K X.mg F2 ρ2 kvs kds->kvs.length=kms.length->FinE X W Z F2 ρ2 σ Pq (g kds δ2 μ2)->Q (kvs.map fun kv=>(kV kv.1,kv.2)) H2)->tPairs (vi X W kms) σ H Q
 | [],g,F,ρ,μ,δ,H,Q,S,q,hQ=>hQ [] [] δ μ F ρ H S .refl .refl .nil rfl q
 | (k,m) :: r,g,F,ρ,μ,δ,H,Q,S,q,hQ=>by
   show tPairs ((tC (kV k.key),tV X W m) :: vi X W r) σ H Q;have q':FinE X W Z F ρ σ Pq ((m δ μ).cut.bind fun s δ1 μ1=>(KN r δ1 μ1).bind fun ps δ2 μ2=>g ((k,s.d) :: ps) δ2 μ2):=by
    have e:(KN ((k,m) :: r) δ μ).bind g=(m δ μ).cut.bind fun s δ1 μ1=>(KN r δ1 μ1).bind fun ps δ2 μ2=>g ((k,s.d) :: ps) δ2 μ2:=by
     show (((m δ μ).cut.bind fun s δ1 μ1=>(KN r δ1 μ1).bind fun ps δ2 μ2=>.ok ((k,s.d) :: ps) δ2 μ2)).bind g=_;cases (m δ μ).cut with
     | ok s δ1 μ1 =>
       show ((KN r δ1 μ1).bind fun ps δ2 μ2=>Out.ok ((k,s.d) :: ps) δ2 μ2).bind g=(KN r δ1 μ1).bind _;cases KN r δ1 μ1 <;> rfl
     | exc x δ1 μ1=>rfl
     | bad=>rfl
    rw [e] at q;exact q
   refine ⟨upd Z p o,F,ρ,μ,δ,S,(FinE.cutZ (fun _ l=>l.unguard) (fun _ l=>l.unguard) q').imp fun s δ1 μ1 H1 F1 ρ1 l1 lr1 _ ⟨S1,l1',lr1',q1⟩ v rv => ?_⟩;refine Qg r _ F1 ρ1 μ1 δ1 H1 _ S1 q1 fun kds kvs δ2 μ2 F2 ρ2 H2 S2 l2 lr2 kv hl q2 => ?_;exact hQ ((k,s.d) :: kds) ((k.key,v) :: kvs) δ2 μ2 F2 ρ2 H2 S2 (l1'.trans l2) (lr1'.trans lr2) (.cons (rv.up l2.to lr2.to) kv) (by rw [List.length_cons,List.length_cons,hl]) q2
theorem Pr {keys:List (Option Expr)} {values:List Expr} {kms:List (DK×ME)} (h:JPs X W keys values kms) (h0:keys≠[]) (xV:keys.length<=15):JE X W (.Dict keys values pos) (UA kms):=by
 obtain ⟨pp,ha,hl,hk⟩:=h.pps (pos:=pos);refine (pe_disp pp ha hl h0 xV).imp fun σ H Q ⟨Z,F,ρ,μ,δ,S,q0⟩ p hp => ?_;obtain ⟨n1,n2,n3,n4⟩:=S.notIn hp;have S1:=(S.laid (o:=.dK []) hp).guard upd_same ⟨n1,n2,n3⟩ n4;refine Qg kms _ F ρ μ δ _ _ S1 q0 fun kds kvs δ2 μ2 F2 ρ2 H2 S2 l2 lr2 kv hl2 q2=>⟨S2.guarded,kvs,rfl,by omega,?_⟩;have fp:Free Z F2 ρ2 p:=(Free.mk n1 n2 n3).on l2 lr2;have S3:=(S2.unguard n2).heap (H':=upd H2 p (.dK (mergeK [] kvs))) (fun b ne=>upd_ne ne) fp.f fp.z fp.r S2.guardNo;exact q2 _ F2 ρ2 .refl .refl S3 _ ⟨⟨p,rfl,fp,Td (KV.mergeA kv .nil) upd_same⟩,fun o p' e1 e2=>by cases e2; exact S2.guardNo⟩
end
end FL
namespace FL
open PySem PySem.Spec PyProof.Rows L2
section
variable {X : Cx} {W : WX} {e : Expr} {m : ME}
def Wb (m:ME):ME:=fun δ μ=>(m δ μ).bind fun s δ1 μ1=>match s with
 | .own (.dct ks ds)=>if ks.length=ds.length then .ok (.fr (.dcf ks ds)) δ1 μ1 else .bad
 | _=>.bad
theorem Vg (h:JE X W e m):JE X W e (Wb m):=by
 refine (Jc h).imp fun σ H Q ⟨Z,F,ρ,μ,δ,S,q⟩=>⟨Z,F,ρ,μ,δ,S,(FinE.bind q).imp fun s δ1 μ1 H1 F1 ρ1 l lr S1 ⟨_,_,_,p⟩ v vr => ?_⟩;cases s with
 | fr d=>exact p.elim
 | own o =>
   cases o with
   | dct ks ds =>
     have p:FinE X W Z F1 ρ1 σ _ (if ks.length=ds.length then _ else _):=p;by_cases hl:ks.length=ds.length
     ·rw [if_pos hl] at p
      obtain ⟨⟨a,rfl,fr,ow⟩,no⟩:=vr;obtain ⟨vs,hH,hn,rl⟩:=ow;refine ⟨a,_,rfl,hH,fun ob H2 h2 hk => ?_⟩;have no':=no (.dct ks ds) a rfl rfl;have S2:Sim X.K X.mg Z F1 ρ1 μ1 δ1 σ H2:=S1.heap hk fr.f fr.z fr.r no';obtain ⟨l3,S3⟩:=S2.freeze h2 fr no';exact p H2 _ ρ1 l3 .refl S3 _ ⟨.dcf upd_same hn (rl.up l3.to fun _ _ h=>h),fun o p z=>by cases z⟩
     ·rw [if_neg hl] at p; exact p.elim
   | _=>exact p.elim
def W4 (m:ME):MM (List D):=fun δ μ=>(m δ μ).bind fun s δ1 μ1=>match s.d with
 | .fx .df ks ds=>.ok (VP (ks.zip ds)) δ1 μ1
 | _=>.bad
theorem Tb {elts:List Expr} {kk:Nat} {tpos apos cpos:Pos} (he:JE X W e m) (hbase:attributeBase e "items" X.env (eval e X.env)=eval e X.env:=by rfl) (hline:(apos.endLine == cpos.line)=true:=by rfl) :
  JI X W (.Tuple elts kk tpos) (.Call (.Attribute e "items" apos) [] [] cpos) (W4 m):=by
 refine (pi_items he.locked hbase hline).imp fun σ H R ⟨Z,F,ρ,μ,δ,S,q⟩=>⟨Z,F,ρ,μ,δ,S,(FinE.bind q).imp fun s δ1 μ1 H1 F1 ρ1 l lr S1 ⟨_,_,_,p⟩ v r => ?_⟩;generalize s.d=d at p r;cases d <;> first | exact p.elim | skip
 rename_i mm ks ds
 cases mm <;> first | exact p.elim | skip
 obtain ⟨a,o,vs,rfl,hF,hH,hl,rl⟩:=(Bor.fr (H:=H1) r).dcf S1;exact ⟨a,o,_,rfl,hH,p H1 F1 ρ1 .refl .refl S1 _ (K2 hF (KV.of hl rl))⟩
end
end FL
namespace FL
open PySem PySem.Spec PyProof.Rows L2
section
variable {X : Cx} {W : WX} {k : Nat} {N : List Str} {sc : Scope} {a b o e f : Expr} {oa ob oo oe of : Opn} {m : ME} {pos apos cpos p : Pos}
theorem Cs.inD (C:Cs X W k N sc) (ha:JO X W a oa) (hb:JO X W b ob) (hm:behindInMarks .In b=false:=by rfl):JE X W (.Compare a [.In] [b] pos) (m2 (Vw false) oa ob):=vk (by have:=C.hu; omega) ha hb hm
theorem Cs.inDT (C:Cs X W k N sc) (ha:JO X W a oa) (hb:JO X W b ob) (hm:behindInMarks .In b=false:=by rfl):JT X W (.Compare a [.In] [b] pos) (ZN (m2 (Vw false) oa ob)) :=
 (pt_cmp (pc_din (by have:=C.hu; omega) ha hb) hm).imp (WW fun σ H Q h=>by
  have:=W5 (Il false) σ H Q h;simpa only [tOp,tDIn,LG,Bool.bne_false] using this)
theorem Cs.ninDT (C:Cs X W k N sc) (ha:JO X W a oa) (hb:JO X W b ob) (hm:behindInMarks .NotIn b=false:=by rfl):JT X W (.Compare a [.NotIn] [b] pos) (ZN (m2 (Vw true) oa ob)) :=
 (pt_cmp (pc_dnotin (by have:=C.hu; omega) ha hb) hm).imp (WW fun σ H Q h=>by
  have:=W5 (Il true) σ H Q h;simpa only [tOp,tDNotIn,LG,Bool.bne_true] using this)
theorem Cs.eqIT {cs:List String} {ma mb:ME} (C:Cs X W k N sc) (CC:Fl X.K X.mg cs) (ha:JE X W a ma) (hb:JE X W b mb):JT X W (.Compare a [.Eq] [b] pos) (ZN (Ii cs ma mb)) :=
 (pt_cmpR (Cn (by have:=C.hu; omega)) ha.locked hb.locked (nomark b)).imp (WW (Ih CC))
theorem Cs.get1 (C:Cs X W k N sc) (ho:JO X W o oo) (he:JO X W e oe) (h1:attributeBase o "get" X.env (eval o X.env)=eval o X.env:=by rfl)
  (h2:((backTo cpos (starEach [e] X.env)).all (fun x => !x.1)&&(backToKw cpos (keywordEach [] X.env)).all (fun x=>x.1.isSome)&&decide (([e]:List Expr).length+([]:List Keyword).length+(if ([]:List Keyword).isEmpty then 0 else 1) < 30))=true:=by rfl)
  (h3:(apos.endLine == cpos.line)=true:=by rfl) (h4:backTo cpos (starEach [e] X.env)=[(false,eval e X.env)]:=by rfl):JE X W (.Call (.Attribute o "get" apos) [e] [] cpos) (Rr oo oe) :=
 Fy (by have:=C.hu; omega) ho he ⟨h1,h2,h3,h4⟩
theorem Cs.get2 (C:Cs X W k N sc) (ho:JO X W o oo) (he:JO X W e oe) (hf:JO X W f of) (h1:attributeBase o "get" X.env (eval o X.env)=eval o X.env:=by rfl)
  (h2:((backTo cpos (starEach [e,f] X.env)).all (fun x => !x.1)&&(backToKw cpos (keywordEach [] X.env)).all (fun x=>x.1.isSome)&&decide (([e,f]:List Expr).length+([]:List Keyword).length+(if ([]:List Keyword).isEmpty then 0 else 1) < 30))=true:=by rfl)
  (h3:(apos.endLine == cpos.line)=true:=by rfl) (h4:backTo cpos (starEach [e,f] X.env)=[(false,eval e X.env),(false,eval f X.env)]:=by rfl):JE X W (.Call (.Attribute o "get" apos) [e,f] [] cpos) (Sl oo oe of) :=
 Fw (by have:=C.hu; omega) ho he hf ⟨h1,h2,h3,h4⟩
theorem N2 {k':String} {j:Nat} {v:Expr} {ks:List (Option Expr)} {vs:List Expr} {r:List (DK×ME)} (hv:JE X W v m) (t:JPs X W ks vs r):JPs X W (some (.Constant (.str (Str.ofString k')) j p) :: ks) (v :: vs) ((.s (lit k'),m) :: r):=by
 refine JPs.cons (kk:=.s (lit k')) ?_ hv t
 show PE X _ (tC (.str (toS (lit k'))));rw [← U7];exact pe_str
end
end FL
namespace FL
open PySem L2
def lstAt (μ:Mem) (k:Nat):Option (List D):=match μ[k]? with
 | some (.lst xs)=>some xs
 | _=>none
def TU (μ:Mem) (k i:Nat):Option D:=match lstAt μ k with
 | some xs=>xs[i]?
 | none=>none
def endAt (μ:Mem) (k n:Nat):Bool:=match lstAt μ k with
 | some xs=>decide (xs.length<=n)
 | none=>false
def MO (m:ME):MM (Nat×Nat):=fun δ μ=>(m δ μ).bind fun s δ1 μ1=>match s with
 | .fr (.obj k)=>match lstAt μ1 k with
   | some xs=>.ok (k,xs.length) δ1 μ1
   | none=>.bad
 | _=>.bad
def forM (g:D->MS) (k n:Nat):List Nat->MS
 | []=>fun δ μ=>if endAt μ k n=true then .nx δ μ else .bad
 | i :: is=>fun δ μ=>match TU μ k i with
   | some d=>(g d δ μ).loop (forM g k n is)
   | none=>.bad
def Ic (mi:MM (Nat×Nat)) (f:VY) (m:MS):MS:=fun δ μ=>(mi δ μ).thn fun p δ1 μ1=>forM (Zv f m) p.1 p.2 (List.range p.2) δ1 μ1
theorem VN {n i:Nat} (h:i < n):(List.range n).drop i=i :: (List.range n).drop (i+1):=by
 have hl:i < (List.range n).length:=by simpa using h
 rw [List.drop_eq_getElem_cons hl];simp
section
variable {K : PySem.W.Frag} {mg : Str -> Option Value} {Z F F' : Hp} {ρ ρ' : List Addr} {μ : Mem} {δ : Loc} {σ : St} {H H' : Hp} {p : Addr} {v : V}
theorem KL {k:Nat} {xs:List D} (h:lstAt μ k=some xs):μ[k]?=some (.lst xs):=by
 unfold lstAt at h
 split at h
 ·rename_i ys e
  cases h;exact e
 ·cases h
theorem Wa {k:Nat} {xs:List D} (h:μ[k]?=some (.lst xs)):lstAt μ k=some xs:=by
 unfold lstAt; rw [h]
theorem Sim.lstAt (S:Sim K mg Z F ρ μ δ σ H) {k:Nat} {xs:List D} (hp:ρ[k]?=some p) (h:lstAt μ k=some xs):∃ vs,H p=some (.lst vs)/\RepL K mg F ρ vs xs:=by
 obtain ⟨a,ea,_,_,r⟩:=S.mem k _ (KL h);rw [hp] at ea; cases ea;exact r
end
section
variable {X : Cx} {W : WX} {e a b : Expr} {es : List Expr} {pos : Pos}
def Ad (X:Cx) (W:WX) (m:MM (Nat×Nat)):TI:=fun σ H R => ∃ Z F ρ μ δ,Sim X.K X.mg Z F ρ μ δ σ H /\
 FinE X W Z F ρ σ (fun kn _ _ F' ρ' H' => ∀ p,ρ'[kn.1]?=some p->R (Itl X.K p) H') (m δ μ)
abbrev yj (X:Cx) (W:WX) (tg e:Expr) (m:MM (Nat×Nat)):Prop:=PI X tg e (Ad X W m)
theorem Cg {tg:Expr} {m:ME} (he:JE X W e m):yj X W tg e (MO m):=by
 refine (JH he).imp fun σ H R ⟨Z,F,ρ,μ,δ,S,q⟩=>⟨Z,F,ρ,μ,δ,S,(FinE.bind q).imp fun s δ1 μ1 H1 F1 ρ1 l lr S1 ⟨_,_,_,p⟩ v r => ?_⟩;cases s with
 | own o=>exact p.elim
 | fr d =>
   cases d with
   | obj j =>
     cases e1:lstAt μ1 j with
     | none=>simp only [e1] at p; exact p.elim
     | some xs =>
       simp only [e1] at p;have r1:Rep X.K X.mg F1 ρ1 v (.obj j):=r.r;cases r1 with
       | @obj _ a hp =>
         obtain ⟨vs,hv,_⟩:=S1.lstAt hp e1;exact .inl ⟨a,rfl,⟨vs,.of hv⟩,p H1 F1 ρ1 .refl .refl S1 a hp⟩
   | _=>exact p.elim
theorem Ib {Z F:Hp} {ρ:List Addr} {μ:Mem} {δ:Loc} {σ:St} {H:Hp} {p:Addr} {k i:Nat} {d:D} (S:Sim X.K X.mg Z F ρ μ δ σ H) (hp:ρ[k]?=some p) (h:TU μ k i=some d) :
  (Itl X.K p).go i H/\∀ x H',(Itl X.K p).yld i H x H'->H'=H/\Rep X.K X.mg F ρ x d:=by
 unfold TU at h;cases e1:lstAt μ k with
 | none=>simp only [e1] at h; cases h
 | some xs =>
   simp only [e1] at h;obtain ⟨vs,hv,r⟩:=S.lstAt hp e1;obtain ⟨v,hv2,rv⟩:=r.get h;refine ⟨⟨vs,v,.of hv,hv2⟩,fun x H' y => ?_⟩;obtain ⟨rfl,y⟩:=y;have:=y vs (.of hv);rw [hv2] at this; cases this;exact ⟨rfl,rv⟩
theorem N0 {Z F:Hp} {ρ:List Addr} {μ:Mem} {δ:Loc} {σ:St} {H:Hp} {p:Addr} {k n:Nat} (S:Sim X.K X.mg Z F ρ μ δ σ H) (hp:ρ[k]?=some p) (h:endAt μ k n=true):(Itl X.K p).stop n H:=by
 unfold endAt at h;cases e1:lstAt μ k with
 | none=>simp only [e1] at h; cases h
 | some xs =>
   simp only [e1] at h;obtain ⟨vs,hv,r⟩:=S.lstAt hp e1;exact ⟨vs,.of hv,by rw [r.len]; exact of_decide_eq_true h⟩
theorem Fh {tg iter:Expr} {body:List Stmt} {mi:MM (Nat×Nat)} {f:VY} {is:List Nat} {m:MS} (hp:PassesOwn (model X.prog X.w) X.A X.env X.xe) (hc:X.calm=true) (hi:yj X W tg iter mi) (hg:JG X tg f is) (hb:L' X W body m)
  (hs:∀ x,foldedSetIterable iter X.env x=pure x:=by intro _; rfl)
  (hk:∀ δ μ k n δ1 μ1,mi δ μ = .ok (k,n) δ1 μ1->∃ xs,lstAt μ1 k=some xs/\n=xs.length):JS X W (.For tg iter body [] pos) (Ic mi f m):=by
 refine (ps_for hp hc hi hg hb hs).imp fun E σ H ⟨Z,F,ρ,μ,δ,S,q⟩=>⟨Z,F,ρ,μ,δ,S,?_⟩;have q':=FinS.thn (σ:=σ) q;cases em:mi δ μ with
 | bad=>rw [em] at q'; exact q'
 | exc x δ1 μ1=>rw [em] at q'; exact q'
 | ok kn δ1 μ1 =>
 rw [em] at q';obtain ⟨k,n⟩:=kn;obtain ⟨xs,hxs,hn⟩:=hk _ _ _ _ _ _ em;intro H1 F1 ρ1 l lr S1 a ha;obtain ⟨_,p⟩:=q' H1 F1 ρ1 l lr S1;have p:FinS X W Z F1 ρ1 E (forM (Zv f m) k n (List.range n) δ1 μ1):=p;have ha:ρ1[k]?=some a:=ha
 let Wd:Nat->Nat->St->Hp->Prop:=fun i j σ H=>j=n - i/\i<=n/\∃ F' ρ' μ δ,ρ'[k]?=some a/\Sim X.K X.mg Z F' ρ' μ δ σ H/\FinS X W Z F' ρ' E (forM (Zv f m) k n ((List.range n).drop i) δ μ)
 refine ⟨Wd,⟨n,by simp,Nat.zero_le _,F1,ρ1,μ1,δ1,ha,S1,by rw [List.drop_zero]; exact p⟩,?_⟩;rintro i j σ2 H2 ⟨rfl,hle,F2,ρ2,μ2,δ2,hp2,S2,p2⟩;by_cases hlt:i < n
 ·refine .inr ?_
  rw [VN hlt] at p2;unfold forM at p2;cases ei:TU μ2 k i with
  | none=>simp only [ei] at p2; exact p2.elim
  | some d =>
    simp only [ei] at p2;obtain ⟨go,yl⟩:=Ib S2 hp2 ei;refine ⟨go,fun σ' H' => Wd (i+1) (n - (i+1)) σ' H',fun σ' H' w=>⟨n - (i+1),by omega,w⟩,fun x H' y => ?_⟩;obtain ⟨rfl,r3⟩:=yl x H' y;cases ef:f d δ2 with
    | none =>
      have e:Zv f m d δ2 μ2 = .bad:=by unfold Zv; rw [ef]
      simp only [e] at p2;exact p2.elim
    | some δ3 =>
      have e:Zv f m d δ2 μ2=m δ3 μ2:=by unfold Zv; rw [ef]
      simp only [e] at p2;refine ⟨Z,F2,ρ2,μ2,δ2,_,S2,r3,δ3,ef,fun σ4 _ _ S4=>⟨Z,F2,ρ2,μ2,δ3,S4,p2.loop fun σ' H' F' ρ' μ' δ' l' lr' S' q' => ?_⟩⟩;exact ⟨rfl,hlt,F',ρ',μ',δ',lr'.to _ _ hp2,S',q'⟩
 ·have e:i=n:=by omega
  subst e;rw [List.drop_eq_nil_of_le (by simp)] at p2;unfold forM at p2;by_cases he:endAt μ2 k i=true
  ·simp only [he,if_true] at p2
   exact .inl ⟨N0 S2 hp2 he,p2.nx S2⟩
  ·simp only [he] at p2
   exact p2.elim
theorem Ff {m:ME}:∀ δ μ k n δ1 μ1,MO m δ μ = .ok (k,n) δ1 μ1->∃ xs,lstAt μ1 k=some xs/\n=xs.length:=by
 intro δ μ k n δ1 μ1 h;unfold MO at h;cases em:m δ μ with
 | bad=>rw [em] at h; cases h
 | exc x δ2 μ2=>rw [em] at h; cases h
 | ok s δ2 μ2 =>
   rw [em,Out.bind_ok] at h;cases s with
   | own o=>cases h
   | fr d =>
     cases d <;> first | (cases h; done) | skip
     rename_i k'
     cases e1:lstAt μ2 k' with
     | none=>simp only [e1] at h; cases h
     | some xs =>
       simp only [e1] at h;cases h;exact ⟨xs,e1,rfl⟩
theorem Ro {δ:Loc} {s:Own} {i:Nat}:∀ {vs:List Nat},(ZJ δ vs)[i]?=some (some (.own s))->δ[i]?=some (some (.own s))
 | [],h=>h
 | v :: vs,h=>by
   have hn:=X6 h;unfold ZJ at h;rw [List.getElem?_set_ne (fun z=>hn (by simp [z]))] at h;exact Ro h
def lcM (f:VY) (tests:MT) (elt:ME) (vs:List Nat) (k n:Nat):List Nat->List D->ME
 | [],acc=>fun δ μ=>if endAt μ k n=true then .ok (.own (.lst acc)) δ μ else .bad
 | i :: is,acc=>fun δ μ=>match TU μ k i with
   | none=>.bad
   | some d=>match f d δ with
     | none=>.bad
     | some δ' => (tests δ' μ).cut.bind fun b δ2 μ2=>if b=true then (elt δ2 μ2).cut.bind fun s δ3 μ3=>if acc.length < 16777216 then lcM f tests elt vs k n is (acc++[s.d]) (ZJ δ3 vs) μ3 else .bad
       else lcM f tests elt vs k n is acc (ZJ δ2 vs) μ2
def KJ (mi:MM (Nat×Nat)) (f:VY) (tests:MT) (elt:ME) (vs:List Nat):ME:=fun δ μ=>(mi δ μ).bind fun p δ1 μ1=>lcM f tests elt vs p.1 p.2 (List.range p.2) [] (ZJ δ1 vs) μ1
theorem Ia {mi:MM (Nat×Nat)} {f:VY} {tests:MT} {elt:ME} {vs is:List Nat} {B:Cx} (hK:B.K=X.K) (hm:B.mg=X.mg) (hsub:∀ j∈is,j∈vs):∀ σ H Q,Uw X W (KJ mi f tests elt vs) σ H Q->tLc (Ad X W mi) (D_ X f is) (JX B W0 tests) (Uw B W0 elt) vs σ H Q:=by
 intro σ H Q ⟨Z,F,ρ,μ,δ,S,q⟩;refine ⟨Z,F,ρ,μ,δ,S,(FinE.bind q).imp fun kn δ1 μ1 H1 F1 ρ1 l lr S1 ⟨_,_,_,p⟩ a ha A hA => ?_⟩;obtain ⟨k,n⟩:=kn;have ha:ρ1[k]?=some a:=ha;obtain ⟨n1,n2,n3,n4⟩:=S1.notIn hA
 let P:Slot->Loc->Mem->Hp->List Addr->Hp->Prop:=fun s δ' _ F' ρ' H' => ∀ v,VR X.K X.mg Z F' ρ' δ' σ H' v s->Q v H'
 let Wd:Nat->Nat->Hp->Prop:=fun i j H=>j=n - i/\i<=n/\∃ F' ρ' μ δ vals acc,ρ'[k]?=some a/\Sim X.K X.mg Z F' ρ' μ (ZJ δ vs) (L2.wipe σ vs) H /\
  Free Z F' ρ' A/\(∀ (i:Nat) s,(ZJ δ vs)[i]?=some (some (.own s))->(L2.wipe σ vs)[i]?≠some (some (.ref A)))/\H A=some (.lst vals)/\RepL X.K X.mg F' ρ' vals acc/\FinE X W Z F' ρ' σ P (lcM f tests elt vs k n ((List.range n).drop i) acc (ZJ δ vs) μ)
 have wout:∀ {δ:Loc} {s:Slot} (i:Nat),(ZJ δ vs)[i]?=some (some s)->(L2.wipe σ vs)[i]?=σ[i]?:=fun i h=>wipe_out (X6 h);have Sw:=(S1.laid (o:=.lst []) hA).wipe vs;refine ⟨Wd,⟨n,by simp,Nat.zero_le _,F1,ρ1,μ1,δ1,[],[],ha,Sw,⟨n1,n2,n3⟩,fun i s e1 e2 => ?_,upd_same,.nil,by rw [List.drop_zero]; exact p⟩,?_⟩
 ·have e4:=wout i e1
  rw [e2] at e4;exact n4 i s (Ro e1) e4.symm
 rintro i j H2 ⟨rfl,hle,F2,ρ2,μ2,δ2,vals,acc,hp2,S2,fA,nA,hL,rL,p2⟩;by_cases hlt:i < n
 ·refine .inr ?_
  rw [VN hlt] at p2;unfold lcM at p2;cases ei:TU μ2 k i with
  | none=>simp only [ei] at p2; exact p2.elim
  | some d =>
  simp only [ei] at p2;have SG:=S2.guard hL fA nA;obtain ⟨go,yl⟩:=Ib SG hp2 ei;refine ⟨go,fun H' => Wd (i+1) (n - (i+1)) H',fun H' w=>⟨n - (i+1),by omega,w⟩,fun x H' y => ?_⟩;obtain ⟨rfl,r3⟩:=yl x H' y;cases ef:f d (ZJ δ2 vs) with
  | none=>simp only [ef] at p2; exact p2.elim
  | some δ3 =>
    simp only [ef] at p2;refine ⟨_,F2,ρ2,μ2,_,_,SG,r3,δ3,ef,fun σ4 hσ hl4 S4 => ?_⟩;have ws:L2.wipe σ4 vs=L2.wipe σ vs:=by
     have h1:=XZ (σ:=L2.wipe σ vs) (σ':=σ4) hl4 (vs:=vs) fun j hj=>hσ j fun z=>hj (hsub j z);rw [h1]
     apply XZ (wipe_length _ _)
     intro j hj;exact wipe_out hj
    refine ⟨by rw [ws,XZ (σ:=σ) (σ':=σ) rfl fun _ _=>rfl],?_⟩;refine ⟨_,F2,ρ2,μ2,δ3,by rw [hK,hm]; exact S4,(FinE.cut (p:=A) (o:=.lst vals) hK hm p2).imp fun b δ5 μ5 H5 F5 ρ5 l5 lr5 _ ⟨S5,l5',lr5',p5⟩ => ?_⟩;have fin:∀ {F6:Hp} {ρ6:List Addr} {μ6:Mem} {δ6:Loc} {H6 H7:Hp} {vals':List V} {acc':List D},Sim X.K X.mg (upd Z A (.lst vals)) F6 ρ6 μ6 δ6 σ4 H6->Le (upd Z A (.lst vals)) F2 F6->LeR (upd Z A (.lst vals)) ρ2 ρ6 ->
     (∀ a,a≠A->H7 a=H6 a)->H7 A=some (.lst vals')->RepL X.K X.mg F6 ρ6 vals' acc'->FinE X W Z F6 ρ6 σ P (lcM f tests elt vs k n ((List.range n).drop (i+1)) acc' (ZJ δ6 vs) μ6)->Wd (i+1) (n - (i+1)) H7:=by
     intro F6 ρ6 μ6 δ6 H6 H7 vals' acc' S6 l6 lr6 hne hA7 rL' p6;have fA6:Free Z F6 ρ6 A:=fA.on l6 lr6;have S7:=(S6.unguard fA.z).heap hne fA6.f fA6.z fA6.r S6.guardNo;have S8:=S7.wipe vs;rw [ws] at S8;refine ⟨rfl,hlt,F6,ρ6,μ6,δ6,vals',acc',lr6.to _ _ hp2,S8,fA6,fun i' s e1 e2 => ?_,hA7,rL',p6⟩;have e4:(L2.wipe σ4 vs)[i']?=σ4[i']?:=wipe_out (X6 e1);rw [ws,e2] at e4;exact S6.guardNo i' s (Ro e1) e4.symm
    cases b with
    | false =>
      simp only [if_neg Bool.false_ne_true] at p5 ⊢;exact fin S5 l5' lr5' (fun _ _=>rfl) S5.guarded (rL.up l5'.to lr5'.to) p5
    | true =>
      simp only [if_true] at p5 ⊢;refine ⟨_,F5,ρ5,μ5,δ5,by rw [hK,hm]; exact S5,(FinE.cut (p:=A) (o:=.lst vals) hK hm p5).imp fun s δ6 μ6 H6 F6 ρ6 l6 lr6 _ ⟨S6,l6',lr6',p6⟩ v vr => ?_⟩;rw [hK,hm] at vr;obtain ⟨F7,l7,S7,r7⟩:=S6.lock vr;by_cases hz:acc.length < 16777216
      ·rw [if_pos hz] at p6
       have rL6:=rL.up (fun p o h=>l7.to p o (l6'.to p o (l5'.to p o h))) fun k p h=>lr6'.to k p (lr5'.to k p h);refine ⟨vals,S7.guarded,by rw [rL.len,YM]; exact hz,?_⟩;exact fin S7 (l5'.trans (l6'.trans l7)) (lr5'.trans lr6') (fun a ne=>upd_ne ne) upd_same (rL6.app (.cons r7 .nil)) (p6.mono l7.unguard .refl)
      ·rw [if_neg hz] at p6; exact p6.elim
 ·have e:i=n:=by omega
  subst e;rw [List.drop_eq_nil_of_le (by simp)] at p2;unfold lcM at p2;by_cases he:endAt μ2 k i=true
  ·simp only [he,if_true] at p2
   refine .inl ⟨N0 S2 hp2 he,?_⟩;have S3:Sim X.K X.mg Z F2 ρ2 μ2 (ZJ δ2 vs) σ H2:=S2.agree (wipe_length _ _).symm fun i s e=>(wout i e).symm;exact p2 H2 F2 ρ2 .refl .refl S3 (.ref A) ⟨⟨A,rfl,fA,vals,hL,rL⟩,fun o p z1 z2 i o' e1 e2=>by
    cases z2;exact nA i o' e1 (by rw [wout i e1]; exact e2)⟩
  ·simp only [he] at p2
   exact p2.elim
theorem Cf {elt tg iter:Expr} {ifs:List Expr} {scope:Scope} {own:List (Str×Nat)} {mi:MM (Nat×Nat)} {f:VY} {is:List Nat} {tests:MT} {m:ME} (hc:X.calm=true) (hN:X.N.Nodup) (hi:yj X W tg iter mi) (ok:BlkOk X.N X.env.scope scope own)
  (hg:∀ (s:Shared) (H:Hp) (C:Addr) (cl:List (Str×Addr)) (fp:List Addr),JG (X.blk s H scope (compEnvC scope cl C X.env) fp) tg f is) (ht:∀ (s:Shared) (H:Hp) (C:Addr) (cl:List (Str×Addr)) (fp:List Addr),G3 (X.blk s H scope (compEnvC scope cl C X.env) fp) W0 ifs tests)
  (he:∀ (s:Shared) (H:Hp) (C:Addr) (cl:List (Str×Addr)) (fp:List Addr),JE (X.blk s H scope (compEnvC scope cl C X.env) fp) W0 elt m) (hsub:∀ j∈is,j∈own.map (·.2)) (hs:∀ x,foldedSetIterable iter X.env x=pure x:=by intro _; rfl) :
  JE X W (.ListComp elt [⟨tg,iter,ifs,0⟩] scope pos) (KJ mi f tests m (own.map (·.2))) :=
 (pe_lc (g:=D_ X f is) (tt:=JX X W0 tests) (te:=Uw X W0 m) hc hN hi ok hg ht he hs).imp (Ia (B:=X) rfl rfl hsub)
variable {k : Nat} {N : List Str} {sc : Scope}
theorem Cs.lcM {elt tg iter:Expr} {ifs:List Expr} {scope:Scope} {mi:MM (Nat×Nat)} {f:VY} {is:List Nat} {tests:MT} {m:ME} {Tx:Program->World->PySem.W.Frag->(Str->Option Value)->Heap->Prop} (C:Cs X W k N sc) (T:Tx X.prog X.w X.K X.mg X.base) (own:List (Str×Nat)) (hi:yj X W tg iter mi) (ok:blkC N sc scope own=true)
  (hb:∀ (Y:Cx),Tx Y.prog Y.w Y.K Y.mg Y.base->Cs Y W0 k N (relS scope sc)->JG Y tg f is/\G3 Y W0 ifs tests/\JE Y W0 elt m) (hsub:(is.all fun j=>(own.map (·.2)).contains j)=true) (hs:∀ x,foldedSetIterable iter X.env x=pure x:=by intro _; rfl) :
  JE X W (.ListComp elt [⟨tg,iter,ifs,0⟩] scope pos) (KJ mi f tests m (own.map (·.2))) :=
 Cf C.calm (by rw [C.hN]; exact C.nd) hi (by rw [C.hN,C.hsc]; exact blkOk_by ok) (fun s H c cl fp=>(hb (X.blk s H scope (compEnvC scope cl c X.env) fp) T (C.blk scope s H c cl fp)).1) (fun s H c cl fp=>(hb (X.blk s H scope (compEnvC scope cl c X.env) fp) T (C.blk scope s H c cl fp)).2.1)
  (fun s H c cl fp=>(hb (X.blk s H scope (compEnvC scope cl c X.env) fp) T (C.blk scope s H c cl fp)).2.2) (fun j hj=>by simpa using List.all_eq_true.mp hsub j hj) hs
end
theorem NZ {g:D->MS} {k:Nat} {xs:List D} {J:Nat->Loc->Mem->Prop} (hk:∀ i δ μ,J i δ μ->lstAt μ k=some xs) (hs:∀ i d δ μ,xs[i]?=some d->J i δ μ->∃ δ' μ',g d δ μ = .nx δ' μ'/\J (i+1) δ' μ') :
  ∀ (m i:Nat) (δ:Loc) (μ:Mem),i+m=xs.length->J i δ μ->∃ δ' μ',forM g k xs.length ((List.range xs.length).drop i) δ μ = .nx δ' μ'/\J xs.length δ' μ'
 | 0,i,δ,μ,e,h=>by
   refine ⟨δ,μ,?_,by have:i=xs.length:=by omega
                     subst this; exact h⟩
   rw [List.drop_eq_nil_of_le (by simp; omega)];simp [forM,endAt,hk _ _ _ h]
 | m+1,i,δ,μ,e,h=>by
   have hlt:i < xs.length:=by omega
   have hd:xs[i]?=some xs[i]:=List.getElem?_eq_getElem hlt;obtain ⟨δ1,μ1,e1,h1⟩:=hs i _ δ μ hd h;obtain ⟨δ2,μ2,e2,h2⟩:=NZ hk hs m (i+1) δ1 μ1 (by omega) h1;refine ⟨δ2,μ2,?_,h2⟩;rw [VN hlt];simp [forM,TU,hk _ _ _ h,hd,e1,OutS.loop,e2]
end FL
namespace FL
open PySem L2
section
variable {δ : FL.Loc} {μ : Mem} {m t' : ME} {t : MT} {f : VY} {p : MS} {mi : MM (Nat × Nat)} {vs : List Nat} {k n : Nat} {acc : List D}
@[simp] theorem vh:MO m δ μ=(m δ μ).bind fun s δ1 μ1=>match s with
 | .fr (.obj k)=>(match lstAt μ1 k with
   | some xs=>.ok (k,xs.length) δ1 μ1
   | none=>.bad)
 | _=>.bad:=rfl
@[simp] theorem vf:KJ mi f t m vs δ μ=(mi δ μ).bind fun p δ1 μ1=>lcM f t m vs p.1 p.2 (List.range p.2) [] (ZJ δ1 vs) μ1:=rfl
@[simp] theorem yi:Ic mi f p δ μ=(mi δ μ).thn fun q δ1 μ1=>forM (Zv f p) q.1 q.2 (List.range q.2) δ1 μ1:=rfl
@[simp] theorem RJ {mt:String->String->Nat->Option MF} {f:String} {o:Opn} {ms:List ME}:Zk mt f o ms δ μ=(o.ev δ μ).bind fun r δ1 μ1=>match r.self δ1 with
 | some d=>(match Yt μ1 d with
   | some (c,ks,vs)=>if getF ks vs f=none then (match mt c f ms.length with
     | some m=>(XF ms δ1 μ1).bind fun ds δ2 μ2=>(match m (d :: ds) μ2 with
       | .ok s μ3=>.ok s δ2 μ3
       | .exc x μ3=>.exc x δ2 μ3
       | .bad=>.bad)
     | none=>.bad) else .bad
   | none=>.bad)
 | none=>.bad:=rfl
theorem Fe {xs:List D} {d:D} {i:Nat} {is:List Nat} (hk:lstAt μ k=some xs) (hd:xs[i]?=some d):lcM f t m vs k n (i :: is) acc δ μ=(PL f t m vs d δ μ).bind fun o δ1 μ1=>match o with
  | some e=>if acc.length < 16777216 then lcM f t m vs k n is (acc++[e]) δ1 μ1 else .bad
  | none=>lcM f t m vs k n is acc δ1 μ1:=by
 have e0:TU μ k i=some d:=by unfold TU; rw [hk]; exact hd
 unfold PL
 conv=>lhs; unfold lcM
 simp only [e0];cases f d δ with
 | none=>rfl
 | some δ' =>
   cases h:(t δ' μ).cut with
   | bad=>simp only [h]; rfl
   | exc x δ2 μ2=>simp only [h]; rfl
   | ok b δ2 μ2 =>
     simp only [h,Wu];cases b with
     | false=>rfl
     | true =>
       simp only [if_true];cases h2:(m δ2 μ2).cut with
       | bad=>rfl
       | exc x δ3 μ3=>rfl
       | ok s δ3 μ3=>rfl
theorem MN {xs:List D} (F:D->Option D) (hk:lstAt μ k=some xs) (h:∀ d∈xs,PL f t m vs d δ μ = .ok (F d) δ μ):∀ (j i:Nat) (acc:List D),i+j=xs.length->acc.length+j < 16777216 ->
  lcM f t m vs k xs.length ((List.range xs.length).drop i) acc δ μ = .ok (.own (.lst (acc++(xs.drop i).filterMap F))) δ μ
 | 0,i,acc,e,hl=>by
   rw [List.drop_eq_nil_of_le (by simp; omega),List.drop_eq_nil_of_le (by omega)];simp [lcM,endAt,hk]
 | j+1,i,acc,e,hl=>by
   have hlt:i < xs.length:=by omega
   rw [VN hlt,Fe hk (List.getElem?_eq_getElem hlt),h _ (List.getElem_mem hlt),Wu,List.drop_eq_getElem_cons hlt];cases eF:F xs[i] with
   | none =>
     simp only [];rw [MN F hk h j (i+1) acc (by omega) (by omega),List.filterMap_cons,eF]
   | some x =>
     simp only [show acc.length < 16777216 by omega,if_true];rw [MN F hk h j (i+1) (acc++[x]) (by omega) (by rw [List.length_append,List.length_singleton]; omega),List.filterMap_cons,eF];simp only [List.append_assoc,List.singleton_append]
theorem NY {xs:List D} (F:D->Option D) (hk:lstAt μ k=some xs) (h:∀ d∈xs,PL f t m vs d δ μ = .ok (F d) δ μ) (hl:xs.length < 16777216) :
  lcM f t m vs k xs.length (List.range xs.length) [] δ μ = .ok (.own (.lst (xs.filterMap F))) δ μ:=by
 have:=MN F hk h xs.length 0 [] (by omega) (by simpa using hl);simpa using this
end
end FL
namespace FL
open PySem L2
def Lay (d:Nat) (x:D):Prop:=∃ q,D.py x=some q/\PyData.canLay0 q=true/\q.depth<=d
theorem Lay.int {i:Int}:Lay 0 (.int i):=⟨.int i,rfl,by simp [PyData.canLay0],by simp [PyData.depth]⟩
theorem Lay.bl {b:Bool}:Lay 0 (.bl b):=⟨.bool b,rfl,by simp [PyData.canLay0],by simp [PyData.depth]⟩
theorem Lay.str {x:Tx} (h:∀ c∈x,c < 128):Lay 0 (.str x):=⟨.str (toS x),rfl,by simp only [PyData.canLay0]; exact Oe h,by simp [PyData.depth]⟩
theorem Lay.all {d:Nat}:∀ {xs:List D},(∀ x∈xs,Lay d x)->∃ qs,D.pys xs=some qs/\PyData.canLayAll0 qs=true/\PyData.depthAll qs<=d
 | [],_=>⟨[],by simp [D.pys,PyData.canLayAll0,PyData.depthAll]⟩
 | x :: xs,h=>by
   obtain ⟨q,a1,l1,g1⟩:=h x (List.mem_cons_self ..);obtain ⟨qs,a2,l2,g2⟩:=Lay.all (xs:=xs) fun y hy=>h y (List.mem_cons_of_mem _ hy);exact ⟨q :: qs,by simp [D.pys,a1,a2],by simp [PyData.canLayAll0,l1,l2],by simp only [PyData.depthAll]; omega⟩
theorem Lay.tup {d:Nat} {xs:List D} (h:∀ x∈xs,Lay d x):Lay (d+1) (.tup xs):=by
 obtain ⟨qs,a,l,g⟩:=Lay.all h;exact ⟨.tuple qs,by simp [D.py,a],by simpa [PyData.canLay0] using l,by simp only [PyData.depth]; omega⟩
theorem Lay.lst {d:Nat} {xs:List D} (h:∀ x∈xs,Lay d x):Lay (d+1) (.lst xs):=by
 obtain ⟨qs,a,l,g⟩:=Lay.all h;exact ⟨.list qs,by simp [D.py,a],by simpa [PyData.canLay0] using l,by simp only [PyData.depth]; omega⟩
theorem Lay.same {d:Nat} {x:D} (neg:Bool) (h:Lay d x) (h1:d<=64) (h2:Qy x x=none):YC neg x x=some (tb (true != neg)):=by
 obtain ⟨q,a,l,g⟩:=h;have s:SeqAt.shaped q=true:=by
  unfold SeqAt.shaped;rw [l,decide_eq_true (show q.depth<=64 by omega)];rfl
 simp [YC,h2,eqP,a,s,SeqAt.eqv_refl q l]
theorem ne_of {μ:Mem} {i j:Nat} {a b:Own} (h1:μ[i]?=some a) (h2:μ[j]?=some b) (h:a≠b):i≠j:=fun e=>by
 subst e;rw [h1] at h2;cases h2;exact h rfl
structure Agr (A:List Nat) (μ μ':Mem):Prop where
 len:μ.length<=μ'.length
 at_:∀ i o,μ[i]?=some o->i∉A->μ'[i]?=some o
theorem Agr.refl {A:List Nat} {μ:Mem}:Agr A μ μ:=⟨Nat.le_refl _,fun _ _ h _=>h⟩
theorem Agr.trans {A B:List Nat} {μ μ1 μ2:Mem} (a:Agr A μ μ1) (b:Agr B μ1 μ2):Agr (A++B) μ μ2 :=
 ⟨Nat.le_trans a.len b.len,fun i o h n=>b.at_ i o (a.at_ i o h fun z=>n (List.mem_append_left _ z)) fun z=>n (List.mem_append_right _ z)⟩
theorem Agr.set {μ:Mem} {i:Nat} {o:Own}:Agr [i] μ (μ.set i o):=⟨by simp,fun j u h n=>by
 rw [List.getElem?_set_ne (fun z=>n (by simp [z]))]; exact h⟩
theorem Agr.app {μ ν:Mem}:Agr [] μ (μ++ν):=⟨by simp,fun j u h _=>by
 rw [List.getElem?_append_left (List.getElem?_eq_some_iff.mp h).1]; exact h⟩
theorem Agr.fr {μ μ':Mem} {j:Nat} (h:Fr j μ μ'):Agr [j] μ μ':=⟨Nat.le_of_eq h.1.symm,fun i o e n=>by
 rw [h.2 i (fun z=>n (by simp [z]))]; exact e⟩
theorem Src.cell {μ:Mem} {j:Nat} {B:Int} (h:Src μ j B):∃ xs,μ[j]?=some (.lst xs):=let ⟨_,_,_,h1,_⟩:=h; ⟨_,h1⟩
theorem XR {μ:Mem} {i:Nat} {o u:Own} (h:μ[i]?=some u):(μ.set i o)[i]?=some o:=List.getElem?_set_self (List.getElem?_eq_some_iff.mp h).1
theorem UY {M:Mem} {i:Nat} {o:Own} (h:(M[i]?).isSome=true):(M.set i o)[i]?=some o:=by
 obtain ⟨u,e⟩:=Option.isSome_iff_exists.mp h;exact XR e
theorem ZY {M:Mem} {i j:Nat} {o:Own} (h:i≠j):(M.set i o)[j]?=M[j]?:=List.getElem?_set_ne h
theorem Vf {M N:Mem} {i:Nat} (h:(M[i]?).isSome=true):(M++N)[i]?=M[i]?:=by
 obtain ⟨u,e⟩:=Option.isSome_iff_exists.mp h;exact List.getElem?_append_left (List.getElem?_eq_some_iff.mp e).1
theorem KI {xs:List D} {a d:D}:VE (.lst (xs++[a])) (.int (-1)) d=some (.lst (xs++[d])):=by
 have e:L2.ixN (xs++[a]).length (-1)=some xs.length:=by
  unfold L2.ixN;have h2 : -(((xs++[a]).length:Nat):Int) <= -1:=by simp; omega
  rw [if_neg (by decide),if_pos h2];have:(-1+(((xs++[a]).length:Nat):Int)).toNat=xs.length:=by simp; omega
  rw [this]
 simp only [VE,e];rw [List.set_append_right _ _ (Nat.le_refl _)];simp
theorem Pp {ns:List Int} {δ:FL.Loc} {μ:Mem} {f:VY} {m:MS} {P:FL.Loc->Mem->Prop} {N:Int} (hN:1<=N) (hN2:N<=1000) (h0:δ[0]?=some (some (.fr (.ro (ns.map .int)))))
  (h:∀ K:Int,1<=K->K<=N->Nx (Wn (Zv f m) (Zj 0 K.toNat) δ μ) P):Nx (WD (Xv (.e (mC So [(.e (mD (.int 1))),(.e (mC T_ [(.e (mD (.int N))),(.e (mC Zt [(.v 0)]))]))]))) f m δ μ) P:=by
 have hb:1<=(if 1 < (if (ns.length:Int) < N then (ns.length:Int) else N) then (if (ns.length:Int) < N then (ns.length:Int) else N) else 1)/\(if 1 < (if (ns.length:Int) < N then (ns.length:Int) else N) then (if (ns.length:Int) < N then (ns.length:Int) else N) else 1)<=N:=by
  by_cases h4:(ns.length:Int) < N
  ·rw [if_pos h4]; split <;> omega
  ·rw [if_neg h4]; split <;> omega
 have e:∀ n:Int,mC T_ [(.e (mD (.int N))),(.e (mC Zt [(.v 0)]))] δ μ = .ok (.fr (.int (if (ns.length:Int) < N then (ns.length:Int) else N))) δ μ:=fun n=>by
  simp only [Aw,TY,LP,IU,CF,Wu,Ge,h0,LU,LW,CH,IT,IP,CG,IS,Ga,List.length_map,IQ,F_]
 have e:=e 0;generalize (if (ns.length:Int) < N then (ns.length:Int) else N)=L at e hb;have e2:mC So [(.e (mD (.int 1))),(.e (mC T_ [(.e (mD (.int N))),(.e (mC Zt [(.v 0)]))]))] δ μ = .ok (.fr (.int (if 1 < L then L else 1))) δ μ:=by
  rw [Aw,TY,IU,CF,Wu,Wu,TY,IU,e];rfl
 generalize (if 1 < L then L else 1)=K at e2 hb;have:=h K hb.1 hb.2;have e3:Xv (.e (mC So [(.e (mD (.int 1))),(.e (mC T_ [(.e (mD (.int N))),(.e (mC Zt [(.v 0)]))]))])) δ μ = .ok (Zj 0 K.toNat) δ μ:=by
  rw [D4,TY,IU,e2];exact MZ (by omega) (by omega)
 rw [Tc,e3,Qp];exact this
end FL
namespace FL
open PySem PySem.Spec PyProof.Rows L2
def Qf (x y:D):Option Bool:=match D.py x,D.py y with
 | some a,some b=>if PyData.canLay0 a=true/\PyData.canLay0 b=true/\a.depth<=60/\b.depth<=60 then some (PyData.eqv a b) else none
 | _,_=>none
def Wt:List (DK×D)->List (DK×D)->Option Bool
 | [],_=>some true
 | (k,d) :: r,l=>match YA l k with
   | none=>some false
   | some e=>match Qf d e,Wt r l with
     | some b,some c=>some (b&&c)
     | _,_=>none
def Po (x y:D):Option Bool:=match YB x,YB y with
 | some (ks,ds),some (ls,es)=>if ks.length=ds.length/\ls.length=es.length then (if ks.length=ls.length then Wt (ks.zip ds) (ls.zip es) else some false) else none
 | _,_=>none
def Uo (neg:Bool) (x y:D):Option Slot:=(Po x y).map fun b=>.fr (.bl (b != neg))
def H_ (X:Cx) (neg:Bool):R2:=fun x y H Q => ∃ a b ka kb r,x = .ref a/\y = .ref b/\Rd H a (.dK ka)/\Rd H b (.dK kb) /\
 (∀ (A:Around) (s:Shared) (pins:List (Addr×Obj)) (σ:L2.St) (va vb:List (Key×Value)),A.units+61 < cLine->Inv X pins σ H s->L2.KV ka va->L2.KV kb vb->ka.length=kb.length->PySem.W.KeqHits A s vb va r)/\Q (.bl ((decide (ka.length=kb.length)&&r) != neg)) H
section
variable {X : Cx} {W : WX} {k : Nat} {N : List Str} {sc : Scope} {a b : Expr} {pos : Pos} {oa ob : Opn}
theorem H9 (hu:X.A.units+65 < cLine):OpR X (compareOp .NotEq) (H_ X true):=by
 intro pins s σ H x y v u Q I rx ry h;obtain ⟨p,q,ka,kb,r,rfl,rfl,ea,eb,hits,qq⟩:=h;cases (show v=Value.ref p from rx);cases (show u=Value.ref q from ry);obtain ⟨_,ya,va,ra,da⟩:=dk_rd I.hok ea;obtain ⟨_,yb,vb,rb,db⟩:=dk_rd I.hok eb;have hl1:va.length=ka.length:=ra.length.symm;have hl2:vb.length=kb.length:=rb.length.symm;have hu1:X.A.in1.units+61 < cLine:=by
  show X.A.units+1+61 < cLine;omega
 refine PySem.W.keq_ne (knd:=mixKind X.prog X.w) (r:=r) ya yb da db (by omega) (fun e=>hits _ _ pins σ va vb hu1 I ra rb (by omega)) (fin_bl I qq ?_);rw [hl1,hl2];by_cases e:ka.length=kb.length <;> simp [e]
theorem Fc {Z F H:Hp} {ρ:List Addr} {μ:Mem} {δ:Loc} {σ0:L2.St} (S:Sim X.K X.mg Z F ρ μ δ σ0 H) {v w:V} {d e:D} {r:Bool} (hv:Rep X.K X.mg F ρ v d) (hw:Rep X.K X.mg F ρ w e) (h:Qf d e=some r) {A:Around} {s:Shared} {pins:List (Addr×Obj)} {σ:L2.St} (hu:A.units+61 < cLine) (I:Inv X pins σ H s)
  {u u':Value} (ru:RelV v u) (ru':RelV w u'):SeqAt.EqAt A s u u' r:=by
 unfold Qf at h;cases e1:D.py d with
 | none=>simp only [e1] at h; cases h
 | some qa =>
   cases e2:D.py e with
   | none=>simp only [e1,e2] at h; cases h
   | some qb =>
     simp only [e1,e2] at h;by_cases c:PyData.canLay0 qa=true/\PyData.canLay0 qb=true/\qa.depth<=60/\qb.depth<=60
     ·rw [if_pos c] at h
      cases h;obtain ⟨as,r1⟩:=Dp.reads I qa v u (Rep.dp (fun _ _ h=>S.rd h) hv e1) ru;obtain ⟨bs,r2⟩:=Dp.reads I qb w u' (Rep.dp (fun _ _ h=>S.rd h) hw e2) ru';exact SeqAt.eqAt_reads qa qb A s u u' as bs r1 r2 c.1 c.2.1 (by omega)
     ·rw [if_neg c] at h; cases h
theorem H8 {K:PySem.W.Frag} {mg:Str->Option Value} {F:Hp} {ρ:List Addr}:∀ {ls:List DK} {ws:List V} {es:List D},ls.length=ws.length->RepL K mg F ρ ws es->FL.KV K mg F ρ ((ls.map DK.key).zip ws) (ls.zip es)
 | [],ws,es,_,_=>by simp; exact .nil
 | l :: ls,[],_,h,_=>by simp at h
 | l :: ls,w :: ws,_,h,.cons a b=>.cons a (H8 (by simpa using h) b)
theorem KH {Z F H:Hp} {ρ:List Addr} {μ:Mem} {δ:Loc} {σ0:L2.St} (S:Sim X.K X.mg Z F ρ μ δ σ0 H) {ls:List DK} {es:List D} {ws:List V} (hl:ls.length=ws.length) (rl:RepL X.K X.mg F ρ ws es) {A:Around} {s:Shared} {pins:List (Addr×Obj)} {σ:L2.St} (hu:A.units+61 < cLine) (I:Inv X pins σ H s)
  {vb:List (Key×Value)} (rb:L2.KV ((ls.map DK.key).zip ws) vb):∀ {ks:List DK} {ds:List D} {vs:List V} {va:List (Key×Value)} {r:Bool},ks.length=vs.length->RepL X.K X.mg F ρ vs ds->L2.KV ((ks.map DK.key).zip vs) va->Wt (ks.zip ds) (ls.zip es)=some r->PySem.W.KeqHits A s vb va r:=by
 intro ks
 induction ks with
 | nil =>
   intro ds vs va r e1 e2 e3 h;unfold L2.KV at e3;cases e3;cases h;exact .nil
 | cons kk ks ih =>
   intro ds vs va r e1 e2 e3 h;cases vs with
   | nil=>simp at e1
   | cons v vs =>
   cases e2 with
   | @cons _ d _ ds hd ht =>
   have e3':L2.KV ((kk.key,v) :: (ks.map DK.key).zip vs) va:=e3;unfold L2.KV at e3';cases e3' with
   | @cons _ q _ qs h1 t =>
     obtain ⟨h1,h2⟩:=h1;obtain ⟨qk,qv⟩:=q;have h1':kk.key=qk:=h1;subst h1';have h:Wt ((kk,d) :: ks.zip ds) (ls.zip es)=some r:=h;unfold Wt at h;have kvz:FL.KV X.K X.mg F ρ ((ls.map DK.key).zip ws) (ls.zip es):=H8 hl rl;cases eg:YA (ls.zip es) kk with
     | none =>
       simp only [eg] at h;cases h;have rr:RelO (valV ((ls.map DK.key).zip ws) kk.key) (valueAt vb kk.key):=rb.val kk.key;rw [FL.KV.get_no kvz eg] at rr;cases hv:valueAt vb kk.key with
       | none=>exact .miss hv
       | some y=>rw [hv] at rr; exact rr.elim
     | some e =>
       simp only [eg] at h;obtain ⟨w,hw,rw2⟩:=FL.KV.get kvz eg;have rr:RelO (valV ((ls.map DK.key).zip ws) kk.key) (valueAt vb kk.key):=rb.val kk.key;rw [hw] at rr;obtain ⟨y,hy,ry⟩:=rr.some_of;cases ev:Qf d e with
       | none=>simp only [ev] at h; cases h
       | some b1 =>
         cases ep:Wt (ks.zip ds) (ls.zip es) with
         | none=>simp only [ev,ep] at h; cases h
         | some b2 =>
           simp only [ev,ep] at h;cases h;exact .hit hy (Fc S hd rw2 ev hu I h2 ry) (ih (by simpa using e1) ht t ep)
theorem Fb (neg:Bool):R2J X (H_ X neg) (Uo neg):=by
 intro Z F ρ μ δ σ H x y dx dy s Q S bx bY e q;unfold Uo at e;obtain ⟨r,e1,rfl⟩:=Option.map_eq_some_iff.mp e;unfold Po at e1;cases hx:YB dx with
 | none=>simp only [hx] at e1; cases e1
 | some p1 =>
   obtain ⟨ks,ds⟩:=p1;cases hy:YB dy with
   | none=>simp only [hx,hy] at e1; cases e1
   | some p2 =>
     obtain ⟨ls,es⟩:=p2;simp only [hx,hy] at e1;obtain ⟨p,vs,rfl,h1,l1,r1⟩:=VO S bx hx;obtain ⟨p',ws,rfl,h2,l2,r2⟩:=VO S bY hy;have z1:((ks.map DK.key).zip vs).length=ks.length:=by simp [List.length_zip,l1]
     have z2:((ls.map DK.key).zip ws).length=ls.length:=by simp [List.length_zip,l2]
     by_cases c:ks.length=ds.length/\ls.length=es.length
     ·rw [if_pos c] at e1
      by_cases hl:ks.length=ls.length
      ·rw [if_pos hl] at e1
       refine ⟨p,p',_,_,r,rfl,rfl,h1,h2,fun A s' pins σ' va vb hu I ra rb _=>KH S l2 r2 hu I rb l1 r1 ra e1,?_⟩;rw [z1,z2,decide_eq_true hl,Bool.true_and];exact q _ H F .refl S ⟨.bl,fun o p z=>by cases z⟩
      ·rw [if_neg hl] at e1
       cases e1;refine ⟨p,p',_,_,false,rfl,rfl,h1,h2,fun A s' pins σ' va vb hu I ra rb hh=>absurd (by rw [z1,z2] at hh; exact hh) hl,?_⟩;rw [Bool.and_false];exact q _ H F .refl S ⟨.bl,fun o p z=>by cases z⟩
     ·rw [if_neg c] at e1; cases e1
theorem Cs.neDT (C:Cs X W k N sc) (ha:JO X W a oa) (hb:JO X W b ob):JT X W (.Compare a [.NotEq] [b] pos) (ZN (m2 (Uo true) oa ob)):=WV (H9 (by have:=C.rm.r.un; omega)) (Fb true) ha hb (nomark b)
end
end FL
namespace FL
open PySem PySem.Spec PyProof.Rows L2
section
variable {X : Cx} {W : WX} {k : Nat} {N : List Str} {sc : Scope} {a b e : Expr} {pos p : Pos} {oa ob oo : Opn} {m : ME}
def Ws (d y:D):Option Slot:=(YB d).bind fun p=>(Yo y).bind fun k=>(YA (p.1.zip p.2) k).map .fr
theorem Ce:R2J X Jd Ws:=by
 intro Z F ρ μ δ σ H x y dx dy s Q S bx bY e q;obtain ⟨⟨ks,ds⟩,ed,e⟩:=Option.bind_eq_some_iff.mp e;obtain ⟨kk,ek,e⟩:=Option.bind_eq_some_iff.mp e;obtain ⟨d,eg,rfl⟩:=Option.map_eq_some_iff.mp e;obtain ⟨a,r,rfl,g,hr⟩:=RK S bx ed bY ek;rcases hr with ⟨v,d',rfl,eg',rv⟩ | ⟨rfl,eg'⟩
 ·rw [eg] at eg'
  cases eg';exact ⟨a,v,rfl,g,q _ H F .refl S ⟨rv,fun o p z=>by cases z⟩⟩
 ·rw [eg] at eg'; cases eg'
end
end FL
namespace FL
open PySem PySem.Spec PyProof.Rows L2
section
variable {X : Cx} {W : WX} {k : Nat} {N : List Str} {sc : Scope} {a b e o i st : Expr} {pos p p2 apos cpos : Pos} {oa ob oo oi : Opn} {m : ME} {os : List Opn}
theorem Cs.getF (C:Cs X W k N sc) (ha:JO X W o oo) (hb:JO X W i oi) (hs:NoSl i):JE X W (.Subscript o i pos) (m2 Ws oo oi) :=
 (pe_dget (by have:=C.hu; omega) ha hb hs).imp fun σ H Q h=>W5 Ce σ H Q h
theorem Ac {K:PySem.W.Frag} {mg:Str->Option Value} {F:Hp} {ρ:List Addr} {ks:List DK} {ds:List D} {vs:List V} (hl:ks.length=vs.length) (rl:RepL K mg F ρ vs ds) {i:Nat} (hi:i < ks.length):∃ k v d,ks[i]?=some k/\vs[i]?=some v/\ds[i]?=some d/\((ks.map DK.key).zip vs)[i]?=some (k.key,v)/\Rep K mg F ρ v d:=by
 have hv:i < vs.length:=by omega
 obtain ⟨d,hd,rd⟩:=rl.getV (List.getElem?_eq_getElem hv);refine ⟨ks[i],vs[i],d,List.getElem?_eq_getElem hi,List.getElem?_eq_getElem hv,hd,?_,rd⟩;rw [List.getElem?_zip_eq_some];exact ⟨by simp [hi],List.getElem?_eq_getElem hv⟩
end
end FL
namespace FL
open PySem PySem.Spec PyProof.Rows L2
section
variable {X : Cx} {W : WX} {k j : Nat} {N : List Str} {sc : Scope} {x : Str} {e a b : Expr} {es : List Expr} {m : ME} {o1 oa ob : Opn} {p pos : Pos}
theorem Cs.o {i:Nat} (C:Cs X W k N sc) (h:RD N sc i x=true:=by decide +kernel):JO X W (.Name x p) (.v i):=C.ov h
theorem Cs.w {i:Nat} (C:Cs X W k N sc) (h:RD N sc i x=true:=by decide +kernel):JE X W (.Name x p) (mV i):=C.v h
theorem Cs.g {i:Nat} (C:Cs X W k N sc) (h:P2 N sc i x=true:=by decide +kernel):JG X (.Name x pos) (Zq i) [i]:=C.tg h
theorem Cd.g {i:Nat} (C:Cd X W k N sc) (h:OF N sc i x=true:=by decide +kernel):JG X (.Name x pos) (Zq i) [i]:=C.tg h
theorem Cd.st {i:Nat} {pos':Pos} (C:Cd X W k N sc) (he:JE X W e m) (h:OF N sc i x=true:=by decide +kernel) (hs:swapsWith e (some (.Name x pos')) pos.line X.env=pure false:=by rfl):JS X W (.Assign [.Name x pos'] e pos) (ZK i m):=C.set h he hs
theorem Cs.ln (C:Cs X W k N sc) (hm:X.mg "len" = none) (ha:JO X W e o1) (h:Th sc "len" = true:=by decide +kernel)
  (he:starEach [e] X.env=(false,eval e X.env) :: starEach [] X.env:=by rfl) (hpl:(backTo pos (starEach [] X.env)).any (·.1)=false:=by rfl):JE X W (.Call (.Name "len" p) [e] [] pos) (mC Zt [o1]) :=
 C.bi h hm PySem.boot_len AY AZ (ZE ha Me he) he hpl
theorem UL (ha:JO X W a oa) (hb:JO X W b ob) (hs:PlainIx b:=by intro _ _; rfl):JE X W (.Subscript a b pos) (m2 ZL oa ob):=tj ha hb hs
theorem XN {m:MF} {n:Nat} {dds:List D} {ms:List ME} (C:Cs X W k N sc) (F:uF X j x m n dds) (ha:JA X W (e :: es) ms) (hjk:j<=k:=by first | decide +kernel | omega) (hg:Th sc x=true:=by decide +kernel) (hn:ms.length+dds.length=n:=by rfl)
  (he:starEach (e :: es) X.env=(false,eval e X.env) :: starEach es X.env:=by rfl) (hpl:(backTo pos (starEach es X.env)).any (·.1)=false:=by rfl):JE X W (.Call (.Name x p) (e :: es) [] pos) (ZX m ms dds):=Gx C F hjk hg ha hn he hpl
theorem Y' {m:ME} (h:JE X W e m) (hs:starEach [e] X.env=(false,eval e X.env) :: starEach [] X.env:=by rfl):JA X W [e] [m]:=Z7 h YY hs
theorem Yb (h:JO X W e o1) (hs:starEach [e] X.env=(false,eval e X.env) :: starEach [] X.env:=by rfl):Ll X W [e] [o1]:=ZE h Me hs
end
section
variable {K : PySem.W.Frag} {x qual : Str} {st : Stmt} {f : Addr} {fd : FuncData} {a b c d e g : Str}
theorem Fd.b1 (F:Fd K x qual st f fd .none) (h:∀ (kV doc pm:Value) (an:Option Addr) (cdv ct u:Value),bindArgs (PySem.W.fnOf x qual (defArgs st) (defBody st) (defScope st) .none kV doc pm an cdv ct) ⟨[u],[]⟩=pure [(a,u)]:=by intros; kernel_rfl):Binds K fd [a] [] :=
 F.binds fun kV doc pm an cdv ct us hl=>match us,hl with | [u],_=>h kV doc pm an cdv ct u
theorem Fd.b2 (F:Fd K x qual st f fd .none) (h:∀ (kV doc pm:Value) (an:Option Addr) (cdv ct u v:Value),bindArgs (PySem.W.fnOf x qual (defArgs st) (defBody st) (defScope st) .none kV doc pm an cdv ct) ⟨[u,v],[]⟩=pure [(a,u),(b,v)]:=by intros; kernel_rfl):Binds K fd [a,b] [] :=
 F.binds fun kV doc pm an cdv ct us hl=>match us,hl with | [u,v],_=>h kV doc pm an cdv ct u v
theorem Fd.b3 (F:Fd K x qual st f fd .none) (h:∀ (kV doc pm:Value) (an:Option Addr) (cdv ct u v w:Value),bindArgs (PySem.W.fnOf x qual (defArgs st) (defBody st) (defScope st) .none kV doc pm an cdv ct) ⟨[u,v,w],[]⟩=pure [(a,u),(b,v),(c,w)]:=by intros; kernel_rfl):Binds K fd [a,b,c] [] :=
 F.binds fun kV doc pm an cdv ct us hl=>match us,hl with | [u,v,w],_=>h kV doc pm an cdv ct u v w
end
abbrev QS (a b:List Str):Scope:=⟨.function,a.map (fun x=>(x,NameKind.local))++b.map (fun x=>(x,NameKind.globalImplicit)),false,false,[]⟩
def vd (N P:List Str) (sc:Scope):Bool :=
 (match sc.kind with | .function=>true | _=>false) && !sc.isCoroutine && !sc.isGenerator&&decide N.Nodup&&decide (N.take P.length=P)&&P.all (fun x=>decide (sc.names.lookup x=some .local)||decide (sc.names.lookup x=some .cell))&&sc.names.all (fun y=>decide (y.2 ≠ .free))
theorem Pn {N P:List Str} {sc:Scope} (h:vd N P sc=true):FnScope N P sc:=by
 unfold vd at h;simp only [Bool.and_eq_true,Bool.not_eq_true',decide_eq_true_eq,List.all_eq_true,Bool.or_eq_true] at h;obtain ⟨⟨⟨⟨⟨⟨h1,h2⟩,h3⟩,h4⟩,h5⟩,h6⟩,h7⟩:=h;refine ⟨?_,h2,h3,h4,h5,h6,h7⟩;revert h1;cases sc.kind <;> simp
theorem YW {P:Program} {w:World} {K:PySem.W.Frag} {mg:Str->Option Value} {base:Heap} {k n:Nat} {f:Addr} {x qual:Str} {st:Stmt} {fd:FuncData} {ps:List Str} {m:MS} {dV:Value} (N:List Str) (sc:Scope) (F:Fd K x qual st f fd dV)
  (hbody:∀ (X:Cx) (W:WX),X.prog=P->X.w=w->X.K=K->X.mg=mg->X.base=base->Cd X W k N sc->L' X W (defBody st) m)
  (hS:vd N ps sc=true:=by decide +kernel) (hsc:defScope st=sc:=by kernel_rfl) (hn:ps.length=n:=by rfl):FnG P w K mg base (L2.CX P w) (k+1) f fd ps (spM K mg (Zu N.length m) n) :=
 AS F (Pn hS) hsc hn hbody
abbrev DF (K:PySem.W.Frag) (mg:Str->Option Value) (x:Str) (st:Stmt):Prop:=∃ f fd,Fd K x x st f fd .none/\mg x=some (.ref f)/\PySem.W.keepIn K (.ref f)=true
theorem Fu.mkD {P:Program} {w:World} {K:PySem.W.Frag} {mg:Str->Option Value} {base:Heap} {k n:Nat} {x q:Str} {st:Stmt} {m:MF} {ps:List Str} (h:∃ f fd,Fd K q q st f fd .none/\mg x=some (.ref f)/\PySem.W.keepIn K (.ref f)=true)
  (F:∀ (f:Addr) (fd:FuncData),Fd K q q st f fd .none->FnG P w K mg base (L2.CX P w) k f fd ps (spM K mg m n)/\Binds K fd ps []):Fu P w K mg base k x m n [] :=
 let ⟨f,fd,D,hm,hk⟩:=h
 Fu.mk0 (F f fd D).1 hm hk (F f fd D).2
end FL
namespace FL
open PySem PySem.Spec PyProof.Rows L2
section
variable {X : Cx} {W : WX} {k j n N : Nat} {nm : List Str} {sc : Scope} {e o : Expr} {es : List Expr} {kws : List Keyword} {pos p apos pos' tpos : Pos} {m mi : MF} {ms mks : List ME} {c : String} {ks : List Str} {sel : List Sel} {dds : List D} {at_ : String -> String -> Att} {f : String}
theorem vc (Cc:Cs X W k nm sc) (V:ClW X.prog X.w X.K X.mg X.base j c n ks sel mi N dds) (hjk:j+1<=k) (hg:Th sc (Str.ofString c)=true) (ha:JA X W (e :: es) ms) (hkw:JK X W kws mks) (h1:ms.length=n) (h2:mks.length=ks.length)
  (hall:(backToKw pos (keywordEach kws X.env)).all (·.1.isSome)=true:=by rfl) (hks:(backToKw pos (keywordEach kws X.env)).filterMap (·.1)=ks:=by rfl)
  (he:starEach (e :: es) X.env=(false,eval e X.env) :: starEach es X.env:=by rfl) (hpl:((backTo pos (starEach (e :: es) X.env)).any (·.1)||(backToKw pos (keywordEach kws X.env)).any (·.1.isNone))=false:=by rfl) :
  JE X W (.Call (.Name (Str.ofString c) p) (e :: es) kws pos) (YI (mkS c mi) sel ms mks dds) :=
 let ⟨_,hm,F⟩:=V.callS
 Oy Cc F hm hjk hg ha hkw h1 h2 hall hks he hpl
theorem Fd.bind1 {K:PySem.W.Frag} {x qual:Str} {st:Stmt} {f:Addr} {fd:FuncData} (F:Fd K x qual st f fd .none) {ps ks:List Str} {n:Nat} {sel:List Sel} {dw:List Value}
  (h:∀ (kV doc pm:Value) (an:Option Addr) (cdv ct:Value),VQ K (PySem.W.fnOf x qual (defArgs st) (defBody st) (defScope st) .none kV doc pm an cdv ct) ps n ks sel dw):VQ K fd ps n ks sel dw:=by
 obtain ⟨oc,od,kV,doc,pm,an,cdv,ct,osl,rfl,lk,hcd⟩:=F.ex;exact h _ _ _ _ _ _
end
end FL
namespace FL
open PySem PySem.Spec PyProof.Rows L2
theorem Cb {K:PySem.W.Frag} {h:Heap} {mg:Str->Option Value} {cs:List String} (X:K.In h) (G:h.Ns mainGlobals mg) (t:Bt cs K=true):Fl K mg cs:=by
 intro c hc C hC;obtain ⟨t1,t⟩:=Bool.and_eq_true_iff.mp (List.all_eq_true.mp t c hc);obtain ⟨t2,t⟩:=Bool.and_eq_true_iff.mp t;obtain ⟨t3,t4⟩:=Bool.and_eq_true_iff.mp t;rw [He.glo_ok X G t1] at hC;cases hC;exact ⟨of_decide_eq_true t2,of_decide_eq_true t3,of_decide_eq_true t4⟩
end FL
namespace FL
open PySem PySem.Spec PyProof.Rows L2
def Um (cs:List String) (f:String) (n:Nat) (m:MF):String->String->Nat->Option MF:=fun c' f' n' => if c'∈cs/\f'=f/\n'=n then some m else none
section
variable {P : Program} {w : World} {K : PySem.W.Frag} {mg : Str -> Option Value} {base : Heap} {j : Nat} {cs : List String} {b f : String} {n : Nat} {m : MF} {fd : FuncData} {ps : List Str}
theorem V' (B:MU K mg cs (Str.ofString b) (Str.ofString f)) (F:FnG P w K mg base (L2.CX P w) j (ZM K (pM b f)) fd ps (spM K mg m (n+1))) (hb:Binds K fd ps []):MethR P w K mg base j (Um cs f n m):=by
 intro c' f' n' m' h C hC;unfold Um at h;by_cases hc:c'∈cs/\f'=f/\n'=n
 ·rw [if_pos hc] at h
  cases h;obtain ⟨h1,rfl,rfl⟩:=hc;obtain ⟨cl,me⟩:=B c' h1 C hC;exact ⟨cl,ZM K (pM b f'),fd,ps,[],[],[],m,n'+1,me,F,hb,.nil,fun _ _=>.nil,rfl,fun ds' μ=>by rw [List.append_nil]⟩
 ·rw [if_neg hc] at h; cases h
end
end FL
namespace FL
open PySem PySem.Spec PyProof.Rows L2 LamX
theorem KG {B h h':Heap} {l:List Env} {e:Addr} {Z:Obj->Prop} (f:PySem.HandSPX.FlyingZ B l e Z h) (k:∀ b o,h.get? b=some o->h'.get? b=some o):PySem.HandSPX.FlyingZ B l e Z h':=by
 obtain ⟨f1,f2,f3,oe,vs,T,oT,ts,h1,h2,h3,h4,h5,h6,h7,h8,h9⟩:=f;exact ⟨fun b o hb=>k b o (f1 b o hb),f2,f3.of_keeps fun b o hb _=>⟨o,k b o hb,rfl⟩,oe,vs,T,oT,ts,k _ _ h1,h2,h3,h4,h5,h6,k _ _ h7,h8,h9⟩
def HY (K:PySem.W.Frag) (mg:Str->Option Value) (cs:List Value) (sub:String->Option Bool):Prop:=∀ c C b,sub c=some b->mg (Str.ofString c)=some (.ref C)->PySem.W.exmAny K (.ref C) cs=some b
abbrev Ab (a caught found err e1 e2 e3:Str) (j1 j2 kt k2 ke:Nat) (q:Nat->Pos) (rest:List Stmt):List Stmt :=
 .Assign [.Tuple [.Name caught (q 0),.Name found (q 1)] kt (q 2)] (.Tuple [.Constant .none j1 (q 3),.Constant .none j2 (q 4)] k2 (q 5)) (q 6) :: .Try [.Assign [.Name found (q 7)] (.Call (.Name a (q 8)) [] [] (q 9)) (q 10)] [.ExceptHandler (some (.Tuple [.Name e1 (q 11),.Name e2 (q 12),.Name e3 (q 13)] ke (q 14))) (some err) [.Assign [.Name caught (q 15)] (.Name err (q 16)) (q 17)] (q 18)] [] [] (q 19) :: rest
def tU (K:PySem.W.Frag) (cs:List Value) (i j:Nat) (Wout:WX) (D:L2.Ends):WX:=fun cls d σ H =>
 ∃ b,PySem.W.exmAny K cls cs=some b/\(b=true->∀ a,H a=none->D.nx (((σ.set i (some (.ref a))).set j (some (.ref a))).set i none) (upd H a (Sf a cls d)))/\(b=false->Wout cls d σ H)
section
variable {X : Cx} {x1 x2 x3 n k : Str} {c1 c2 c3 : Value} {i j : Nat} {body : List Stmt} {n1 n2 n3 tp pos pos' q7 q8 q9 : Pos} {kk : Nat} {tb : WX -> TS} {Wout : WX}
theorem KC (hs:X.stack=X.env :: X.outer) (hf:X.env.frame=some X.env.locals) (hex:X.ex=[]) (hN:X.N.Nodup) (hi:X.N[i]?=some n) (hln:X.env.kindOf n=some .local) (hj:X.N[j]?=some k) (hlk:L2.Loc X.env.scope k) (hfk:X.fn k=true) (hij:i < X.N.length)
  (nd:(n == ("__debug__" : Str))=false) (ncd:(n == ("__classdict__" : Str))=false) (hc1:Names X x1 c1) (hc2:Names X x2 c2) (hc3:Names X x3 c3) (tk:Takes X Wout)
  (hb:∀ (W:WX) (pn:List (Addr×Obj)) (xe:Value->Shared->Prop),Takes (X.tr pn xe) W->PassesOwn (model X.prog X.w) X.A X.env xe->PSs (X.tr pn xe) body (tb W)) :
  PS X (.Try body [.ExceptHandler (some (.Tuple [.Name x1 n1,.Name x2 n2,.Name x3 n3] kk tp)) (some n) [.Assign [.Name k q7] (.Name n q8) q9] pos'] [] [] pos) (fun D σ H=>tb (tU X.K [c1,c2,c3] i j Wout D) D σ H):=by
 refine ⟨fun pins s σ H D I0 want => ?_⟩;have ok:=I0.ok;have frs1:X.A.frames=some (X.env :: X.outer):=by rw [ok.frames,hs]
 have ln:L2.Loc X.env.scope n:=.inl hln;refine wpAny_Try_except (wpAny_mono ((hb (tU X.K [c1,c2,c3] i j Wout D) (X.pn++pins) (fun e s₁=>wpAny (model X.prog X.w) X.A (noteFrame e X.env) (fun _ s₂=>wpAny (model X.prog X.w) X.A (setFlight e none) (fun _ s₃ =>
  wpAny (model X.prog X.w) X.A (handleBy e X.env [.ExceptHandler (some (.Tuple [.Name x1 n1,.Name x2 n2,.Name x3 n3] kk tp)) (some n) [.Assign [.Name k q7] (.Name n q8) q9] pos']) (SP X pins D) X.xe s₃) X.xe s₂) X.xe s₁) (fun u s' xx => ?_) PassesOwn.looking).run [] s σ H D (I0.toTry _) want) (fun f s1 hsp => ?_) (fun e s1 he=>he))
 ·obtain ⟨a,B,sI,pz,σ',H',cls,d,rfl,Jt,nb,up,sky,na,os,ag,b,hb1,yes,no⟩:=xx
  have J:Inv X pins σ' H' sI:=Jt.ofTry ok;have sk:Sky B (X.env :: X.outer) a (Zc cls d) X.env.locals s'.heap:=by
   rw [← hs];exact sky
  show wpAny (model X.prog X.w) X.A (noteFrame (.ref a) X.env) _ _ _;refine Sky.land Zc.steady frs1 hf sk fun g3 f3 u3 => ?_;have J3:Inv X pins σ' H' { s' with heap:=g3 }:=J.landed nb f3.1 (up.trans u3) os ag;obtain ⟨o3,w3,e3,z3,d3⟩:=f3.there;have away:a∉frs (X.env :: X.outer):=fun hm=>by
   obtain ⟨_,o',e',hnf⟩:=f3.2.2.1.mem hm;rw [e3] at e';cases e';exact hnf _ d3
  have nL:a≠X.env.locals:=fun z=>away (List.mem_filterMap.mpr ⟨X.env,List.mem_cons_self,by rw [hf,z]⟩);have nF:a∉X.fs:=fun hm=>by
   obtain ⟨e,he,q⟩:=List.mem_filterMap.mp hm;exact away (List.mem_filterMap.mpr ⟨e,List.mem_cons_of_mem _ he,q⟩)
  have newI:sI.heap.get? a=none:=by
   cases q:sI.heap.get? a with
   | none=>rfl
   | some o =>
     have z:=nb a o q (by rw [hs]; exact away);have z2:B.get? a=none:=f3.2.1;rw [z2] at z;cases z
  have new0:X.s_0.heap.get? a=none:=by
   cases q:X.s_0.heap.get? a with
   | none=>rfl
   | some o =>
     obtain ⟨o',z⟩:=J.base.there a o q (by rw [hex]; simp);rw [newI] at z;cases z
  have npin:∀ p∈X.pn++pins,p.1≠a:=fun p hp z=>by
   have y:=(J.pin p hp).1;rw [z,newI] at y;cases y
  have S3:=J3.suite e3 d3 na nL nF;refine wpAny_handleBy_cons (codeAny_handlers_test ?_) (by intro q; cases q);have LT:PySem.W.Looks (model X.prog X.w) g3 (typeOf (.ref a)) cls:=fun A Q E s k q=>wpAny_typeOf_ref (k _ _ e3) (by rw [z3.1]; exact q);have named:∀ {x:Str} {c:Value} {np:Pos},Names X x c->∀ {Q:Value->Shared->Prop} {E:Value->Shared->Prop},Q c { s' with heap:=g3 }->wpAny (model X.prog X.w) (X.A.mark (some (.ref a))) (eval (.Name x np) X.env) Q E { s' with heap:=g3 }:=fun {x c np} hc {Q E} q=>by
   obtain ⟨hg,hdbg,hm | ⟨hm,hv,hnn⟩⟩:=hc
   ·exact ld_glob (X:=X.suite a ((a,o3) :: (X.pn++pins))) S3 hg hm q hdbg
   ·exact ld_blt (X:=X.suite a ((a,o3) :: (X.pn++pins))) S3 hg hm hv q hnn hdbg
  refine wpAny_Tuple (wpAny_items_cons (named hc1 (wpAny_items_cons (named hc2 (wpAny_items_cons (named hc3 (wpAny_items_nil ⟨by rw [sizeLine_eq]; simp,?_⟩)))))));have kp:∀ q o,g3.get? q=some o->(g3.push { cls:=.type "tuple",data:=.seq [c1,c2,c3].toArray }).get? q=some o:=fun _ _ z=>Heap.get?_push_of_some _ z;have htp:=Heap.get?_push_size g3 (o:={ cls:=.type "tuple",data:=.seq [c1,c2,c3].toArray }) rfl;generalize g3.push { cls:=.type "tuple",data:=.seq [c1,c2,c3].toArray }=g5 at kp htp ⊢;have f5:=KG f3 kp;have u5:s'.heap.UpToSlots g5:=u3.trans (Heap.UpToSlots.of_keeps kp);have J5:Inv X pins σ' H' { s' with heap:=g5 }:=J.landed nb f5.1 (up.trans u5) os ag;have LM:=PySem.W.exm_tup3 (M:=model X.prog X.w) J5.kIn (LT.keeps kp) htp hb1;refine (LM.here ?_);cases b with
  | true =>
    refine codeAny_handlers_suite_as (HandSPX.lands_againZ f5 fun g4 f4 u4 => ?_);have J4:Inv X pins σ' H' { s' with heap:=g4 }:=J.landed nb f4.1 ((up.trans u5).trans u4) os ag;obtain ⟨o4,w4,e4,z4,d4⟩:=f4.there;refine store_ok (X:=X.suite a ((a,o4) :: (X.pn++pins))) (v:=.ref a) (J4.suite e4 d4 na nL nF) hN hi ln rfl (fun s5 S5 => ?_) (.inr hln);have pv:PE (X.suite a ((a,o4) :: (X.pn++pins))) (.Name n q8) (tVar i):=pe_var hi (.inl hln) nd ncd;have pa:=pss_one (ps_set (X:=X.suite a ((a,o4) :: (X.pn++pins))) (pos':=q7) (pos:=q9) hN hj hlk pv rfl (.inl hfk));have hi2:i < σ'.length:=by rw [J.len]; exact hij
    refine wpAny_mono (pa.run [] s5 _ H' { nx:=fun τ G=>τ=(σ'.set i (some (.ref a))).set j (some (.ref a))/\G=H',rt:=fun _ _=>False } S5 ⟨.ref a,by rw [List.getElem?_set_self hi2],rfl,rfl⟩) (fun f s6 hsp => ?_) (fun _ _ z=>False.elim z);cases f with
    | next =>
      obtain ⟨σ6,H6,S6,q1,q2⟩:=hsp;subst q1 q2;have S7:Inv X ((a,o4) :: pins) ((σ'.set i (some (.ref a))).set j (some (.ref a))) H6 s6 :=
       ⟨ok,S6.os,S6.bare,S6.base,S6.loc,S6.cell,S6.free,S6.freeC,fun p hp=>S6.pin p (by
        rw [List.append_nil];rcases List.mem_append.mp hp with y | y
        ·exact List.mem_cons_of_mem _ (List.mem_append_left _ y)
        ·rcases List.mem_cons.mp y with y | y
         ·rw [y]
          exact List.mem_cons_self
         ·exact List.mem_cons_of_mem _ (List.mem_append_right _ y)),S6.hok,S6.len⟩
      refine gone_ok S7 hN hi hln fun s7 J7=>⟨_,_,?_,yes rfl a na⟩;obtain ⟨y1,y2,y3,_⟩:=J7.pin (a,o4) (List.mem_append_right _ List.mem_cons_self);have J8:Inv X pins _ H6 s7:=⟨J7.ok,J7.os,J7.bare,J7.base,J7.loc,J7.cell,J7.free,J7.freeC,fun p hp=>J7.pin p (by
       rcases List.mem_append.mp hp with y | y
       ·exact List.mem_append_left _ y
       ·exact List.mem_append_right _ (List.mem_cons_of_mem _ y)),J7.hok,J7.len⟩
      exact AQ J8 y2 y1 z4.1 z4.2 d4 new0 y3 npin
    | ret u =>
      obtain ⟨_,_,_,_,_,z⟩:=hsp;exact z.elim
    | brk =>
      obtain ⟨_,_,_,z⟩:=hsp;exact z.elim
    | cont =>
      obtain ⟨_,_,_,z⟩:=hsp;exact z.elim
  | false =>
    show wpAny _ X.A (handleBy (.ref a) X.env []) _ _ _;refine wpAny_handleBy_nil ?_;obtain ⟨_,_,_,oe,vs,T,oT,ts',he,hz,hd,h1,_⟩:=id f5;unfold PySem.passOn;refine wpAny_bind (wpAny_field he hd h1 ?_);rw [if_neg (show ¬ ((Value.ref T == Value.none)=true) from by simp)];have leave:wpAny (model X.prog X.w) X.A (setFlight (.ref a) X.env.frame) (fun _ s4=>wpAny (model X.prog X.w) X.A (throw (.ref a):Sem Flow) (SP X pins D) X.xe s4) X.xe { s' with heap:=g5 }:=by
     rw [hf];refine HandSPX.setFlight_upZ f5 fun g4 hh4 u4=>wpAny_throw (tk _ _ ⟨a,B,sI,pins,σ',H',cls,d,rfl,J,nb,(up.trans u5).trans u4,.inr (.inr (by rw [hs]; exact hh4)),na,os,ag,no rfl⟩)
    first
     | exact wpAny_bind (wpAny_pure (wpAny_bind leave))
     | exact wpAny_bind leave
 ·cases f with
  | next =>
    obtain ⟨σ',H',J,q⟩:=hsp;exact wpAny_execs_nil ⟨σ',H',J.ofTry ok,q⟩
  | ret u =>
    obtain ⟨v,σ',H',J,r,q⟩:=hsp;exact ⟨v,σ',H',J.ofTry ok,r,q⟩
  | brk =>
    obtain ⟨σ',H',J,q⟩:=hsp;exact ⟨σ',H',J.ofTry ok,q⟩
  | cont =>
    obtain ⟨σ',H',J,q⟩:=hsp;exact ⟨σ',H',J.ofTry ok,q⟩
end
def VM (sub:String->Option Bool) (n:Nat) (rest:MS):(Mem->OutF)->Mem->OutF:=fun act μ=>match act μ with
 | .ok s μ' => (rest ([some (.fr .unk),some (.fr .non),some s,none]++List.replicate n none) μ').fin
 | .exc x μ' => match sub x.cls with
   | some true=>(rest ([some (.fr .unk),some (.fr (.exn x.cls x.attr x.arg)),some (.fr .non),none]++List.replicate n none) μ').fin
   | some false=>.exc x μ'
   | none=>.bad
 | .bad=>.bad
section
variable {P : Program} {w : World} {K : PySem.W.Frag} {mg : Str -> Option Value} {base : Heap} {k : Nat} {g : Addr} {x a caught found err e1 e2 e3 : Str} {more : List Str} {j1 j2 kt k2 ke : Nat} {q : Nat -> Pos} {st : Stmt} {fd : FuncData} {rest : List Stmt} {sc : Scope} {m : MS} {sub : String -> Option Bool} {C1 C2 C3 : Addr}
theorem E_ (Fz:Fd K x x st g fd .none) (S:FnScope (a :: caught :: found :: err :: more) [a] sc) (hsc:defScope st=sc) (hB:defBody st=Ab a caught found err e1 e2 e3 j1 j2 kt k2 ke q rest) (hm:mg x=some (.ref g)) (hkp:PySem.W.keepIn K (.ref g)=true) (hbd:Binds K fd [a] [])
  (he1:Th sc e1=true) (he2:Th sc e2=true) (he3:Th sc e3=true) (hc1:mg e1=some (.ref C1)) (hc2:mg e2=some (.ref C2)) (hc3:mg e3=some (.ref C3)) (hsub:HY K mg [.ref C1,.ref C2,.ref C3] sub) (v0:RD (a :: caught :: found :: err :: more) sc 0 a=true) (l1:P2 (a :: caught :: found :: err :: more) sc 1 caught=true) (l2:P2 (a :: caught :: found :: err :: more) sc 2 found=true) (v2:RD (a :: caught :: found :: err :: more) sc 3 err=true) (k2':sc.names.lookup err=some .local)
  (hw:∀ env:Env,env.scope=sc->swappedStores [.Tuple [.Name caught (q 0),.Name found (q 1)] kt (q 2)] (.Tuple [.Constant .none j1 (q 3),.Constant .none j2 (q 4)] k2 (q 5)) env=pure none)
  (hrest:∀ (X:Cx) (W:WX),X.prog=P->X.w=w->X.K=K->X.mg=mg->X.base=base->Cd X W (k+1) (a :: caught :: found :: err :: more) sc->L' X W rest m):Hlp P w K mg base (k+1) x (VM sub more.length m):=by
 subst hsc;refine ⟨g,hm,hkp,fun A outer s H f Q E act Z F ρ μ hr e0 S0 hact fin => ?_⟩;obtain ⟨oc,od,kV,doc,pm,an,cdv,ct,osl,rfl,lk,hcd⟩:=Fz.ex;have Nk:K.In s.heap:=e0.mod.kin.keeps fun b o e=>(e0.bs b o e).1;have lim:s.heap.NoLimit:=e0.mod.nolimit.keeps fun b o e=>(e0.bs b o e).1;have hb:=hbd s [.ref f] Nk rfl;refine codeAny_call_function hr.r.depth (Nk _ _ lk) rfl S.co S.gen rfl (PySem.W.codeRec_of Nk hcd) (hb _ _ _ _ ?_);refine wpAny_newFunctionEnv_cells S.kind (fun ⟨n,u⟩ hy => ?_) fun env eenv s1 xx => ?_
 ·rcases S.par n (List.of_mem_zip hy).1 with z | z
  ·exact Or.inl z
  ·exact Or.inr ⟨z,PySem.W.cellsFrom_some _ _ _ (Or.inl z)⟩
 subst eenv;refine ⟨lim.keeps xx.toInCall.keep,codeAny_func ?_⟩;have rv:Vals [V.ref f] [Value.ref f]:=.cons rfl .nil;generalize hX:cxOf (L2.CX P w) P w K mg base (a :: caught :: found :: err :: more) x (defScope st) g cdv A outer s H E=X;have I:Inv X [] (L2.start (a :: caught :: found :: err :: more) [.ref f]) H s1:=by
  subst hX;exact inv_start S hr.r.hd e0 rfl rv xx
 have C:Cd X (OD E) (k+1) (a :: caught :: found :: err :: more) (defScope st):=by
  subst hX;exact ⟨⟨rfl,hr.deeper _,takes_of rfl rfl rfl rfl,rfl,rfl,S.nd⟩,passes_of rfl,fun _ _=>rfl⟩
 have xP:X.prog=P:=by subst hX; rfl
 have xw:X.w=w:=by subst hX; rfl
 have xK:X.K=K:=by subst hX; rfl
 have xm:X.mg=mg:=by subst hX; rfl
 have xb:X.base=base:=by subst hX; rfl
 have xs:X.stack=X.env :: X.outer:=by subst hX; rfl
 have xf:X.env.frame=some X.env.locals:=by subst hX; rfl
 have xH:X.H_0=H:=by subst hX; rfl
 have xS:X.s_0=s:=by subst hX; rfl
 have xo:X.outer=outer:=by subst hX; rfl
 have xx':X.ex=[]:=by subst hX; rfl
 have xA:X.A=A.deeper (envOfC x (defScope st) s.heap.objs.size g cdv):=by subst hX; rfl
 have xE:X.env=envOfC x (defScope st) s.heap.objs.size g cdv:=by subst hX; rfl
 have xX:X.xe=fun e s' => wpAny (model P w) (A.deeper (envOfC x (defScope st) s.heap.objs.size g cdv)) (leaving (envOfC x (defScope st) s.heap.objs.size g cdv) e) (fun _ s'' => L2.CX P w outer H s E e s'') (fun e' s'' => L2.CX P w outer H s E e' s'') s':=by subst hX; rfl
 have hJ:=hrest X (OD E) xP xw xK xm xb C;subst xP xw xK xm xb;have own1:=C.own l1;have own2:=C.own l2
 -- the act,called
 have hcall:∀ (W:WX) (pn:List (Addr×Obj)) (xe:Value->Shared->Prop),Takes (X.tr pn xe) W->PassesOwn (model X.prog X.w) X.A X.env xe ->
   PSs (X.tr pn xe) [.Assign [.Name found (q 7)] (.Call (.Name a (q 8)) [] [] (q 9)) (q 10)] (fun D σ H1=>σ[0]?=some (some (.ref f))/\Sim X.K X.mg Z F ρ μ [] [] H1/\FinF X.K X.mg Z F ρ (fun v H' => D.nx (σ.set 2 (some v)) H') (fun c d H' => W c d σ H') (act μ)):=fun W pn xe tk _=>by
  have hp:PE (X.tr pn xe) (.Call (.Name a (q 8)) [] [] (q 9)) (fun σ H1 Q=>σ[0]?=some (some (.ref f))/\Sim X.K X.mg Z F ρ μ [] [] H1/\FinF X.K X.mg Z F ρ (fun v H' => Q v H') (fun c d H' => W c d σ H') (act μ)):=by
   refine ⟨fun pins s' σ H1 Q' I' hh => ?_⟩;obtain ⟨h0,hS1,hfin⟩:=hh;have pv:PE (X.tr pn xe) (.Name a (q 8)) (tVar 0):=by
    unfold RD at v0;simp only [Bool.and_eq_true,Bool.not_eq_true',decide_eq_true_eq,Bool.or_eq_true] at v0;obtain ⟨⟨⟨z1,z2⟩,z3⟩,z4⟩:=v0;refine pe_var (by show X.N[0]?=some a; rw [C.hN]; exact z1) ?_ z3 z4
    show X.env.scope.names.lookup a=_\/X.env.scope.names.lookup a=_\/X.env.scope.names.lookup a=_;rw [C.hsc];exact z2
   refine wpAny_Call_Name_kw (thn (pv.run pins s' σ H1 (fun v H2=>v = .ref f/\H2=H1) I' ⟨.ref f,h0,rfl,rfl⟩) fun u s2 ⟨v,H2,I2,r2,q2⟩ => ?_);obtain ⟨ev,eH⟩:=q2;subst ev;rw [eH] at I2;obtain rfl:u=Value.ref f:=r2;obtain ⟨⟨oc2,od2,fd2,osl2,of0⟩,nf,ff⟩:=hact.at_;have un:Un (frs outer) [] H H1 s.heap s2.heap:=by
    have z:Un X.fs X.ex X.H_0 H1 X.s_0.heap s2.heap:=I2.base;rw [xH,xS,xx'] at z;rw [← xo];exact z
   have of2:=un.keep f _ of0 nf ff (by simp);refine PySem.W.callWith_F0 ⟨_,_,_,_,of2⟩ ?_;refine wpAny_call (codeAny_mono (hact.run X.A X.stack s2 H1 Q' (WE W σ) Z F ρ μ C.rm I2.env0 un (fun _ _ z=>z) (fun _ _ z=>z) hS1 hfin) fun res s3 hr3 => ?_);cases res with
   | error e=>exact passAt tk σ pins H1 s2 e s3 I2 hr3
   | ok fl =>
     cases fl with
     | ret u=>exact I2.after hr3
     | next=>exact False.elim hr3
     | brk=>exact False.elim hr3
     | cont=>exact False.elim hr3
  exact (pss_one (ps_set (X:=X.tr pn xe) (pos':=q 7) (pos:=q 10) own2.1 own2.2.1 (.inl own2.2.2) hp rfl (.inr own2.2.2))).imp fun D σ H1 h=>h
 have tg:PG X (.Tuple [.Name caught (q 0),.Name found (q 1)] kt (q 2)) (gTup X.K 2 (gCons (gName 1) (gCons (gName 2) gNil))):=pg_tup C.calm (pgs_cons (pg_name own1.1 own1.2.1 (.inl own1.2.2) (.inr own1.2.2)) (pgs_cons (pg_name own1.1 own2.2.1 (.inl own2.2.2) (.inr own2.2.2)) pgs_nil));have first:=ps_asg (pos:=q 6) (pe_tup (x1:=k2) (pos:=q 5) (pa_cons (pe_non (X:=X) (j:=j1) (pos:=q 3)) (pa_cons (pe_non (X:=X) (j:=j2) (pos:=q 4)) pa_nil rfl) rfl)) tg rfl (hw X.env C.hsc) rfl
 have nerr:X.N[3]?=some err:=by
  rw [C.hN];rfl
 have kerr:X.env.kindOf err=some .local:=by
  show X.env.scope.names.lookup err=some .local;rw [C.hsc];exact k2'
 have tr:=KC (pos:=q 19) (pos':=q 18) (tp:=q 14) (kk:=ke) (n1:=q 11) (n2:=q 12) (n3:=q 13) (q7:=q 15) (q8:=q 16) (q9:=q 17) (Wout:=OD E) (c1:=.ref C1) (c2:=.ref C2) (c3:=.ref C3) (i:=3) (j:=1) xs xf xx' (by rw [C.hN]; exact S.nd) nerr kerr own1.2.1 (.inl own1.2.2) (C.fn caught (.inl own1.2.2)) (by rw [C.hN]; simp) (by
   unfold RD at v2;simp only [Bool.and_eq_true,Bool.not_eq_true'] at v2;exact v2.1.2) (by
   unfold RD at v2;simp only [Bool.and_eq_true,Bool.not_eq_true'] at v2;exact v2.2) ⟨(C.gl he1).1,(C.gl he1).2.1,.inl hc1⟩ ⟨(C.gl he2).1,(C.gl he2).2.1,.inl hc2⟩ ⟨(C.gl he3).1,(C.gl he3).2.1,.inl hc3⟩ C.tk hcall
 have all:=pss_cons first (pss_cons tr hJ)
 have hq:=all.run [] s1 _ H { nx:=fun _ H' => Q .non H',rt:=Q } I ?_
 ·rw [xA,xE,xX] at hq
  have out:∀ {σ':L2.St} {H':Hp} {s':Shared},Inv X [] σ' H' s'->s'.os=s.os/\Un (frs outer) [] H H' s.heap s'.heap:=fun {σ' H' s'} J=>by
   have z:Un X.fs X.ex X.H_0 H' X.s_0.heap s'.heap:=J.base;rw [xH,xS,xx'] at z;have y:s'.os=X.s_0.os:=J.os;rw [xS] at y;rw [← xo];exact ⟨y,z⟩
  have hq2:wpAny (model X.prog X.w) (A.deeper (envOfC x (defScope st) s.heap.objs.size g cdv)) (execs (defBody st) (envOfC x (defScope st) s.heap.objs.size g cdv)) (SP X [] { nx:=fun _ H' => Q .non H',rt:=Q }) (fun e s' => wpAny (model X.prog X.w) (A.deeper (envOfC x (defScope st) s.heap.objs.size g cdv)) (leaving (envOfC x (defScope st) s.heap.objs.size g cdv) e) (fun _ s'' => L2.CX X.prog X.w outer H s E e s'') (fun e' s'' => L2.CX X.prog X.w outer H s E e' s'') s') s1:=by
   rw [hB];exact hq
  refine wpAny_mono hq2 (fun fl s' hs => ?_) fun e s' hs=>hs;cases fl with
  | ret u =>
    obtain ⟨v,σ',H',J,rv,q⟩:=hs;exact ⟨v,H',(out J).1,J.bare,(out J).2,J.hok,rv,q⟩
  | next =>
    obtain ⟨σ',H',J,q⟩:=hs;exact ⟨.non,H',(out J).1,J.bare,(out J).2,J.hok,rfl,q⟩
  | brk =>
    obtain ⟨_,_,_,z⟩:=hs;exact z.elim
  | cont =>
    obtain ⟨_,_,_,z⟩:=hs;exact z.elim
 ·refine ⟨by rw [sizeLine_eq]; simp,fun p hp=>⟨p,_,rfl,.inl (.inl upd_same),rfl,_,_,rfl,_,_,rfl,rfl,?_⟩⟩
  refine ⟨rfl,S0.laid hp,?_⟩;have g:∀ (i:Nat) (s:FL.Slot) (x1 x2:FL.Slot),([some (.fr .unk),some x1,some x2,none]++List.replicate more.length none:FL.Loc)[i]?=some (some s)->(i=0/\s = .fr .unk)\/(i=1/\s=x1)\/(i=2/\s=x2):=fun i s x1 x2 e=>by
   match i,e with
   | 0,e=>cases e; exact .inl ⟨rfl,rfl⟩
   | 1,e=>cases e; exact .inr (.inl ⟨rfl,rfl⟩)
   | 2,e=>cases e; exact .inr (.inr ⟨rfl,rfl⟩)
   | 3,e=>cases e
   | i+4,e =>
     have e:(List.replicate more.length (none:Option FL.Slot))[i]?=some (some s):=e;rw [List.getElem?_replicate] at e
     split at e <;> cases e
  have st:∀ (y1 y2 y3:Option V) (d1 d2:D) {F':Hp} {ρ':List Addr} {μ':Mem} {H':Hp},y3=none->(∃ v,y1=some v/\Rep X.K X.mg F' ρ' v d1)->(∃ v,y2=some v/\Rep X.K X.mg F' ρ' v d2)->Sim X.K X.mg Z F' ρ' μ' [] [] H' ->
    Sim X.K X.mg Z F' ρ' μ' ([some (.fr .unk),some (.fr d1),some (.fr d2),none]++List.replicate more.length none) (((L2.start (a :: caught :: found :: err :: more) [V.ref f]).set 1 y1).set 2 y2) H':=fun y1 y2 y3 d1 d2 {F' ρ' μ' H'} e3 h1 h2 S' => by
   obtain ⟨v1,rfl,r1⟩:=h1;obtain ⟨v2,rfl,r2⟩:=h2;refine S'.frs (by simp [L2.start]) fun i s e => ?_;rcases g i s _ _ e with ⟨rfl,rfl⟩ | ⟨rfl,rfl⟩ | ⟨rfl,rfl⟩
   ·exact ⟨_,.ref f,rfl,rfl,.unk⟩
   ·exact ⟨_,v1,rfl,rfl,r1⟩
   ·exact ⟨_,v2,rfl,rfl,r2⟩
  unfold VM at fin;cases ea:act μ with
  | bad=>rw [ea] at fin; exact fin.elim
  | ok sl μ' =>
    rw [ea] at fin;intro v H' F' ρ' l lr S' rvv;have S0':=st (some .non) (some .non) none .non .non rfl ⟨_,rfl,.non⟩ ⟨_,rfl,.non⟩ S';have S1:=S0'.put (i:=2) (v:=v) (s:=sl) ⟨rvv,fun o p z1 z2 i o' e1 e2=>by
     rcases g i _ _ _ e1 with ⟨_,z⟩ | ⟨_,z⟩ | ⟨_,z⟩ <;> cases z⟩
    exact ⟨Z,F',ρ',μ',_,S1,Jp (fun _ _ _ _ z=>z) (fin.mono l lr)⟩
  | exc xx μ' =>
    rw [ea] at fin;intro c d H' F' ρ' l lr S' er;obtain ⟨Cc,dx,vv,rfl,rfl,h3,h4⟩:=id er;cases es:sub xx.cls with
    | none=>simp only [es] at fin; exact fin.elim
    | some b =>
      refine ⟨b,hsub _ _ _ es h3,fun hb1 a' ha' => ?_,fun hb0 => ?_⟩
      ·subst hb1
       simp only [es] at fin;obtain ⟨w1,w2,w3,w4⟩:=S'.notIn ha';have S2:=S'.laid (o:=Sf a' (.ref Cc) (some dx)) ha';obtain ⟨l3,S3⟩:=S2.freeze upd_same ⟨w1,w2,w3⟩ w4;have S4:=st (some (.ref a')) (some .non) none (.exn xx.cls xx.attr xx.arg) .non rfl ⟨_,rfl,.exn h3 (Rd.up l3.to h4.1) upd_same (Rep.up l3.to (fun _ _ z=>z) h4.2)⟩ ⟨_,rfl,.non⟩ S3;have e5:((((((L2.start (a :: caught :: found :: err :: more) [V.ref f]).set 1 (some V.non)).set 2 (some V.non)).set 3 (some (V.ref a'))).set 1 (some (V.ref a'))).set 3 none)=(((L2.start (a :: caught :: found :: err :: more) [V.ref f]).set 1 (some (V.ref a'))).set 2 (some V.non)):=by
        simp [L2.start,List.replicate_succ]
       show Ea X (OD E) m _ _ _;rw [e5];exact ⟨Z,_,ρ',μ',_,S4,Jp (fun _ _ _ _ z=>z) ((fin.mono l lr).mono l3 .refl)⟩
      ·subst hb0
       simp only [es] at fin;exact fin _ _ _ _ _ l lr S' er
end
end FL
namespace FL
open PySem PySem.Spec PyProof.Rows L2 LamX
theorem E9 {K:PySem.W.Frag} {c d:Str} {b:Bool} (t:DI c d b K=true):ExcK K (He.ga K c)/\PySem.W.kitOne K (.ref (He.ga K c)) (.ref (He.ga K d))=some b:=by
 unfold DI at t;simp only [Bool.and_eq_true,decide_eq_true_eq] at t;obtain ⟨a1,a2,a3,a4,a5,a6,a7,a8,a9⟩:=t;exact ⟨⟨a1,a2,a3,a4,a5,a6,a7,a8⟩,a9⟩
theorem E8 {K:PySem.W.Frag} {h:Heap} {mg:Str->Option Value} (X:K.In h) (G:h.Ns mainGlobals mg):∀ (t:OS),OQ t K=true->AN K mg (Sb t):=by
 intro t
 induction t with
 | nil=>intro _ c d b C D n; cases n
 | cons e t ih =>
   intro ht c d b C D n hC hD;unfold OQ at ht;rw [List.all_cons] at ht;obtain ⟨h1,h2⟩:=Bool.and_eq_true_iff.mp ht;obtain ⟨c',d',b'⟩:=e;by_cases hc:c=c'/\d=d'
   ·obtain ⟨rfl,rfl⟩:=hc
    have e1:Sb ((c,d,b') :: t) c d=some b':=by simp [Sb]
    rw [e1] at n;cases n;obtain ⟨g1,g2⟩:=Bool.and_eq_true_iff.mp h1;obtain ⟨g2,g3⟩:=Bool.and_eq_true_iff.mp g2;have g1:=He.glo_ok X G g1;have g2:=He.glo_ok X G g2;rw [hC] at g1;rw [hD] at g2;cases g1;cases g2;exact E9 g3
   ·have e1:Sb ((c',d',b') :: t) c d=Sb t c d:=by simp [Sb,hc]
    rw [e1] at n;exact ih h2 c d b C D n hC hD
theorem E7 {K:PySem.W.Frag} {h:Heap} {mg:Str->Option Value} (X:K.In h) (G:h.Ns mainGlobals mg):∀ (t:OS),OQ t K=true->∀ d b c,Sb t c d=some b->∃ D,mg (Str.ofString d)=some (.ref D):=by
 intro t
 induction t with
 | nil=>intro _ d b c n; cases n
 | cons e t ih =>
   intro ht d b c n;unfold OQ at ht;rw [List.all_cons] at ht;obtain ⟨h1,h2⟩:=Bool.and_eq_true_iff.mp ht;obtain ⟨c',d',b'⟩:=e;by_cases hc:c=c'/\d=d'
   ·obtain ⟨rfl,rfl⟩:=hc
    obtain ⟨g1,g2⟩:=Bool.and_eq_true_iff.mp h1;obtain ⟨g2,g3⟩:=Bool.and_eq_true_iff.mp g2;exact ⟨_,He.glo_ok X G g2⟩
   ·have e1:Sb ((c',d',b') :: t) c d=Sb t c d:=by simp [Sb,hc]
    rw [e1] at n;exact ih h2 d b c n
end FL
namespace FL
open PySem PySem.Spec PyProof.Rows L2 LamX
def u_ (K:PySem.W.Frag) (f:Str) (te:TE):TE:=fun σ H Q=>te σ H fun x H1 => ∃ (a C dx:Addr) (fs:List (Str×V)) (v:V),x = .ref a/\H1 a=some (Sf a (.ref C) (some dx))/\Rd H1 dx (.xd fs)/\XfC K C/\PySem.W.findIn K (.ref C) f=some none/\fs.lookup f=some v/\Q v H1
theorem B_ {X:Cx} {e:Expr} {te:TE} {pos:Pos} {n:Str} (he:PE X e te) (hb:attributeBase e n X.env (eval e X.env)=eval e X.env:=by rfl):PE X (.Attribute e n pos) (u_ X.K n te):=by
 refine ⟨fun pins s σ H Q I h => ?_⟩;refine attr_of hb (thn (he.run pins s σ H _ I h) fun u s1 hh => ?_);obtain ⟨x,H1,I1,rx,a,C,dx,fs,v,ex,ea,ed,T,hno,l,q⟩:=hh;subst ex;obtain rfl:u=Value.ref a:=rx;obtain ⟨⟨oe,vs,h1,h2,h3,h4⟩,_,_⟩:=I1.hok a _ ea;obtain ⟨mA,hns,hr⟩:=ed.ok I1.hok;obtain ⟨od,ho,hl⟩:=lookIn_ns hns;obtain ⟨u,hu,ru⟩:=RelO.some_of (v:=v) (o:=mA n) (by rw [← l]; exact hr n);have J:PySem.W.InstAt s1.heap a oe C (some od):=by
  obtain ⟨oc,oo,oda,osl⟩:=oe;dsimp only at h2 h3 h4;subst h2 h3 h4;exact ⟨h1,rfl,rfl,ho⟩
 exact HandSPX.exc_get I1.kIn J T.ga T.gg T.exC (PySem.W.findObj_own T.hdC hno rfl (by rw [hl,hu])) (handed_of ru) ⟨v,H1,I1.tok _,ru,q⟩
def QO (cs:List String) (f:String) (o:Opn):ME:=fun δ μ=>(o.ev δ μ).bind fun r δ1 μ1=>match r.self δ1 with
 | some (.exn c a d)=>if c∈cs/\a=f then .ok (.fr d) δ1 μ1 else .bad
 | _=>.bad
def BE (K:PySem.W.Frag) (mg:Str->Option Value) (cs:List String) (f:String):Prop:=∀ c∈cs,∀ C,mg (Str.ofString c)=some (.ref C)->XfC K C/\PySem.W.findIn K (.ref C) (Str.ofString f)=some none
section
variable {X : Cx} {W : WX} {k : Nat} {N : List Str} {sc : Scope} {e : Expr} {es : List Expr} {pos p p2 : Pos} {o : Opn} {cs ds : List String} {f : String} {isa : String -> String -> Option Bool}
theorem HX {Z F H:Hp} {ρ:List Addr} {μ:Mem} {δ:FL.Loc} {σ:L2.St} {v:V} {r:OR} {c a:String} {d:D} (S:Sim X.K X.mg Z F ρ μ δ σ H) (hx:OrR X.K X.mg F ρ σ v r) (e:r.self δ=some (.exn c a d)) :
  ∃ (p C dx:Addr) (y:V),v = .ref p/\X.mg (Str.ofString c)=some (.ref C)/\H p=some (Sf p (.ref C) (some dx))/\L2.Rd H dx (.xd [(Str.ofString a,y)])/\Rep X.K X.mg F ρ y d:=by
 have h:=OR.self_rep S hx e;cases h with
 | exn h1 h2 h3 h4 =>
   have hH:H _=some _:=(S.le _ _ h3).elim (fun z=>z) fun ⟨ob,kvs,z,_⟩=>by
    unfold Sf at z;cases z
   exact ⟨_,_,_,_,rfl,h1,hH,S.rd h2,h4⟩
theorem Pm (hf:BE X.K X.mg cs f) (ho:JO X W e o) (hb:attributeBase e (Str.ofString f) X.env (eval e X.env)=eval e X.env:=by rfl):JE X W (.Attribute e (Str.ofString f) pos) (QO cs f o):=by
 refine (B_ ho hb).imp fun σ H Q ⟨Z,F,ρ,μ,δ,S,q⟩ => ?_;refine ⟨Z,F,ρ,μ,δ,S,(FinE.bind q).imp fun r δ1 μ1 H1 F1 ρ1 l lr S1 ⟨_,_,_,z⟩ x hx => ?_⟩;cases es:r.self δ1 with
 | none=>simp only [es] at z; exact z.elim
 | some d0 =>
   rw [es] at z;cases d0 <;> first | (exact z.elim) | skip
   rename_i c a d
   dsimp only at z;by_cases hc:c∈cs/\a=f
   ·rw [if_pos hc] at z
    obtain ⟨hc,rfl⟩:=hc;obtain ⟨p,C,dx,y,rfl,hC,hH,hd,ry⟩:=HX S1 hx es;obtain ⟨x1,x2⟩:=hf c hc C hC;exact ⟨p,C,dx,_,y,rfl,hH,hd,x1,x2,by simp,z _ F1 ρ1 .refl .refl S1 _ (VR.fr' ry)⟩
   ·rw [if_neg hc] at z; exact z.elim
def TR (isa:String->String->Option Bool) (ds:List String) (o:Opn):ME:=fun δ μ=>(o.ev δ μ).bind fun r δ1 μ1=>match r.self δ1 with
 | some (.exn c _ _)=>(match MV (ds.map fun d=>isa c d) with
   | some b=>.ok (.fr (.bl b)) δ1 μ1
   | none=>.bad)
 | _=>.bad
def HW (K:PySem.W.Frag):List V->Hp->VK->Prop:=fun xs H Q => ∃ (a C dx tp:Addr) (fs:List (Str×V)) (us:List Addr) (b:Bool),xs=[.ref a,.ref tp]/\H a=some (Sf a (.ref C) (some dx))/\L2.Rd H dx (.xd fs)/\ExcK K C/\H tp=some (.tup (us.map V.ref))/\PySem.W.kitAny K (.ref C) (us.map Value.ref)=some b/\Q (.bl b) H
theorem vals_refs:∀ {us:List Addr} {its:List Value},Vals (us.map V.ref) its->its=us.map Value.ref
 | [],_,.nil=>rfl
 | u :: us,_,.cons h t=>by
   rw [vals_refs t];exact congrArg (· :: _) h
theorem KA {X:Cx}:CallR X (.builtin "isinstance") (HW X.K):=by
 intro pins s σ H xs us' Q I r h;obtain ⟨a,C,dx,tp,fs,us,b,rfl,ha,hd,E,htp,ko,q⟩:=h;cases r with
 | cons rx rr =>
   cases rr with
   | cons rt rr =>
     cases rr;cases rx;cases rt;obtain ⟨⟨oe,vs,h1,h2,h3,h4⟩,_,_⟩:=I.hok a _ ha;obtain ⟨mA,hns,_⟩:=hd.ok I.hok;obtain ⟨od,es,ep,hod,_⟩:=hns;have J:PySem.W.InstAt s.heap a oe C (some od):=by
      obtain ⟨oc,oo,oda,osl⟩:=oe;dsimp only at h2 h3 h4;subst h2 h3 h4;exact ⟨h1,rfl,rfl,hod⟩
     obtain ⟨_,its,hv,ht⟩:=I.hok tp _ htp;have hi:=vals_refs hv;subst hi;obtain ⟨⟨o1,o2,o3,o4⟩,g,g2,n,g3⟩:=ht;dsimp only at g2 g3;subst g2 g3;exact PySem.W.kia_tup (PySem.W.kitx_exc E.cl E.ga E.gt E.sb E.ca E.sp E.tk E.ob) I.kIn J g ko (fun z=>nomatch z) fun tk=>⟨.bl b,H,I.kept (t':=tk) fun _ _ z=>z,rfl,q⟩
theorem Kz (hn:ds≠[]) (hl:ds.length<=1000) (hds:∀ d∈ds,∃ D:Addr,X.mg (Str.ofString d)=some (.ref D)) (ha:AN X.K X.mg isa):∀ σ H Q,Uw X W (TR isa ds o) σ H Q ->
  tCB (HW X.K) (tCons (Nh X W o) (tCons (L2.tTup (El X W (ds.map fun d=>mD (.glo d)))) tNil)) σ H Q:=by
 intro σ H Q ⟨Z,F,ρ,μ,δ,S,q⟩;refine ⟨Z,F,ρ,μ,δ,S,(FinE.bind q).imp fun r δ1 μ1 H1 F1 ρ1 l lr S1 ⟨_,_,_,z⟩ x hx => ?_⟩;refine ⟨Z,F1,ρ1,μ1,δ1,S1,?_⟩;rw [N5];intro H2 F2 ρ2 l2 lr2 S2 vs hv;obtain ⟨us,rfl,pu⟩:=Ql hds hv;refine ⟨by rw [List.length_map,← pu.length,YM]; omega,fun a ha' => ?_⟩
 show HW X.K [x,.ref a] (upd H2 a (.tup (us.map V.ref))) Q;have S3:=S2.laid (o:=.tup (us.map V.ref)) ha';have hx2:=hx.up l2 lr2;cases es:r.self δ1 with
 | none=>simp only [es] at z; exact z.elim
 | some d0 =>
   rw [es] at z;cases d0 <;> first | (exact z.elim) | skip
   rename_i c a0 d
   dsimp only at z;cases ea:MV (ds.map fun d=>isa c d) with
   | none=>rw [ea] at z; exact z.elim
   | some b =>
     rw [ea] at z;have z2:=z.mono l2 lr2;obtain ⟨p,C,dx,y,rfl,hC,hH,hd,ry⟩:=HX S3 hx2 es;obtain ⟨d1,b1,e1,hd1⟩:∃ d0 b0,isa c d0=some b0/\d0∈ds:=by
      cases ds with
      | nil=>exact absurd rfl hn
      | cons d ds =>
        rw [List.map_cons] at ea;cases hf:isa c d with
        | none=>rw [hf] at ea; cases ea
        | some b1=>exact ⟨d,b1,hf,List.mem_cons_self ..⟩
     obtain ⟨D1,hD1⟩:=hds d1 hd1;exact ⟨p,C,dx,a,_,us,b,rfl,hH,hd,(ha c d1 b1 C D1 e1 hC hD1).1,upd_same,Qm (f:=fun d=>isa c d) (LN (fun d b D e hD=>(ha c d b C D e hC hD).2) pu) ea,z2 _ F2 ρ2 .refl .refl S3 _ (VR.fr' .bl)⟩
theorem Cs.isXT {es:List Expr} {i:Nat} (Cc:Cs X W k N sc) (h1:Th sc "isinstance" = true) (m1:X.mg "isinstance" = none) (hn:ds≠[]) (hl:ds.length<=1000) (hds:∀ d∈ds,∃ D:Addr,X.mg (Str.ofString d)=some (.ref D)) (ha:AN X.K X.mg isa) (ho:JO X W e o) (hes:JA X W es (ds.map fun d=>mD (.glo d)))
  (he:starEach [e,.Tuple es i p] X.env=(false,eval e X.env) :: starEach [.Tuple es i p] X.env:=by rfl) (he2:starEach [.Tuple es i p] X.env=(false,eval (.Tuple es i p) X.env) :: starEach [] X.env:=by rfl)
  (hpl:(backTo pos (starEach [.Tuple es i p] X.env)).any (·.1)=false:=by rfl) {p':Pos}:JE X W (.Call (.Name "isinstance" p') [e,.Tuple es i p] [] pos) (TR isa ds o) :=
 (pe_callB KA (Cc.gl h1).1 m1 rfl (pa_cons ho (pa_cons (pe_tup hes) pa_nil he2) he) (by decide) (by decide) he hpl).imp (Kz hn hl hds ha)
end
end FL
namespace FL
open PySem PySem.Spec PyProof.Rows L2 LamX
theorem Fm.FB:∀ f:Fm,ExcBaseFacts f.B f.newId f.initId f.bm
 | .look=>PySem.F.excBase_LookupError
 | .arit=>PySem.F.excBase_ArithmeticError
theorem Fm.KF:∀ f:Fm,PySem.W.KxsFacts f.B f.initId
 | .look=>PySem.W.kxs_LookupError
 | .arit=>PySem.W.kxs_ArithmeticError
theorem Kx:StoreFacts "LookupError" [.type "LookupError",.type "Exception",.type "BaseException",.type "object"] "object.__setattr__" "object" where
 mro:=by kernel_rfl
 slot:=.of (owner:="object") (n:="__setattr__") (by rw [typeLookup_type,builtinLookup_eq_fast]; kernel_rfl) (by decide +kernel) (by decide +kernel) (by decide +kernel) (by first | exact .inl (by decide +kernel) | exact .inr (by decide +kernel)) (by rw [isSubtype_type]; kernel_rfl)
 entry:=PySem.F.store_ValueError.entry
 kind:=PySem.F.store_ValueError.kind
 split:=PySem.F.store_ValueError.split
 hasOwner:=by decide +kernel
 args:=PySem.F.store_ValueError.args
 passes:=fun self=>by kernel_rfl
theorem HV:StoreFacts "ArithmeticError" [.type "ArithmeticError",.type "Exception",.type "BaseException",.type "object"] "object.__setattr__" "object" where
 mro:=by kernel_rfl
 slot:=.of (owner:="object") (n:="__setattr__") (by rw [typeLookup_type,builtinLookup_eq_fast]; kernel_rfl) (by decide +kernel) (by decide +kernel) (by decide +kernel) (by first | exact .inl (by decide +kernel) | exact .inr (by decide +kernel)) (by rw [isSubtype_type]; kernel_rfl)
 entry:=PySem.F.store_ValueError.entry
 kind:=PySem.F.store_ValueError.kind
 split:=PySem.F.store_ValueError.split
 hasOwner:=by decide +kernel
 args:=PySem.F.store_ValueError.args
 passes:=fun self=>by kernel_rfl
theorem Fm.SF:∀ f:Fm,StoreFacts f.B f.bm "object.__setattr__" "object"
 | .look=>Kx
 | .arit=>HV
structure OexG (f:Fm) (K:PySem.W.Frag) (C:Addr):Prop where
 ei:PySem.W.excInitIn K C f.bm f.newId=true
 ov:PySem.W.excOver K C f.bm=true
 hd:PySem.W.hasDictIn K C=true
 sa:PySem.W.findIn K (.ref C) "__setattr__" = some (some (.builtin "object.__setattr__"))
 exC:PySem.W.subIn K (.ref C) (.type "BaseException")=some true
 tyC:PySem.W.typeIn K (.ref C)=some (.type "type")
 kC:PySem.W.keepIn K (.ref C)=true
section
variable {fm : Fm} {X : Cx} {pins : List (Addr × Obj)} {σ : L2.St} {H : Hp} {s : Shared} {a C : Addr} {f : Str} {y : V} {u : Value}
theorem HU {Q:Unit->Shared->Prop} {E:Value->Shared->Prop} {A:Around} (T:OexG fm X.K C) (I:Inv X pins σ H s) (e:H a=some (exo a C none)) (hno:PySem.W.findIn X.K (.ref C) f=some none) (ry:RelV y u)
  (h:∀ dx s',H dx=none->dx≠a->Inv X pins σ (upd (upd H dx (exd dx [(f,y)])) a (exo a C (some dx))) s'->Q () s'):wpAny (model X.prog X.w) A (setAttr (.ref a) f u) Q E s:=by
 obtain ⟨t1,ho⟩:=exo_at I.hok e;obtain ⟨hp,g,d,t,os⟩:=s;obtain ⟨cd,hcd,hdd⟩:=PySem.W.any_some T.hd;have ht:PySem.W.takerIn X.K C f=some none:=by unfold PySem.W.takerIn; rw [hno]; rfl
 have hax:a≠hp.objs.size:=Nat.ne_of_lt (Heap.lt_size ho);refine PySem.W.set_plain I.kIn (ox:={ cls:=.ref C,dict:=none,data:=.fields #[.ref t1,.none,.none,.none,.bool false,.none] }) (od:=none) ⟨ho,rfl,rfl,trivial⟩ T.sa ?_;refine PySem.W.osa_openX (od:=none) fm.SF I.kIn ⟨ho,rfl,rfl,trivial⟩ T.ov ht fun b => ?_;refine wpAny_bind (wpAny_pure (wpAny_bind (PySem.W.instanceDict_exc (t:=t1) (c2:=.none) ho (PySem.W.looks_clsIn I.kIn hcd) hdd ?_)))
 show wpAny _ _ (PySem.Builtin.ObjectAttr.storeInDict hp.objs.size _ f u) _ _ _;have hpush:(hp.push (PySem.W.dictOf [] 0)).get? a=some { cls:=.ref C,dict:=none,data:=.fields #[.ref t1,.none,.none,.none,.bool false,.none] }:=Heap.get?_push_of_some _ ho;refine PySem.HandSPX.store_in_new ?_ fun h' tk' hn hs => ?_
 ·exact ⟨_,#[],_,(Heap.get?_update_ne _ _ _ _ hax.symm).trans (Heap.get?_push_at rfl rfl),rfl,fun e he=>absurd he (by simp),fun _=>rfl⟩
 ·have hx:h'.get? a=some { cls:=.ref C,dict:=some hp.objs.size,data:=.fields #[.ref t1,.none,.none,.none,.bool false,.none] }:=(hs.2 a hax).trans (Heap.get?_update_self _ hpush rfl)
  have k:∀ b o,b≠a->hp.get? b=some o->h'.get? b=some o:=fun b o hb q=>(hs.2 b (Nat.ne_of_lt (Heap.lt_size q))).trans ((Heap.get?_update_ne _ _ _ _ hb).trans (Heap.get?_push_of_some _ q));have hnd:H hp.objs.size=none:=I.hok.fresh (Nat.le_refl _);have nd:∀ {b:Addr} {o:Obj},hp.get? b=some o->b≠hp.objs.size:=fun q=>Nat.ne_of_lt (Heap.lt_size q);have na:∀ {b:Addr},H b=none->b≠a:=fun n z=>by
   rw [z,e] at n;cases n
  refine h hp.objs.size _ hnd hax.symm (I.un (t':=tk') ⟨fun b o q n _ _=>k b o (na n) q,fun b o q n _ _=>⟨o.slots,k b o (na n) q⟩,fun b o q n _=>by rw [upd_ne (na n),upd_ne (nd q)]; exact n,fun b o q _ => ?_,fun b xs q => ?_,fun b o v q => ?_,fun b ps q => ?_⟩ fun b o q => ?_)
  ·by_cases hb:b=a
   ·exact ⟨_,by rw [hb]; exact hx⟩
   ·exact ⟨o,k b o hb q⟩
  ·rw [upd_ne (at_ne e q exo_tup),upd_ne (ne_of_none q hnd)]; exact q
  ·rw [upd_ne (at_ne e q exo_frz),upd_ne (ne_of_none q hnd)]; exact q
  ·exact ⟨#[],by rw [upd_ne (at_ne e q exo_tbl),upd_ne (ne_of_none q hnd),q]; simp⟩
  ·by_cases hb:b=a
   ·subst hb
    rw [upd_same] at q;cases q;exact exo_ok hx
   ·rw [upd_ne hb] at q
    by_cases hd:b=hp.objs.size
    ·subst hd
     rw [upd_same] at q;cases q;exact exd_ok hn (relO_put (fs:=[]) ry fun g=>True.intro)
    ·rw [upd_ne hd] at q
     refine (I.hok b o q).stay (fun c v hc z=>k c v ?_ z) (fun c hc => ?_) fun c xs hc => ?_
     ·rcases hc with hc | hc
      ·rw [hc]; exact hb
      ·exact at_ne e hc exo_own
     ·rw [upd_ne (at_ne e hc exo_own),upd_ne (ne_of_none hc hnd)]; exact hc
     ·rw [upd_ne (at_ne e hc exo_tup),upd_ne (ne_of_none hc hnd)]; exact hc
def Aa (fm:Fm) (K:PySem.W.Frag) (f:Str) (to te:TE):TS:=fun D σ H=>te σ H fun y H1=>to σ H1 fun x H2 => ∃ a C:Addr,x = .ref a/\OexG fm K C/\PySem.W.findIn K (.ref C) f=some none/\H2 a=some (exo a C none)/\∀ dx,H2 dx=none->dx≠a->D.nx σ (upd (upd H2 dx (exd dx [(f,y)])) a (exo a C (some dx)))
theorem E6 {o e:Expr} {to te:TE} {p' pos:Pos} (ho:PE X o to) (he:PE X e te) (hs:swapsWith e (some (.Attribute o f p')) pos.line X.env=pure false:=by rfl):PS X (.Assign [.Attribute o f p'] e pos) (Aa fm X.K f to te):=by
 refine ⟨fun pins s σ H D I h => ?_⟩;refine plainObj_wpAny_Assign_Attribute (thn (he.run pins s σ H _ I h) fun v s1 ⟨y,H1,I1,r1,q1⟩=>thn (ho.run pins s1 σ H1 _ I1 q1) fun u s2 ⟨x,H2,I2,r2,a,C,ex,T,hno,ea,q⟩ => ?_) hs;subst ex;obtain rfl:u=Value.ref a:=r2;exact HU T I2 ea hno r1 fun dx s' n ne J=>⟨σ,_,J,q dx n ne⟩
end
theorem Kw {f:Fm} {X:Cx} {pins:List (Addr×Obj)} {σ:L2.St} {H:Hp} {s:Shared} {A:Around} {E:Value->Shared->Prop} {a C u:Addr} {us:List Value} {Q:Value->Shared->Prop} (T:OexG f X.K C) (I:Inv X pins σ H s) (e:H a=some (exo a C none))
  (hu:s.heap.get? u=some (PySem.W.kxs_mw f.initId a)) (hl:us.length<=sizeLine) (h:∀ s',Inv X pins σ H s'->Q .none s'):wpAny (model X.prog X.w) A (call (.ref u) us) Q E s:=by
 obtain ⟨nm,N,q,bs,bm,hdct,sn,sub,ab,col,dd,k0,k1,k2,k3,k5,hC,hT⟩:=PySem.W.excInit_of I.kIn T.ei;obtain ⟨t1,ho⟩:=exo_at I.hok e;obtain ⟨hp,g,d,t,os⟩:=s;refine wpAny_call (codeAny_of_tree ?_)
 show wpAny _ A.in1 (callAny (.ref u) ⟨us,[]⟩) _ _ _;simp only [callAny];refine wpAny_bind (wpAny_load hu ?_);simp only [PySem.W.kxs_mw,show (Value.type "method-wrapper" == Value.type "method" || Value.type "method-wrapper" == Value.type "builtin_function_or_method" || Value.type "method-wrapper" == Value.type "method-wrapper")=true by decide,if_true];refine PySem.W.KFB.if_so (by cases f <;> decide) ?_;refine wpAny_bind (PySem.W.check_bound_init f.FB.toExcCallFacts hC ho rfl ?_);refine wpAny_bind (wpAny_pure (wpAny_pure ?_));refine ⟨plainId_quiet f.FB.init.plain _,codeAny_builtin f.FB.initEntry ?_⟩;refine PySem.W.exc_init_tree (cls:=.ref C) (t0:=t1) (dv:=none) (c2:=.none) (c3:=.none) (b4:=.bool false) ho hl fun h' k hx _ => ?_;have J:=I.write (t':=t) (x:=a) (e:=a) (o:=exo a C none) (by rw [e]; exact True.intro) (.inl rfl) k ⟨_,hx⟩ (exo_ok hx);have eu:upd H a (exo a C none)=H:=by
  funext b;by_cases hb:b=a
  ·rw [hb,upd_same,e]
  ·rw [upd_ne hb]
 rw [eu] at J;exact h _ J
def HS (f:Fm) (K:PySem.W.Frag) (D:Addr) (at_:Str):Sp:=fun vs H Q E => ∃ (a C:Addr) (r:V),vs=[.ref a,r]/\OexG f K C/\PySem.W.mroIn K C (.ref D)=some true/\PySem.W.ks_superIn K C D "__init__" = some (some (.builtin f.initId)) /\
 PySem.W.subIn K (.ref C) (.type f.B)=some true/\PySem.W.findIn K (.ref C) at_=some none/\H a=some (exo a C none)/\∀ dx,H dx=none->dx≠a->Q .non (upd (upd H dx (exd dx [(at_,r)])) a (exo a C (some dx)))
theorem E5 {f:Fm} {P:Program} {w:World} {K:PySem.W.Frag} {mg:Str->Option Value} {base:Heap} {fI D cc cda:Addr} {qual p0 p1 at_:Str} {params:Arguments} {q:Nat->Pos} {scope:Scope} {fd:FuncData} (S:SupF K P fI D cc cda qual p0 p1 at_ params q scope fd) (hsup:mg "super" = none) :
  FnOk P w K mg base (L2.CX P w) 2 fI fd [p0,p1] (HS f K D at_):=by
 refine ⟨fun vs H Q E ⟨_,_,_,e,_⟩=>by rw [e]; rfl,fun A outer s H args us vs Q E hr e0 hb r h => ?_⟩;obtain ⟨a,C,r1,rfl,T,hsub,hm,hB,hno,ha,hq⟩:=h;obtain ⟨oc,od,dV,kV,doc,pm,an,ct,osl,rfl,lk⟩:=S.lk;obtain ⟨ccl,cdd,cvs,ccs,file,tf,hcode,hvs,hfile⟩:=S.code;obtain ⟨cl,cld,csl,hcell⟩:=S.cell;obtain ⟨cdD,hD⟩:=S.clsD;obtain ⟨pl,ev⟩:=S.ev;obtain ⟨ar,har,har2⟩:=S.self;obtain ⟨u0,u1,rfl,ra,rr⟩:=vals2 r;cases ra;have KX:K.In s.heap:=e0.mod.kin.keeps fun b o e=>(e0.bs b o e).1;have lim:s.heap.NoLimit:=e0.mod.nolimit.keeps fun b o e=>(e0.bs b o e).1;have binds:[p0,p1].zip [Value.ref a,u1]=[(p0,Value.ref a),(p1,u1)]:=rfl;rw [binds] at hb;refine PySem.ks_codeAny_call_defAt hr.depth (KX _ _ lk) rfl lim (PySem.W.codeRec_of KX S.cd) rfl hb (fun y hy=>(S.names y hy).1) (fun y hy => ?_) (fun h₁ hns kp => ?_) S.co S.gen S.kind
 ·simp only [List.mem_cons,List.not_mem_nil,or_false] at hy
  rcases hy with rfl | rfl
  ·exact S.l0
  ·exact S.l1
 have I:Inv (OE P w K mg base [p0,p1] qual scope fI (.ref cda) cc A outer s H E) [] [some (.ref a),some r1] H { s with heap:=h₁,toks:=s.toks+([(p0,Value.ref a),(p1,u1)]:List (Str×Value)).length } :=
  Qv S.kind S.names S.ne S.l0 S.l1 hr.hd e0 hcell rfl rr hns kp
 have gv0:=hns;obtain ⟨mb,hmb,hbb⟩:=e0.mod.blt;have KX1:K.In h₁:=I.kIn;have ga:(fun y=>([(p0,Value.ref a),(p1,u1)]:List (Str×Value)).reverse.lookup y) p0=some (.ref a):=by
  show ([(p1,u1),(p0,Value.ref a)]:List (Str×Value)).lookup p0=some (.ref a);rw [List.lookup_cons,show (p0 == p1)=false by simpa using S.ne];simp
 show _root_.PySem.wpAt (model P w) (A.deeper (WN qual scope s.heap.objs.size fI (.ref cda) cc)) (.func (K' p0 p1 at_ q) (WN qual scope s.heap.objs.size fI (.ref cda) cc)) (execs (K' p0 p1 at_ q) (WN qual scope s.heap.objs.size fI (.ref cda) cc)) _ _ _;refine ks_wpAt_execs_cons (ks_wpAt_Expr_any (ks_wpAt_MethodCall (pl:=pl) ?_ (ev _)) (by unfold interactive; simp [S.kind]) (S.sw1 _));refine ks_wpAt_super_base S.ls S.lc (by decide) rfl (KX1 _ _ lk) rfl har rfl (KX1 _ _ hcode) rfl hvs hfile S.top ?_;have oD:∃ o:Obj,K.lookup D=some o/\o.data = .cls cdD:=by
  unfold PySem.W.clsIn at hD
  split at hD
  ·rename_i ho
   cases hD;exact ⟨_,ho,rfl⟩
  ·cases hD
 obtain ⟨oD,hoD,hdD⟩:=oD;have lcell:h₁.IsCell cc (some (.ref D)):=⟨_,KX1 _ _ hcell,rfl⟩;have hcl:([(("__class__" : Str),cc)]:List (Str×Addr)).lookup ("__class__" : Str)=some cc:=by simp
 obtain ⟨t1,hox⟩:=exo_at I.hok ha;refine PySem.W.ks_loadName_global S.kind S.ls (PySem.Calls.loadGlobal_builtin (mg:=mg) (by exact e0.mod.glob.keeps I.bk) hsup (by exact hmb.keeps I.bk) ((hbb "super" (by decide)).trans PyProof.Rows.Boot.«super») ⟨rfl,?_⟩);refine wpAny_loadName_free S.kind S.lc hcl lcell ?_;refine wpAny_loadName_local (m:=fun y=>([(p0,Value.ref a),(p1,u1)]:List (Str×Value)).reverse.lookup y) S.kind (by rw [har2]; exact S.l0) hns (by rw [har2]; exact ga) ?_;refine PySem.ks_wpAny_isType_cls (KX1 _ _ hoD) hdD ⟨rfl,?_⟩;refine PySem.ks_wpAny_call_super (KX1 _ _ hoD) hdD hox rfl (fun c z=>by cases z) (PySem.W.looks_mroIn KX1 hsub) fun h2 hso k2 => ?_;have KX2:K.In h2:=KX1.keeps k2;have I2:=I.kept (t':=s.toks+([(p0,Value.ref a),(p1,u1)]:List (Str×Value)).length) k2;obtain ⟨nm,NN,qq,bs,bm,hdct,sn,sub,ab,col,dd,x0,x1,x2,x3,x5,hC,hT⟩:=PySem.W.excInit_of KX2 T.ei;have hcd:∃ cd,PySem.W.clsIn K C=some cd:=let ⟨cd,hc,_⟩:=PySem.W.any_some T.hd; ⟨cd,hc⟩;obtain ⟨cdC,hcC⟩:=hcd;have hal:PySem.W.alongIn K "__init__" ((cdC.mro.dropWhile (· != .ref D)).drop 1)=some (some (.builtin f.initId)):=by
  unfold PySem.W.ks_superIn at hm;rw [hcC] at hm;exact hm
 have hox2:=k2 _ _ hox;have hne:a≠C:=fun z=>by
  have y:=hC;rw [← z,hox2] at y;have y2:=congrArg Obj.data (Option.some.inj y);cases y2
 refine PySem.W.kxs_getMethod f.KF hso (PySem.W.looks_opaque KX2 S.any) (l₀:=cdC.mro) (fun A Q E s k q=>wpAny_bind ((PySem.W.looks_clsIn KX2 hcC) A _ E s k (wpAny_pure q))) rfl KX2 hal ?_ hne (by decide) ?_
 ·exact (PySem.W.InstAt.type (od:=none) ⟨hox2,rfl,rfl,trivial⟩).andThen (PySem.W.looks_subIn KX2 hB)
 have k3:∀ b o,h2.get? b=some o->(h2.push (PySem.W.kxs_mw f.initId a)).get? b=some o:=fun b o e=>Heap.get?_push_of_some _ e;have I3:=I2.kept (t':=s.toks+([(p0,Value.ref a),(p1,u1)]:List (Str×Value)).length+1) k3;have hmw:=Heap.get?_push_size h2 (o:=PySem.W.kxs_mw f.initId a) rfl;refine PySem.W.kxs_callWith (i:=f.initId) (x:=a) rfl ?_;refine PySem.Calls.evalArgs_plain (PySem.Calls.spliced_cons ?_);have hns3:=hns.at fun o y=>k3 _ _ (k2 _ _ y);refine wpAny_Name (wpAny_loadName_local (v:=u1) S.kind S.l1 hns3 (by simp) ?_) S.d1.1;refine PySem.Calls.spliced_nil ⟨hmw,?_⟩;refine Kw (H:=H) (X:=OE P w K mg base [p0,p1] qual scope fI (.ref cda) cc A outer s H E) T I3 ha hmw (by rw [sizeLine_eq]; simp) fun s4 I4 => ?_;refine wpAt_of_wpAny ?_;have go:=(pss_one (E6 (fm:=f) (f:=at_) (p':=q 7) (pos:=q 9) (pe_var (X:=OE P w K mg base [p0,p1] qual scope fI (.ref cda) cc A outer s H E) (i:=0) (pos:=q 6) rfl (.inl S.l0) S.d0.1 S.d0.2) (pe_var (i:=1) (pos:=q 8) rfl (.inl S.l1) S.d1.1 S.d1.2) (S.sw2 _))).run [] s4 [some (.ref a),some r1] H { nx:=fun σ' H' => Q .non H',rt:=fun _ _=>False } I4 ?_
 ·refine wpAny_mono go (fun fl s' hs => ?_) fun e s' hs=>hs
  cases fl with
  | next =>
    obtain ⟨σ',H',J,qz⟩:=hs;exact ⟨.non,H',J.os,J.bare,J.base,J.hok,rfl,qz⟩
  | ret u =>
    obtain ⟨v,σ',H',J,rv,qz⟩:=hs;exact False.elim qz
  | brk =>
    obtain ⟨_,_,_,qz⟩:=hs;exact False.elim qz
  | cont =>
    obtain ⟨_,_,_,qz⟩:=hs;exact False.elim qz
 ·exact ⟨r1,rfl,.ref a,rfl,a,C,rfl,T,hno,ha,hq⟩
section
variable {X : Cx} {e : Expr} {es : List Expr} {ta : TA} {p pos : Pos}
theorem HR {f:Fm} {CX:CXT} {x:Str} {C fI:Addr} {k:Nat} {fd:FuncData} {ps:List Str} {sp:Sp} {ds:List Value} {dvs:List V} (T:OexG f X.K C) (iC:PySem.W.findIn X.K (.ref C) "__init__" = some (some (.ref fI))) (tI:PySem.W.typeIn X.K (.ref fI)=some (.type "function"))
  (F1:FnOk X.prog X.w X.K X.mg X.base CX k fI fd ps sp) (hr:Room (k+1) X.A) (hb:Binds X.K fd ps ds) (hd:Vals dvs ds) (hx:Passes CX X (fun _ _ _=>False)) (hg:Gl X x) (hm:X.mg x=some (.ref C)) (ha:PA X (e :: es) ta)
  (hdb:(x == ("__debug__" : Str))=false:=by decide) (he:starEach (e :: es) X.env=(false,eval e X.env) :: starEach es X.env:=by rfl) (hpl:(backTo pos (starEach es X.env)).any (·.1)=false:=by rfl) :
  PMk X (.Call (.Name x p) (e :: es) [] pos) (tMkO C sp dvs ta):=by
 intro pins s σ H Q I h;refine wpAny_Call_Name_kw (ld_glob I hg hm ?_ hdb);refine PySem.W.callWith_K (h₀:=X.base) I.ok.mod.kin T.kC (thn (ha.run pos pins s σ H _ I h) fun us s1 ⟨vs,H1,I1,r1,hz,q1⟩=>⟨I1.kIn,?_⟩) he hpl
 show wpAny _ _ (call (.ref C) us) _ _ _;obtain ⟨hp,g,dr,tk,os⟩:=s1;obtain ⟨nm,N,q,bs,bm,hdct,sn,sub,ab,col,dd,k0,k1,k2,k3,k5,hC,hT⟩:=PySem.W.excInit_of I1.kIn T.ei
 -- the new object lies behind its tuple of arguments
 let b:=hp.objs.size+1
 have hsz:hp.objs.size<=b:=Nat.le_succ _;have hq:=q1 b (I1.hok.fresh hsz)
 let G:=(hp.push (PySem.W.kdv_tup us)).push (PySem.HandSPX.excO C hp.objs.size)
 have kk:∀ c o,hp.get? c=some o->G.get? c=some o:=fun c o z=>Heap.get?_push_of_some _ (Heap.get?_push_of_some _ z);have hget:G.get? b=some (PySem.HandSPX.excO C hp.objs.size):=by
  show ((hp.push (PySem.W.kdv_tup us)).push (PySem.HandSPX.excO C hp.objs.size)).get? (hp.objs.size+1)=_
  heap_get
 have I2:Inv X pins σ (upd H1 b (exo b C none)) ⟨G,g,dr,tk,os⟩:=I1.laid (t':=tk) (a:=b) (o:=exo b C none) (h':=G) kk hsz (exo_ok hget);have r2:Vals (V.ref b :: (vs++dvs)) (Value.ref b :: (us++ds)):=.cons rfl (r1.append hd);have hl:(Value.ref b :: us++ds).length=ps.length:=by
  have z:=r2.length;rw [F1.len _ _ _ _ hq] at z;exact z.symm
 have hus:us.length<=sizeLine:=by
  rw [← Paired.length r1,sizeLine_eq];omega
 refine wpAny_call (PySem.HandSPX.call_own f.FB hT hC (PySem.W.looks_findIn I1.kIn iC) (fun self=>PySem.W.bind_fn I1.kIn self tI) hus
  (codeAny_mono (F1.run _ X.stack _ _ ⟨Value.ref b :: us,[]⟩ (Value.ref b :: (us++ds)) _ _ (fun _ _ _=>False) (hr.make C us []) (I2.env0.make C us []) (hb _ (Value.ref b :: us) I2.kIn hl) r2 hq) fun r s' hq' => ?_))
 cases r with
 | error er=>exact hx pins σ _ _ er s' I2 hq'
 | ok fl =>
   cases fl with
   | ret u =>
     obtain ⟨v,H2,os2,bare2,un2,hok2,rv,ev,d,fs,ea,ed,hd1,q2⟩:=hq';subst ev;obtain ⟨h2,g2,d2,t2,os'⟩:=s';exact ⟨rv,mk_end (raises_own T.exC T.tyC) I1 hsz kk un2 hok2 os2 bare2 ea ed hd1 q2⟩
   | next=>exact False.elim hq'
   | brk=>exact False.elim hq'
   | cont=>exact False.elim hq'
end
structure XcG (f:Fm) (P:Program) (w:World) (K:PySem.W.Frag) (mg:Str->Option Value) (base:Heap) (c at_:String):Prop where
 ex:∃ (C fI:Addr) (fd:FuncData) (ps:List Str),mg (Str.ofString c)=some (.ref C)/\OexG f K C/\PySem.W.findIn K (.ref C) "__init__" = some (some (.ref fI))/\PySem.W.typeIn K (.ref fI)=some (.type "function") /\
  FnOk P w K mg base (L2.CX P w) 2 fI fd ps (HS f K C (Str.ofString at_))/\Binds K fd ps []/\PySem.W.mroIn K C (.ref C)=some true/\PySem.W.ks_superIn K C C "__init__" = some (some (.builtin f.initId)) /\
  PySem.W.subIn K (.ref C) (.type f.B)=some true/\PySem.W.findIn K (.ref C) (Str.ofString at_)=some none
theorem UX {X:Cx} {W:WX} {k:Nat} {N:List Str} {sc:Scope} {f:Fm} {c at_:String} {e:Expr} {m:ME} {p pos pos':Pos} (C:Cs X W k N sc) (V:XcG f X.prog X.w X.K X.mg X.base c at_) (hk:3<=k) (hg:Th sc (Str.ofString c)=true) (he:JE X W e m)
  (hs:starEach [e] X.env=(false,eval e X.env) :: starEach [] X.env:=by rfl):JS X W (.Raise (some (.Call (.Name (Str.ofString c) p) [e] [] pos)) none pos') (Y9 c at_ m):=by
 obtain ⟨A,fI,fd,ps,h1,T,h3,h4,F,hb,h6,h7,h8,h9⟩:=V.ex;obtain ⟨g1,g2,g3⟩:=C.gl hg;have mk:=HR (pos:=pos) (p:=p) T h3 h4 F ((C.rm.mono hk).r) hb (.nil) (passes_call C.tk (fun _ _ _ _ z=>z.elim)) g1 h1 (Z7 he YY hs) g2 hs;refine (ps_raise C.calm C.tk mk).imp fun D σ H ⟨Z,F,ρ,μ,δ,S,q⟩ => ?_;refine ⟨Z,F,ρ,μ,δ,S,?_⟩;unfold Y9 at q
 show FinE X W Z F ρ σ _ ((m δ μ).bind fun s δ1 μ1=>(XF [] δ1 μ1).bind fun ds δ2 μ2=>.ok (s.d :: ds) δ2 μ2);cases em:m δ μ with
 | bad=>rw [em] at q; exact q
 | exc x δ1 μ1=>rw [em] at q; exact fun c d H' F' ρ' l lr S e=>q c d σ H' F' ρ' l lr S e
 | ok s δ1 μ1 =>
   rw [em] at q;intro H1 F1 ρ1 l1 lr1 S1 vs hv;cases hv with
   | @cons r _ _ _ hv hn =>
     cases hn;refine ⟨by simp,fun a ha => ?_⟩;refine ⟨a,A,_,rfl,T,h6,h7,h8,h9,upd_same,fun dx hdx hne => ?_⟩;have hdx1:H1 dx=none:=by
      rw [upd_ne hne] at hdx;exact hdx
     refine ⟨rfl,dx,[(Str.ofString at_,r)],upd_same,by rw [upd_ne hne,upd_same],hdx1,?_⟩;have eH:upd (del (upd (upd (upd H1 a (exo a A none)) dx (exd dx [(Str.ofString at_,r)])) a (exo a A (some dx))) a) dx (.xd [(Str.ofString at_,r)])=upd H1 dx (.xd [(Str.ofString at_,r)]):=by
      funext b;by_cases hb:b=dx
      ·rw [hb,upd_same,upd_same]
      ·rw [upd_ne hb,upd_ne hb]
       by_cases hb2:b=a
       ·rw [hb2,del_same,ha]
       ·rw [del_ne hb2,upd_ne hb2,upd_ne hb,upd_ne hb2]
     rw [eH];have S2:=S1.laid (o:=.xd [(Str.ofString at_,r)]) hdx1;have N1:=S1.notIn hdx1;obtain ⟨l3,S3⟩:=S2.freeze upd_same ⟨N1.1,N1.2.1,N1.2.2.1⟩ N1.2.2.2;exact q _ _ σ _ _ _ (l1.trans l3) lr1 S3 ⟨A,dx,_,rfl,rfl,h1,.inl upd_same,hv.up l3.to fun _ _ h=>h⟩
end FL
namespace FL
open PySem PySem.Spec PyProof.Rows L2 LamX
theorem B9 {f:Fm} {P:Program} {w:World} {K:PySem.W.Frag} {h:Heap} {mg:Str->Option Value} {base:Heap} {c at_:String} {st:Stmt} {p0 p1:Str} {q:Nat->Pos} {sc:Scope} {qual:Str} {kV:Value} {fd:FuncData} (S:SupS P st p0 p1 (Str.ofString at_) q sc) (hm:mg (Str.ofString c)=some (.ref (He.ga K (Str.ofString c)))) (hsup:mg "super" = none)
  (T:OP f (Str.ofString c) (Str.ofString at_) K=true) (F:FdK K "__init__" qual st (ZM K (Str.ofString c,some "__init__")) kV (Y_ K (Str.ofString c,some "__init__")) (UO K (Str.ofString c,some "__init__")) fd) (C:CellOk K (Y_ K (Str.ofString c,some "__init__")) (UO K (Str.ofString c,some "__init__")) (He.ga K (Str.ofString c)) P.main.file)
  (hb:∀ (kV doc pm:Value) (an:Option Addr) (cdv ct:Value) (cc:Addr) (us:List Value),us.length=[p0,p1].length->bindArgs (PySem.W.ksFn "__init__" qual (defArgs st) (defBody st) (defScope st) .none kV doc pm an cdv ct cc) ⟨us,[]⟩=pure ([p0,p1].zip us)):XcG f P w K mg base c at_:=by
 unfold OP at T;simp only [Bool.and_eq_true,decide_eq_true_eq] at T;obtain ⟨t0,t1,t2,t3,t4,t5,t6,t7,t8,t9,t10,t11,t12⟩:=T;obtain ⟨ccl,cdd,vs,ccs,fl,tf,lcd,hvs,hfile⟩:=C.code;obtain ⟨cl,cld,csl,lcc⟩:=C.cell;obtain ⟨oc,od,doc,pm,an,ct,osl,rfl,lI⟩:=F.ex;obtain ⟨cdx,hcx,_⟩:=PySem.W.any_some t2;obtain ⟨pl,ev⟩:=S.ev qual (ZM K (Str.ofString c,some "__init__")) (.ref (Y_ K (Str.ofString c,some "__init__"))) (UO K (Str.ofString c,some "__init__"));have e1:=S.scope;have e2:=S.body;have F2:SupF K P (ZM K (Str.ofString c,some "__init__")) (He.ga K (Str.ofString c)) (UO K (Str.ofString c,some "__init__")) (Y_ K (Str.ofString c,some "__init__")) qual p0 p1 (Str.ofString at_) (defArgs st) q sc (PySem.W.ksFn "__init__" qual (defArgs st) (defBody st) (defScope st) .none kV doc pm an (.ref (Y_ K (Str.ofString c,some "__init__"))) ct (UO K (Str.ofString c,some "__init__"))) :=
  ⟨⟨oc,od,.none,kV,doc,pm,an,ct,osl,by rw [e1,e2],lI⟩,F.cd,⟨_,_,_,_,_,_,lcd,hvs,hfile⟩,⟨_,_,_,lcc⟩,⟨_,hcx⟩,C.any,S.top,⟨pl,ev⟩,S.sw1 _ _ _ _,S.sw2 _ _ _ _,S.self,S.kind,S.co,S.gen,S.names,S.ne,S.l0,S.l1,S.ls,S.lc,S.d0,S.d1⟩
 exact ⟨_,_,_,_,hm,⟨t0,t1,t2,t3,t4,t5,t6⟩,t7,t8,E5 F2 hsup,.all (hb _ _ _ _ _ _ _),t9,t10,t11,t12⟩
theorem Pl {K:PySem.W.Frag} {h:Heap} {mg:Str->Option Value} (X:K.In h) (G:h.Ns mainGlobals mg) {cs:List String} {f:String} (t:Ln cs (Str.ofString f) K=true):BE K mg cs f:=by
 intro c hc C hC;unfold Ln at t;have t:=List.all_eq_true.mp t c hc;simp only [Bool.and_eq_true,decide_eq_true_eq] at t;obtain ⟨t0,t1,t2,t3,t4,t5⟩:=t;have g:=He.glo_ok X G t0;rw [hC] at g;cases g;exact ⟨⟨t1,t2,t3,t4⟩,t5⟩
theorem HQ {K:PySem.W.Frag} {h:Heap} {mg:Str->Option Value} (X:K.In h) (G:h.Ns mainGlobals mg) {es:List String}:∀ (t:List (String×Bool)),Nj es t K=true->HY K mg (es.map fun x=>.ref (He.ga K (Str.ofString x))) (Oo t):=by
 intro t
 induction t with
 | nil=>intro _ c C b n; cases n
 | cons e t ih =>
   intro ht c C b n hC;unfold Nj at ht;rw [List.all_cons] at ht;obtain ⟨h1,h2⟩:=Bool.and_eq_true_iff.mp ht;obtain ⟨c',b'⟩:=e;by_cases hc:c=c'
   ·subst hc
    have e1:Oo ((c,b') :: t) c=some b':=by simp [Oo]
    rw [e1] at n;cases n;obtain ⟨g2,g3⟩:=Bool.and_eq_true_iff.mp h1;have g2:=He.glo_ok X G g2;rw [hC] at g2;cases g2;exact of_decide_eq_true g3
   ·have e1:Oo ((c',b') :: t) c=Oo t c:=by simp [Oo,hc]
    rw [e1] at n;exact ih h2 c C b n hC
end FL
namespace FL
open PySem PySem.Spec PyProof.Rows L2
def DU (K:PySem.W.Frag):V->List V->Hp->VK->Prop:=fun x vs H Q => ∃ l b xs zs,x = .ref l/\vs=[.ref b]/\H l=some (.lst xs)/\H b=some (.lst zs)/\xs.length+zs.length<=sizeLine/\Q .non (upd H l (.lst (xs++zs)))
section
variable {X : Cx} {W : WX}
theorem E4:MtR X "list.extend" (DU X.K):=by
 intro pins s σ H x vs v us Q I rx rv h;obtain ⟨l,b,xs,zs,rfl,rfl,hH,hB,hz,q⟩:=h;cases (show v=Value.ref l from rx);obtain ⟨u,rfl,ru⟩:=rv.one;cases (show u=Value.ref b from ru);obtain ⟨z,its,n,r,hl,e⟩:=I.lstM hH;obtain ⟨z2,its2,n2,r2,hl2',e2⟩:=I.lstM hB;have hl2:=r2.length;have hs:its.toArray.size+its2.toArray.size<=sizeLine:=by simp only [List.size_toArray]; omega
 refine wpAny_call_entry PySem.F.slot_list_extend (T:="list") ⟨_,e,rfl⟩ PySem.F.entry_list_extend ?_ (PySem.F.args_list_extend_2 _ _)
 show wpAny _ X.A.in1 (Builtin.List.listExtendWith (.ref l) (.ref b) .none) _ _ s;unfold Builtin.List.listExtendWith Builtin.List.listItems;refine wpAny_bind (wpAny_typeOf (T:="list") ⟨_,e2,rfl⟩ ?_);have ht:(Builtin.List.listSameRef (.ref l) (.ref b)||Value.type "list" == Value.type "list" || Value.type "list" == Value.type "tuple")=true:=by simp
 rw [if_pos ht];refine wpAny_bind (wpAny_bind (wpAny_seqItems e2 rfl (wpAny_pure ?_)));refine wpAny_bind (wpAny_bind (wpAny_seqItems e rfl (wpAny_pure ?_)));have hn : ¬ (!its.toArray.isEmpty&&Builtin.List.listTooLong (its.toArray.size+its2.toArray.size))=true:=by
  rw [notLongL hs,Bool.and_false];exact Bool.false_ne_true
 rw [if_neg hn]
 show wpAny _ X.A.in1 (updateSeq l (· ++ its2.toArray) >>= fun _=>ret .none) _ _ s;have q1:its.toArray.size<=sizeLine:=by omega
 have q2:(its.toArray++its2.toArray).size<=sizeLine+1:=by rw [Array.size_append]; omega
 refine wpAny_bind (wpAny_updateSeq (hz:=q1) (_hz':=q2) e rfl ?_);refine wpAny_pure ⟨_,rfl,.non,_,I.lset (t':=s.toks) (its':=its++its2) hH e (by simp) (r.append r2) ?_,rfl,q⟩;rw [List.length_append];omega
def Rn:Own->List D->Option (D×Own)
 | .lst xs,[.lst ys]=>if xs.length+ys.length<=16777216 then some (.non,.lst (xs++ys)) else none
 | _,_=>none
theorem B7:GA X (DU X.K) Rn:=by
 intro Z F ρ μ δ σ H p c xs ds d c' Q S ow rx e q;unfold Rn at e
 split at e
 ·rename_i a b
  by_cases hz:a.length+b.length<=16777216
  ·rw [if_pos hz] at e
   cases e;obtain ⟨v,rfl,hv⟩:=rx.single;obtain ⟨vs,hH,r⟩:=ow;obtain ⟨t,zs,rfl,ht,rt⟩:=(Bor.fr hv).lst S;exact ⟨p,t,vs,zs,rfl,rfl,hH,ht,by rw [r.len,rt.len,YM]; exact hz,q _ _ .non ⟨_,upd_same,r.app rt⟩⟩
  ·rw [if_neg hz] at e; cases e
 ·cases e
theorem z_ {e o:Expr} {oo:Opn} {ms:List ME} {apos pos:Pos} (ho:JO X W o oo) (ha:JA X W [e] ms) (hbase:attributeBase o "extend" X.env (eval o X.env)=eval o X.env:=by rfl)
  (hline:(apos.endLine == pos.line)=true:=by rfl) (hs:starEach [e] X.env=(false,eval e X.env) :: starEach [] X.env:=by rfl)
  (hfew:((backTo pos (starEach [e] X.env)).all (fun x => !x.1)&&(backToKw pos (keywordEach [] X.env)).all (fun x=>x.1.isSome)
   && decide ([e].length+([]:List Keyword).length+(if ([]:List Keyword).isEmpty then 0 else 1) < 30))=true:=by rfl):JE X W (.Call (.Attribute o "extend" apos) [e] [] pos) (VS "list" Rn oo ms) :=
 JB PySem.F.plainAttrs_list PySem.F.slot_list_extend PySem.F.type_list_extend E4 B7 ho ha hbase hfew hline hs
def LF (r r' r2:R2) (ta tb tc td:TE):TE:=fun σ H Q=>ta σ H fun x H1=>tb σ H1 fun y H2=>r x y H2 fun z H3 => ∃ k,z = .bl k /\
 (if k=true then tc σ H3 fun w' H4=>r' y w' H4 fun z2 H5 => ∃ k2,z2 = .bl k2/\(if k2=true then td σ H5 fun t H6=>r2 w' t H6 Q else Q (.bl false) H5) else Q (.bl false) H3)
variable {a b c d : Expr} {pos : Pos} {ta tb tc td : TE}
theorem Kv {op op' op2:CmpOp} {r r' r2:R2} (ho:OpR X (compareOp op) r) (ho':OpR X (compareOp op') r') (ho2:OpR X (compareOp op2) r2) (ha:PE X a ta) (hb:PE X b tb) (hc:PE X c tc) (hd:PE X d td)
  (hm:lastMarks [op,op',op2] [b,c,d]=false:=by with_unfolding_all rfl):PT X (.Compare a [op,op',op2] [b,c,d] pos) (tTest (LF r r' r2 ta tb tc td)):=by
 refine ⟨fun pins s σ H Q I h => ?_⟩;refine isTrue_chain (thn (ha.run pins s σ H _ I h) fun v s1 ⟨x,H1,I1,r1,q1⟩=>test_link (thn (hb.run pins s1 σ H1 _ I1 q1) fun u s2 ⟨y,H2,I2,r2,q2⟩ =>
  thn (ho pins s2 σ H2 x y v u _ I2 r1 r2 q2) fun d s3 ⟨z,H3,I3,r3,k,e,q3⟩ => ?_)) hm
 subst e;cases r3;refine wpAny_truthy_bool ?_;cases k with
 | false =>
   obtain ⟨k',e',q'⟩:=q3;cases e';exact ite_ff ⟨H3,I3,q'⟩
 | true =>
   refine ite_tt (test_link (thn (hc.run pins s3 σ H3 _ I3 q3) fun w' s4 ⟨z',H4,I4,r4,q4⟩=>thn (ho' pins s4 σ H4 y z' u w' _ I4 r2 r4 q4) fun d5 s5 ⟨z5,H5,I5,r5,k5,e5,q5⟩ => ?_));subst e5;cases r5;refine wpAny_truthy_bool ?_;cases k5 with
   | false =>
     obtain ⟨k',e',q'⟩:=q5;cases e';exact ite_ff ⟨H5,I5,q'⟩
   | true =>
     refine ite_tt (test_last (thn (hd.run pins s5 σ H5 _ I5 q5) fun w6 s6 ⟨z6,H6,I6,r6,q6⟩=>thn (ho2 pins s6 σ H6 z' z6 w' w6 _ I6 r4 r6 q6) fun c7 s7 ⟨z7,H7,I7,r7,k7,e7,q7⟩ => ?_));subst e7;cases r7;exact wpAny_truthy_bool ⟨H7,I7,q7⟩
def UW (g g' g2:D->D->Option Slot) (oa ob oc od:Opn):ME:=fun δ μ=>(oa.ev δ μ).bind fun ra δ1 μ1=>(ob.ev δ1 μ1).bind fun rb δ2 μ2=>match ra.at δ2 μ2,rb.at δ2 μ2 with
 | some da,some db=>match g da db with
   | some (.fr (.bl true))=>(oc.ev δ2 μ2).bind fun rc δ3 μ3=>match rb.at δ3 μ3,rc.at δ3 μ3 with
     | some db',some dc=>match g' db' dc with
       | some (.fr (.bl true))=>(od.ev δ3 μ3).bind fun rd δ4 μ4=>match rc.at δ4 μ4,rd.at δ4 μ4 with
         | some dc',some dd=>lift (g2 dc' dd) δ4 μ4
         | _,_=>.bad
       | some (.fr (.bl false))=>.ok (.fr (.bl false)) δ3 μ3
       | _=>.bad
     | _,_=>.bad
   | some (.fr (.bl false))=>.ok (.fr (.bl false)) δ2 μ2
   | _=>.bad
 | _,_=>.bad
variable {oa ob oc od : Opn}
theorem NX {r r' r2:R2} {g g' g2:D->D->Option Slot} (hr:R2J X r g) (hr':R2J X r' g') (hr2:R2J X r2 g2):∀ σ H Q,Uw X W (UW g g' g2 oa ob oc od) σ H Q->LF r r' r2 (Nh X W oa) (Nh X W ob) (Nh X W oc) (Nh X W od) σ H Q:=by
 intro σ H Q ⟨Z,F,ρ,μ,δ,S,q⟩;refine ⟨Z,F,ρ,μ,δ,S,(FinE.bind q).imp fun ra δ1 μ1 H1 F1 ρ1 l1 lr1 S1 ⟨_,_,_,p1⟩ x hx => ?_⟩;refine ⟨Z,F1,ρ1,μ1,δ1,S1,p1.bind.imp fun rb δ2 μ2 H2 F2 ρ2 l2 lr2 S2 ⟨_,_,_,p2⟩ y hy => ?_⟩;cases ea:ra.at δ2 μ2 with
 | none=>simp only [ea] at p2; exact p2.elim
 | some da =>
   cases eb:rb.at δ2 μ2 with
   | none=>simp only [ea,eb] at p2; exact p2.elim
   | some db =>
     simp only [ea,eb] at p2;cases eg:g da db with
     | none=>simp only [eg] at p2; exact p2.elim
     | some s =>
       refine hr Z F2 ρ2 μ2 δ2 σ H2 x y da db s _ S2 ((hx.up l2 lr2).bor S2 ea) (hy.bor S2 eb) eg fun v H3 F3 l3 S3 vr => ?_;cases s with
       | own o=>simp only [eg] at p2; exact p2.elim
       | fr d =>
         cases d with
         | bl kk =>
           cases vr.r;refine ⟨kk,rfl,?_⟩;cases kk with
           | false =>
             simp only [eg] at p2;rw [if_neg Bool.false_ne_true];exact p2 H3 F3 ρ2 l3 .refl S3 _ .bl
           | true =>
             simp only [eg] at p2;rw [if_pos rfl];refine ⟨Z,F3,ρ2,μ2,δ2,S3,(p2.mono l3 .refl).bind.imp fun rc δ4 μ4 H4 F4 ρ4 l4 lr4 S4 ⟨_,_,_,p4⟩ w hw => ?_⟩;have hy4:=(hy.up l3 .refl).up l4 lr4;cases eb':rb.at δ4 μ4 with
             | none=>simp only [eb'] at p4; exact p4.elim
             | some db' =>
               cases ec:rc.at δ4 μ4 with
               | none=>simp only [eb',ec] at p4; exact p4.elim
               | some dc =>
                 simp only [eb',ec] at p4;cases eg':g' db' dc with
                 | none=>simp only [eg'] at p4; exact p4.elim
                 | some s' =>
                   refine hr' Z F4 ρ4 μ4 δ4 σ H4 y w db' dc s' _ S4 (hy4.bor S4 eb') (hw.bor S4 ec) eg' fun v5 H5 F5 l5 S5 vr5 => ?_;cases s' with
                   | own o=>simp only [eg'] at p4; exact p4.elim
                   | fr d5 =>
                     cases d5 with
                     | bl k5 =>
                       cases vr5.r;refine ⟨k5,rfl,?_⟩;cases k5 with
                       | false =>
                         simp only [eg'] at p4;rw [if_neg Bool.false_ne_true];exact p4 H5 F5 ρ4 l5 .refl S5 _ .bl
                       | true =>
                         simp only [eg'] at p4;rw [if_pos rfl];refine ⟨Z,F5,ρ4,μ4,δ4,S5,(p4.mono l5 .refl).bind.imp fun rd δ6 μ6 H6 F6 ρ6 l6 lr6 S6 ⟨_,_,_,p6⟩ w6 hw6 => ?_⟩;have hc6:=(hw.up l5 .refl).up l6 lr6;cases ec':rc.at δ6 μ6 with
                         | none=>simp only [ec'] at p6; exact p6.elim
                         | some dc' =>
                           cases ed:rd.at δ6 μ6 with
                           | none=>simp only [ec',ed] at p6; exact p6.elim
                           | some dd =>
                             simp only [ec',ed] at p6;unfold lift at p6;cases eg2:g2 dc' dd with
                             | none=>simp only [eg2] at p6; exact p6.elim
                             | some s6 =>
                               simp only [eg2] at p6;exact hr2 Z F6 ρ6 μ6 δ6 σ H6 w w6 dc' dd s6 Q S6 (hc6.bor S6 ec') (hw6.bor S6 ed) eg2 fun v H' F' l' S' vr=>p6 H' F' ρ6 l' .refl S' v vr
                     | _=>simp only [eg'] at p4; exact p4.elim
         | _=>simp only [eg] at p2; exact p2.elim
theorem E3 {op op' op2:CmpOp} {r r' r2:R2} {g g' g2:D->D->Option Slot} (ho:OpR X (compareOp op) r) (hr:R2J X r g) (ho':OpR X (compareOp op') r') (hr':R2J X r' g') (ho2:OpR X (compareOp op2) r2) (hr2:R2J X r2 g2) (ha:JO X W a oa) (hb:JO X W b ob) (hc:JO X W c oc) (hd:JO X W d od)
  (hm:lastMarks [op,op',op2] [b,c,d]=false:=by with_unfolding_all rfl):JT X W (.Compare a [op,op',op2] [b,c,d] pos) (ZN (UW g g' g2 oa ob oc od)):=(Kv ho ho' ho2 ha hb hc hd hm).imp (WW (NX hr hr' hr2))
end
end FL
namespace FL
open PySem PySem.Spec PyProof.Rows L2
section
variable {K : PySem.W.Frag} {mg : Str -> Option Value} {Z F H : Hp} {ρ : List Addr} {μ : Mem} {δ : Loc} {σ : L2.St}
theorem Sim.lockC {k:Nat} {ks:List DK} {ds:List D} (S:Sim K mg Z F ρ μ δ σ H) (e:μ[k]?=some (.dct ks ds)) :
  ∃ a vs,H a=some (.dK ((ks.map DK.key).zip vs))/\∀ od,Sim K mg (upd Z a (.frz od (.dK ((ks.map DK.key).zip vs)))) F ρ (μ.set k (.fdc ks ds)) δ σ (upd H a (.frz od (.dK ((ks.map DK.key).zip vs)))) /\
   ∀ F' ρ' μ' δ' σ' H',Le (upd Z a (.frz od (.dK ((ks.map DK.key).zip vs)))) F F'->LeR (upd Z a (.frz od (.dK ((ks.map DK.key).zip vs)))) ρ ρ'->Sim K mg (upd Z a (.frz od (.dK ((ks.map DK.key).zip vs)))) F' ρ' μ' δ' σ' H' ->
    H' a=some (.frz od (.dK ((ks.map DK.key).zip vs)))/\Le Z F F'/\LeR Z ρ ρ'/\Sim K mg Z F' ρ' (μ'.set k (.dct ks ds)) δ' σ' (upd H' a (.dK ((ks.map DK.key).zip vs))) /\
    ∀ v s,RG K mg (upd Z a (.frz od (.dK ((ks.map DK.key).zip vs)))) F' ρ' H' v s->RG K mg Z F' ρ' (upd H' a (.dK ((ks.map DK.key).zip vs))) v s:=by
 obtain ⟨a,ea,fa,za,vs,hH,hn,rl⟩:=S.mem k _ e;have za:Z a=none:=za.z rfl;have hm:a∈ρ:=List.mem_of_getElem? ea;have hk:k < μ.length:=(List.getElem?_eq_some_iff.mp e).1;refine ⟨a,vs,hH,fun od => ?_⟩;generalize hu:(HO.dK ((ks.map DK.key).zip vs))=u at *;constructor
 ·refine ⟨fun p o h => ?_,fun p o h => ?_,S.len,fun i s h => ?_,S.apart,fun j c h => ?_,by simp [S.mlen],S.nod⟩
  ·have ne:p≠a:=fun z=>by subst z; rw [fa] at h; cases h
   rw [upd_ne ne]; exact S.le p o h
  ·by_cases z:p=a
   ·subst z; rw [upd_same] at h ⊢; exact h
   ·rw [upd_ne z] at h ⊢; exact S.zk p o h
  ·obtain ⟨v,e1,r⟩:=S.slot i s h
   refine ⟨v,e1,?_⟩;cases s with
   | fr d=>exact r
   | own c =>
     obtain ⟨q,ev,fr,r⟩:=r;have ne:q≠a:=fun z=>by subst z; exact fr.r hm
     exact ⟨q,ev,⟨fr.f,by rw [upd_ne ne]; exact fr.z,fr.r⟩,r.up (fun _ _ h=>h) (fun _ _ h=>h) (upd_ne ne)⟩
  ·by_cases z:j=k
   ·subst z
    rw [List.getElem?_set_self hk] at h;cases h;exact ⟨a,ea,fa,⟨fun z=>(by cases z),fun _=>⟨od,_,by rw [upd_same,hu]⟩⟩,od,vs,by rw [upd_same,hu],hn,rl⟩
   ·rw [List.getElem?_set_ne (Ne.symm z)] at h
    obtain ⟨b,eb,g1,g2,r⟩:=S.mem j c h;have ne:b≠a:=fun q=>by
     subst q;exact z ((List.getElem?_inj (List.getElem?_eq_some_iff.mp eb).1 S.nod).mp (eb.trans ea.symm))
    exact ⟨b,eb,g1,g2.at (upd_ne ne),r.up (fun _ _ h=>h) (fun _ _ h=>h) (upd_ne ne)⟩
 ·intro F' ρ' μ' δ' σ' H' l lr S'
  have fa':F' a=none:=by
   cases q:F' a with
   | none=>rfl
   | some o =>
     rcases l.new a o q with z | z
     ·rw [fa] at z; cases z
     ·rw [upd_same] at z; cases z
  have ea':=lr.to k a ea;have hm':a∈ρ':=List.mem_of_getElem? ea';refine ⟨S'.zk a _ upd_same,l.unguard,lr.unguard,⟨fun p o h => ?_,fun p o h => ?_,S'.len,fun i s h => ?_,S'.apart,fun j c h => ?_,by simp [S'.mlen],S'.nod⟩,fun v s h => ?_⟩
  ·have ne:p≠a:=fun z=>by subst z; rw [fa'] at h; cases h
   rw [upd_ne ne]; exact S'.le p o h
  ·have ne:p≠a:=fun z=>by subst z; rw [za] at h; cases h
   rw [upd_ne ne]; exact S'.zk p o (by rw [upd_ne ne]; exact h)
  ·obtain ⟨v,e1,r⟩:=S'.slot i s h
   refine ⟨v,e1,?_⟩;cases s with
   | fr d=>exact r
   | own c =>
     obtain ⟨q,ev,fr,r⟩:=r;have ne:q≠a:=fun z=>by subst z; exact fr.r hm'
     exact ⟨q,ev,⟨fr.f,(Xw fr.z).2,fr.r⟩,r.up (fun _ _ h=>h) (fun _ _ h=>h) (upd_ne ne)⟩
  ·by_cases z:j=k
   ·subst z
    have hj:j < μ'.length:=by
     have:=(List.getElem?_eq_some_iff.mp h).1;simpa using this
    rw [List.getElem?_set_self hj] at h;cases h;exact ⟨a,ea',fa',.of za rfl,vs,by rw [upd_same,hu],hn,rl.up l.to lr.to⟩
   ·rw [List.getElem?_set_ne (Ne.symm z)] at h
    obtain ⟨b,eb,g1,g2,r⟩:=S'.mem j c h;have ne:b≠a:=fun q=>by
     subst q;exact z ((List.getElem?_inj (List.getElem?_eq_some_iff.mp eb).1 S'.nod).mp (eb.trans ea'.symm))
    exact ⟨b,eb,g1,g2.at (upd_ne ne).symm,r.up (fun _ _ h=>h) (fun _ _ h=>h) (upd_ne ne)⟩
  ·cases s with
   | fr d=>exact h
   | own c =>
     obtain ⟨q,ev,fr,r⟩:=h;have ne:q≠a:=fun z=>by subst z; exact fr.r hm'
     exact ⟨q,ev,⟨fr.f,(Xw fr.z).2,fr.r⟩,r.up (fun _ _ h=>h) (fun _ _ h=>h) (upd_ne ne)⟩
end
def sT (k:Nat) (c:Own):OutS->OutS
 | .nx δ μ=>.nx δ (μ.set k c)
 | .rt s μ=>.rt s (μ.set k c)
 | .bk δ μ=>.bk δ (μ.set k c)
 | .ct δ μ=>.ct δ (μ.set k c)
 | _=>.bad
def sS (m0:ME) (m:MS):MS:=fun δ μ=>match m0 δ μ with
 | .ok (.fr (.obj k)) _ _=>match μ[k]? with
   | some (.dct ks ds)=>sT k (.dct ks ds) (m δ (μ.set k (.fdc ks ds)))
   | _=>.bad
 | _=>.bad
def u9 (k:Nat) (c:Own):Out Slot->Out Slot
 | .ok s δ μ=>.ok s δ (μ.set k c)
 | _=>.bad
def Ku (m0:ME) (m:ME):ME:=fun δ μ=>match m0 δ μ with
 | .ok (.fr (.obj k)) _ _=>match μ[k]? with
   | some (.dct ks ds)=>u9 k (.dct ks ds) (m δ (μ.set k (.fdc ks ds)))
   | _=>.bad
 | _=>.bad
def HP (μ:Mem):Slot->Option (List DK×List D)
 | .fr (.obj k)=>match μ[k]? with
   | some (.fdc ks ds)=>some (ks,ds)
   | _=>none
 | _=>none
def Ta (m:ME):MM (List D):=fun δ μ=>(m δ μ).bind fun s δ1 μ1=>match HP μ1 s with
 | some (ks,_)=>.ok (ks.map DK.d) δ1 μ1
 | none=>.bad
section
variable {X : Cx} {W : WX} {e : Expr} {st : Stmt} {m : ME}
theorem B6 (m0:ME) (h:JE X W e m):JE X W e (Ku m0 m):=by
 refine (pe_lock h).imp fun σ H Q ⟨Z,F,ρ,μ,δ,S,q⟩ => ?_;unfold Ku at q
 split at q
 ·rename_i k δ0 μ0 e0
  split at q
  ·rename_i ks ds ek
   obtain ⟨a,vs,hH,hl⟩:=S.lockC ek;refine ⟨a,_,hH,True.intro,fun od => ?_⟩;obtain ⟨S1,back⟩:=hl od;refine ⟨_,F,ρ,_,δ,S1,?_⟩;cases em:m δ (μ.set k (.fdc ks ds)) with
   | ok s δ' μ' =>
     rw [em] at q;intro H' F' ρ' l lr S' v r;obtain ⟨b1,b2,b3,b4,b5⟩:=back _ _ _ _ _ _ l lr S';exact ⟨b1,q _ _ _ b2 b3 b4 v ⟨b5 _ _ r.r,r.no⟩⟩
   | exc x δ' μ' => rw [em] at q; exact q.elim
   | bad=>rw [em] at q; exact q.elim
  ·exact q.elim
 ·exact q.elim
theorem z9 {Z F:Hp} {ρ:List Addr} {μ:Mem} {δ δ':Loc} {σ:L2.St} {H:Hp} {v:V} {s:Slot} {ks:List DK} {ds:List D} (S:Sim X.K X.mg Z F ρ μ δ σ H) (r:VR X.K X.mg Z F ρ δ' σ H v s) (h:HP μ s=some (ks,ds)) :
  ∃ a o vs,v = .ref a/\Z a=some (.frz o (.dK ((ks.map DK.key).zip vs)))/\H a=some (.frz o (.dK ((ks.map DK.key).zip vs)))/\ks.length=vs.length/\RepL X.K X.mg F ρ vs ds:=by
 unfold HP at h
 split at h
 ·rename_i k
  split at h
  ·rename_i ks' ds' ek
   cases h;have r1:Rep X.K X.mg F ρ v (.obj k):=r.r;cases r1 with
   | @obj _ a hp =>
     obtain ⟨b,eb,fb,zb,ob,vs,hH,hn,rl⟩:=S.mem k _ ek;rw [hp] at eb; cases eb;obtain ⟨ob2,kvs,hz⟩:=zb.2 rfl;have:=S.zk a _ hz;rw [hH] at this;cases this;exact ⟨a,ob,vs,rfl,hz,hH,hn,rl⟩
  ·cases h
 ·cases h
theorem HM {tg:Expr} (he:JE X W e m):JI X W tg e (Ta m):=by
 refine (pi_keys he).imp fun σ H R ⟨Z,F,ρ,μ,δ,S,q⟩=>⟨Z,F,ρ,μ,δ,S,(FinE.bind q).imp fun s δ1 μ1 H1 F1 ρ1 l lr S1 ⟨_,_,_,p⟩ v r => ?_⟩;cases e0:HP μ1 s with
 | none=>simp only [e0] at p; exact p.elim
 | some kd =>
   obtain ⟨ks,ds⟩:=kd;simp only [e0] at p;obtain ⟨a,o,vs,rfl,hZ,hH,hl,rl⟩:=z9 S1 r e0;refine ⟨a,o,rfl,.inl ⟨_,hH,p H1 F1 ρ1 .refl .refl S1 _ ?_⟩⟩;intro Z' F' ρ' μ' δ' σ' H' i to tr S' zz;have q:=S'.zk _ _ (zz _ _ hZ);have hz:((ks.map DK.key).zip vs).length=ks.length:=by simp [List.length_zip,hl]
   refine ⟨fun h=>⟨q,by rw [hz]; simpa using h⟩,fun x hx => ?_⟩;rw [List.getElem?_map] at hx;obtain ⟨kk,e1,rfl⟩:=Option.map_eq_some_iff.mp hx;have hi:=(List.getElem?_eq_some_iff.mp e1).1;obtain ⟨k0,v0,d0,e2,e3,e4,e5,r0⟩:=Ac hl rl hi;rw [e1] at e2; cases e2;refine ⟨⟨q,by rw [hz]; exact hi⟩,fun y H2 ⟨eH,k1,v1,e6,ey⟩ => ?_⟩;subst eH;subst ey;rw [e5] at e6;cases e6;exact ⟨F',.refl,S',L0 kk⟩
end
end FL
namespace L36
open PySem PySem.Spec PyProof.Rows L2 FL LamX
def UU:Scope:=⟨.function,[("self",.local),("schema",.local),("__class__",.free),("need_schema",.globalImplicit),("super",.globalImplicit)],false,false,[]⟩
theorem ML:ClsScope ["self","schema"] ["self","schema"] UU:=⟨rfl,rfl,rfl,by decide +kernel,rfl,by decide +kernel,by decide +kernel,by decide +kernel,by decide +kernel,by decide +kernel⟩
structure Txt (tb:Nat->Addr) (P:Program) (w:World) (K:PySem.W.Frag) (mg:Str->Option Value) (base:Heap):Prop where
 n_all:mg "all" = none
 n_bool:mg "bool" = none
 n_dict:mg "dict" = none
 n_int:mg "int" = none
 n_isinstance:mg "isinstance" = none
 n_len:mg "len" = none
 n_max:mg "max" = none
 n_min:mg "min" = none
 n_range:mg "range" = none
 n_set:mg "set" = none
 n_str:mg "str" = none
 n_super:mg "super" = none
 n_tuple:mg "tuple" = none
 c_GREATEST:∃ t,mg "GREATEST" = some (.int 1000000000 t)
 c_LETTERS:∃ t,mg "LETTERS" = some (.str (Str.ofString "abcdefghijklmnopqrstuvwxyz") t)
 c_MAX_DOCUMENTS:∃ t,mg "MAX_DOCUMENTS" = some (.int 500 t)
 c_MAX_FIELDS:∃ t,mg "MAX_FIELDS" = some (.int 6 t)
 c_MAX_NAME:∃ t,mg "MAX_NAME" = some (.int 12 t)
 c_MAX_TEXT:∃ t,mg "MAX_TEXT" = some (.int 400 t)
 c_MAX_WORD:∃ t,mg "MAX_WORD" = some (.int 20 t)
 c_WORD_SIGNS:∃ t,mg "WORD_SIGNS" = some (.str (Str.ofString "abcdefghijklmnopqrstuvwxyz0123456789") t)
 t_FIELD_KINDS:Cz K mg "FIELD_KINDS" [lit "text",lit "number"]
 x_BadDocument:Xc P w K mg base "BadDocument" "reason"
 x_BadKey:Xc P w K mg base "BadKey" "reason"
 x_BadNumber:Xc P w K mg base "BadNumber" "reason"
 x_BadSchema:Xc P w K mg base "BadSchema" "reason"
 x_NoDocument:XcG .look P w K mg base "NoDocument" "absent"
 x_NoSegment:XcG .look P w K mg base "NoSegment" "reason"
 x_TooMany:XcG .arit P w K mg base "TooMany" "most"
 s__law_error_of:∃ C1 C2 C3,mg "Invalid" = some (.ref C1)/\mg "Unfit" = some (.ref C2)/\mg "Excess" = some (.ref C3)/\HY K mg [.ref C1,.ref C2,.ref C3] YL
 c_BadChange:mg "BadChange" = some (.ref (He.ga K "BadChange"))
 c_BadDocument:mg "BadDocument" = some (.ref (He.ga K "BadDocument"))
 c_BadField:mg "BadField" = some (.ref (He.ga K "BadField"))
 c_BadKey:mg "BadKey" = some (.ref (He.ga K "BadKey"))
 c_BadNumber:mg "BadNumber" = some (.ref (He.ga K "BadNumber"))
 c_BadQuery:mg "BadQuery" = some (.ref (He.ga K "BadQuery"))
 c_BadSchema:mg "BadSchema" = some (.ref (He.ga K "BadSchema"))
 c_Entry:mg "Entry" = some (.ref (He.ga K "Entry"))
 c_Index:mg "Index" = some (.ref (He.ga K "Index"))
 c_NoDocument:mg "NoDocument" = some (.ref (He.ga K "NoDocument"))
 c_NoField:mg "NoField" = some (.ref (He.ga K "NoField"))
 c_NoSegment:mg "NoSegment" = some (.ref (He.ga K "NoSegment"))
 c_Segment:mg "Segment" = some (.ref (He.ga K "Segment"))
 c_TooMany:mg "TooMany" = some (.ref (He.ga K "TooMany"))
 c_WrongKind:mg "WrongKind" = some (.ref (He.ga K "WrongKind"))
 atts:PY K mg at_
 prp:Cw K mg GZ
 k_BadChange:∃ D,mg "BadChange" = some (.ref D)
 k_BadDocument:∃ D,mg "BadDocument" = some (.ref D)
 k_BadField:∃ D,mg "BadField" = some (.ref D)
 k_BadKey:∃ D,mg "BadKey" = some (.ref D)
 k_BadNumber:∃ D,mg "BadNumber" = some (.ref D)
 k_BadQuery:∃ D,mg "BadQuery" = some (.ref D)
 k_BadSchema:∃ D,mg "BadSchema" = some (.ref D)
 k_NoDocument:∃ D,mg "NoDocument" = some (.ref D)
 k_NoField:∃ D,mg "NoField" = some (.ref D)
 k_NoSegment:∃ D,mg "NoSegment" = some (.ref D)
 k_TooMany:∃ D,mg "TooMany" = some (.ref D)
 k_WrongKind:∃ D,mg "WrongKind" = some (.ref D)
 i_isa:AN K mg X7
 i_all:∀ d b c,X7 c d=some b->∃ D,mg (Str.ofString d)=some (.ref D)
 mk_Index:Mk K (He.ga K "Index") (ZM K (pM "Index" "__init__"))
 mk_Segment:Mk K (He.ga K "Segment") (ZM K (pM "Segment" "__init__"))
 mk_Entry:Mk K (He.ga K "Entry") (ZM K (pM "Entry" "__init__"))
 f_iView:∃ fd,Fd K "__init__" "View.__init__" (Z_ 0 (tp 46)) (ZM K (pM "View" "__init__")) fd .none
 f_iIndex:∃ fd,FdK K "__init__" "Index.__init__" (Z_ 0 (tp 52)) (ZM K (pM "Index" "__init__")) (G0 K (pM "Index" "__init__")) (Y_ K (pM "Index" "__init__")) (UO K (pM "Index" "__init__")) fd
 ce_iIndex:CellOk K (Y_ K (pM "Index" "__init__")) (UO K (pM "Index" "__init__")) (He.ga K "Index") P.main.file
 s_iIndex:SupP P K mg (ZM K (pM "Index" "__init__")) (Y_ K (pM "Index" "__init__")) (UO K (pM "Index" "__init__")) (He.ga K "Index") "self" UU ["self","schema"]
 f_iSegment:∃ fd,Fd K "__init__" "Segment.__init__" (Z_ 0 (tp 34)) (ZM K (pM "Segment" "__init__")) fd .none
 f_sr_flush:∃ fd,Fd K "flush" "Index.flush" (Z_ 7 (tp 52)) (ZM K (pM "Index" "flush")) fd .none
 f_sr_delete:∃ fd,Fd K "delete" "Index.delete" (Z_ 3 (tp 52)) (ZM K (pM "Index" "delete")) fd .none
 f_iEntry:∃ fd,Fd K "__init__" "Entry.__init__" (Z_ 0 (tp 33)) (ZM K (pM "Entry" "__init__")) fd .none
 f_sr_put:∃ fd,Fd K "put" "Index.put" (Z_ 2 (tp 52)) (ZM K (pM "Index" "put")) fd .none
 f_sr_merge:∃ fd,Fd K "merge" "Index.merge" (Z_ 8 (tp 52)) (ZM K (pM "Index" "merge")) fd .none
 f_Index_segments:∃ fd,Fd K "segments" "Index.segments" (Z_ 1 (tp 52)) (ZM K (pM "Index" "segments")) fd .none
 f_sr_document:∃ fd,Fd K "document" "View.document" (Z_ 4 (tp 46)) (ZM K (pM "View" "document")) fd .none
 sb_Index:Cv K mg "Index" "__init__" (He.ga K "Index") (ZM K (pM "View" "__init__"))
 d__law_drawer:DF K mg "_law_drawer" (tp 54)
 d_is_made_of:DF K mg "is_made_of" (tp 26)
 d_is_field_name:DF K mg "is_field_name" (tp 29)
 d_is_field_row:DF K mg "is_field_row" (tp 40)
 d_need_schema:DF K mg "need_schema" (tp 41)
 d__law_drawn:DF K mg "_law_drawn" (tp 55)
 d__law_drawn_of:DF K mg "_law_drawn_of" (tp 56)
 d__law_segment_flush:DF K mg "_law_segment_flush" (tp 61)
 d_is_key:DF K mg "is_key" (tp 28)
 d_need_key:DF K mg "need_key" (tp 43)
 d_is_text:DF K mg "is_text" (tp 27)
 d_is_integer:DF K mg "is_integer" (tp 25)
 d_is_value_for:DF K mg "is_value_for" (tp 44)
 d_kind_of_field:DF K mg "kind_of_field" (tp 42)
 d_need_document:DF K mg "need_document" (tp 45)
 d_split_words:DF K mg "split_words" (tp 31)
 d__law_segment_put:DF K mg "_law_segment_put" (tp 59)
 d__law_error_of:DF K mg "_law_error_of" (tp 57)
 d_live_entries:DF K mg "live_entries" (tp 35)
 d__law_segment_merge:DF K mg "_law_segment_merge" (tp 60)
 d_segment_row:DF K mg "segment_row" (tp 36)
 d__law_segmented:DF K mg "_law_segmented" (tp 58)
 d__law_merged_right:∃ c f fd,FdL K "_law_merged_right" "_law_merged_right" (tp 62) f fd .none c/\TabB base mg c (tb 0)/\mg "_law_merged_right" = some (.ref f)/\PySem.W.keepIn K (.ref f)=true
 d__law_odd_right:∃ c f fd,FdL K "_law_odd_right" "_law_odd_right" (tp 63) f fd .none c/\TabB base mg c (tb 1)/\mg "_law_odd_right" = some (.ref f)/\PySem.W.keepIn K (.ref f)=true
 mth_flush:MU K mg ["Index"] (Str.ofString "Index") (Str.ofString "flush")
 mth_delete:MU K mg ["Index"] (Str.ofString "Index") (Str.ofString "delete")
 mth_put:MU K mg ["Index"] (Str.ofString "Index") (Str.ofString "put")
 mth_merge:MU K mg ["Index"] (Str.ofString "Index") (Str.ofString "merge")
 mth_document:MU K mg ["Index"] (Str.ofString "View") (Str.ofString "document")
 idc:Fl K mg ["Entry"]
 xf_absent:BE K mg ["NoDocument"] "absent"
 xf_most:BE K mg ["TooMany"] "most"
 xf_missing:BE K mg ["NoField"] "missing"
 xf_mistaken:BE K mg ["WrongKind"] "mistaken"
variable {tb : Nat -> Addr} {P : Program} {w : World} {K : PySem.W.Frag} {mg : Str -> Option Value} {base : Heap} {f : Addr} {fd : FuncData}
def Rm:=QS ["_law_script","_law_k","_law_cell"] ["len"]
def Uz (δ:FL.Loc) (μ:Mem):OutS:=(Z4 (ZK 2 (Tq (ZN (m2 (YC true) (.v 0) (.e (ZQ [])))) (m2 ZL (.v 0) (.e (m2 VW (.v 1) (.e (mC Zt [(.v 0)]))))) (mD (.int 1))))
  (ZF (YS (ZQ [(mV 2),(m2 VD (.e (mD (.int 3))) (.v 1)),(Tq (ZN (m2 Eh (.v 2) (.e (m2 Sd (.e (mD (.int 10))) (.e (mD (.int 18))))))) (m2 Tp (.v 2) (.e (m2 Sd (.e (mD (.int 10))) (.e (mD (.int 18)))))) (mD (.int 0)))])))) δ μ
def XM:MF:=Zu 3 (Uz)
theorem QN (F:Fd K "_law_drawer" "_law_drawer" (tp 54) f fd .none) (T:Txt tb P w K mg base):FnG P w K mg base (L2.CX P w) (0+1) f fd ["_law_script","_law_k"] (spM K mg (Zu 3 (Uz)) 2):=by
 refine YW ["_law_script","_law_k","_law_cell"] Rm F ?_;rintro X W rfl rfl rfl rfl rfl C;exact (Z8 (C.st (Ub (C.neT C.o (Z9 (Zy YY))) (UL C.o (Z9 (La C.o (Z9 (C.ln T.n_len C.o))))) Z5))
  (Z6 (Zx (Xx (Zy (Z7 C.w (Z7 (C9 (Z9 Z5) C.o) (Y' (Ub (tn C.o (Z9 (C6 (Z9 Z5) (Z9 Z5)))) (C7 C.o (Z9 (C6 (Z9 Z5) (Z9 Z5)))) Z5)))))))))
theorem Rl (T:Txt tb P w K mg base):Fu P w K mg base 1 "_law_drawer" XM 2 []:=.mkD T.d__law_drawer fun _ _ F=>⟨QN F T,F.b2⟩
def QM:Scope:=⟨.function,[("value",.local),("signs",.cell),("most",.local),("isinstance",.globalImplicit),("str",.globalImplicit),("len",.globalImplicit),("all",.globalImplicit)],false,false,[("fast",.str "value"),("fast",.str "signs"),("fast",.str "most"),("fast",.str "sign")]⟩
def Yh (δ:FL.Loc) (μ:Mem):Out FL.Slot:=(m2 (To false) (.v 3) (.v 1)) δ μ
def Yp (δ:FL.Loc) (μ:Mem):OutS:=(ZF (X' (mC Yc [(.v 0),(.e (mD (.ty "str")))]) (X' (Vk Tv Tv (.e (mD (.int 1))) (.e (mC Zt [(.v 0)])) (.v 2)) (mC Tn [(.e (Tj (Uc (mV 0)) (Zq 3) Vx Yh [3]))])))) δ μ
def Zo:MF:=Zu 4 (Yp)
theorem Pk (F:Fd K "is_made_of" "is_made_of" (tp 26) f fd .none) (T:Txt tb P w K mg base):FnG P w K mg base (L2.CX P w) (0+1) f fd ["value","signs","most"] (spM K mg (Zu 4 (Yp)) 3):=by
 refine YW ["value","signs","most","sign"] QM F ?_;rintro X W rfl rfl rfl rfl rfl C;exact (Z6 (Zx (WU (C.bi (by decide +kernel) T.n_isinstance (by decide +kernel) call_isi T9 (ZE C.o (Yb (Z9 (C.ty (by decide +kernel) T.n_str (by decide +kernel)))))) (WU (C4 Nd Nc Nd Nc (Z9 Z5) (Z9 (C.ln T.n_len C.o)) C.o) (Wo (C.bi (by decide +kernel) T.n_all (by decide +kernel) (cr_all C.calm) JQ (Yb (Z9 (Cs.lc (Tx:=Txt tb) C.toCs T [("sign",3)] (VU C.w) (by decide +kernel) (fun Y T1 C1=>⟨C1.g,T8,(zp C1.o C1.o)⟩) (by rfl))))))))))
theorem Uy (T:Txt tb P w K mg base):Fu P w K mg base 1 "is_made_of" Zo 3 []:=.mkD T.d_is_made_of fun _ _ F=>⟨Pk F T,F.b3⟩
def S_:=QS ["value"] ["is_made_of","LETTERS","MAX_NAME"]
def Yn (δ:FL.Loc) (μ:Mem):OutS:=(ZF (ZX Zo [(mV 0),(mD (.str (lit "abcdefghijklmnopqrstuvwxyz"))),(mD (.int 12))] [])) δ μ
def YR:MF:=Zu 1 (Yn)
theorem R' (F:Fd K "is_field_name" "is_field_name" (tp 29) f fd .none) (T:Txt tb P w K mg base):FnG P w K mg base (L2.CX P w) (1+1) f fd ["value"] (spM K mg (Zu 1 (Yn)) 1):=by
 refine YW ["value"] S_ F ?_;rintro X W rfl rfl rfl rfl rfl C;exact (Z6 (Zx (XN C.toCs (Uy T) (Z7 C.w (Z7 (C.gStr (by decide +kernel) T.c_LETTERS) (Y' (C.gInt (by decide +kernel) T.c_MAX_NAME)))))))
theorem SY (T:Txt tb P w K mg base):Fu P w K mg base 2 "is_field_name" YR 1 []:=.mkD T.d_is_field_name fun _ _ F=>⟨R' F T,F.b1⟩
def R_:=QS ["value"] ["isinstance","tuple","len","is_field_name","str","FIELD_KINDS"]
def X4 (δ:FL.Loc) (μ:Mem):OutS:=(Z4 (ZR (QT (XT (ZN (mC Yc [(.v 0),(.e (mD (.ty "tuple")))]))) (QT (ZN (m2 (YC true) (.e (mC Zt [(.v 0)])) (.e (mD (.int 2))))) (XT (ZN (ZX YR [(m2 ZL (.v 0) (.e (mD (.int 0))))] []))))) (ZF (mD (.bl false)))
  ZW)
  (ZF (X' (mC Yc [(.e (m2 ZL (.v 0) (.e (mD (.int 1))))),(.e (mD (.ty "str")))]) (m2 (To false) (.e (m2 ZL (.v 0) (.e (mD (.int 1))))) (.e (mD (.tup ([lit "text",lit "number"].map .str)))))))) δ μ
def Yy:MF:=Zu 1 (X4)
theorem Rk (F:Fd K "is_field_row" "is_field_row" (tp 40) f fd .none) (T:Txt tb P w K mg base):FnG P w K mg base (L2.CX P w) (2+1) f fd ["value"] (spM K mg (Zu 1 (X4)) 1):=by
 refine YW ["value"] R_ F ?_;rintro X W rfl rfl rfl rfl rfl C;exact (Z8 (Y5 (Se (RF (XS (Xl (C.bi (by decide +kernel) T.n_isinstance (by decide +kernel) call_isi T9 (ZE C.o (Yb (Z9 (C.ty (by decide +kernel) T.n_tuple (by decide +kernel)))))))) (RF (C.neT (Z9 (C.ln T.n_len C.o)) (Z9 Z5)) (Ts (XS (Xl (XN C.toCs (SY T) (Y' (UL C.o (Z9 Z5)))))))))) (Z6 (Zx WY))
  ZG)
  (Z6 (Zx (WU (C.bi (by decide +kernel) T.n_isinstance (by decide +kernel) call_isi T9 (ZE (Z9 (UL C.o (Z9 Z5))) (Yb (Z9 (C.ty (by decide +kernel) T.n_str (by decide +kernel)))))) (Wo (zp (Z9 (UL C.o (Z9 Z5))) (Z9 (C.toCs.gTupS (by decide +kernel) T.t_FIELD_KINDS))))))))
theorem R9 (T:Txt tb P w K mg base):Fu P w K mg base 3 "is_field_row" Yy 1 []:=.mkD T.d_is_field_row fun _ _ F=>⟨Rk F T,F.b1⟩
def Rj:Scope:=⟨.function,[("value",.local),("isinstance",.globalImplicit),("tuple",.globalImplicit),("len",.globalImplicit),("MAX_FIELDS",.globalImplicit),("BadSchema",.globalImplicit),("all",.globalImplicit),("set",.globalImplicit)],false,false,[("fast",.str "value"),("fast",.str "one"),("fast",.str "name"),("fast",.str "kind")]⟩
def X3 (δ:FL.Loc) (μ:Mem):Out FL.Slot:=(ZX Yy [(mV 1)] []) δ μ
def X2 (δ:FL.Loc) (μ:Mem):Out FL.Slot:=(mV 2) δ μ
def XJ (δ:FL.Loc) (μ:Mem):OutS:=(Z4 (ZR (QT (XT (ZN (mC Yc [(.v 0),(.e (mD (.ty "tuple")))]))) (XT (ZN (Vk Tv Tv (.e (mD (.int 1))) (.e (mC Zt [(.v 0)])) (.e (mD (.int 6))))))) (Y9 "BadSchema" "reason" (mD (.str (lit "not a tuple of 1 to 6 pairs"))))
  ZW)
  (Z4 (ZR (XT (ZN (mC Tn [(.e (Tj (Uc (mV 0)) (Zq 1) Vx X3 [1]))]))) (Y9 "BadSchema" "reason" (mD (.str (lit "not pairs of a field name and a kind"))))
  ZW)
  (ZR (ZN (m2 Nl (.e (mC Qh [(.e (Tj (Uc (mV 0)) (Vm 2 (XB (Zq 2) (XB (Zq 3) Vn))) Vx X2 [2,3]))])) (.e (mC Zt [(.v 0)])))) (Y9 "BadSchema" "reason" (mD (.str (lit "a field name occurs twice"))))
  ZW))) δ μ
def YF:MF:=Zu 4 (XJ)
theorem QL (F:Fd K "need_schema" "need_schema" (tp 41) f fd .none) (T:Txt tb P w K mg base):FnG P w K mg base (L2.CX P w) (3+1) f fd ["value"] (spM K mg (Zu 4 (XJ)) 1):=by
 refine YW ["value","one","name","kind"] Rj F ?_;rintro X W rfl rfl rfl rfl rfl C;exact (Z8 (Y5 (Se (RF (XS (Xl (C.bi (by decide +kernel) T.n_isinstance (by decide +kernel) call_isi T9 (ZE C.o (Yb (Z9 (C.ty (by decide +kernel) T.n_tuple (by decide +kernel)))))))) (Ts (XS (C0 Nd Nc Nd Nc (Z9 Z5) (Z9 (C.ln T.n_len C.o)) (Z9 (C.gInt (by decide +kernel) T.c_MAX_FIELDS))))))) (Z6 (WM C.toCs T.x_BadSchema (by decide) (by decide +kernel) Z3))
  ZG)
  (Z8 (Y5 (XS (Xl (C.bi (by decide +kernel) T.n_all (by decide +kernel) (cr_all C.calm) JQ (Yb (Z9 (Cs.lc (Tx:=Txt tb) C.toCs T [("one",1)] (VU C.w) (by decide +kernel) (fun Y T1 C1=>⟨C1.g,T8,(XN C1 (R9 T1) (Y' C1.w))⟩) (by rfl))))))) (Z6 (WM C.toCs T.x_BadSchema (by decide) (by decide +kernel) Z3))
  ZG)
  (Z6 (Y5 (xr (Z9 (Cs.lenSet C.toCs (by decide +kernel) T.n_len (by decide +kernel) T.n_set (Yb (Z9 (Cs.lc (Tx:=Txt tb) C.toCs T [("name",2),("kind",3)] (VU C.w) (by decide +kernel) (fun Y T1 C1=>⟨(OJ C1.calm (Ze C1.g (Ze C1.g Wx))),T8,C1.w⟩) (by rfl)))))) (Z9 (C.ln T.n_len C.o))) (Z6 (WM C.toCs T.x_BadSchema (by decide) (by decide +kernel) Z3))
  ZG))))
theorem Ri (T:Txt tb P w K mg base):Fu P w K mg base 4 "need_schema" YF 1 []:=.mkD T.d_need_schema fun _ _ F=>⟨QL F T,F.b1⟩
def HL:=QS ["self","schema"] []
def UT (δ:FL.Loc) (μ:Mem):OutS:=(Z4 (Xt at_ "schema" (.v 0) (mV 1))
  (Xt at_ "kept" (.v 0) (Wb Xu))) δ μ
def US:MF:=Zu 2 UT
theorem E2 (F:Fd K "__init__" "View.__init__" (Z_ 0 (tp 46)) (ZM K (pM "View" "__init__")) fd .none) (T:Txt tb P w K mg base):FnG P w K mg base (L2.CX P w) (0+1) (ZM K (pM "View" "__init__")) fd ["self","schema"] (spM K mg (Zu 2 UT) 2):=by
 refine YW ["self","schema"] HL F ?_;rintro X W rfl rfl rfl rfl rfl C;exact (Z8 (Xk T.atts C.o C.w)
  (Z6 (Xk T.atts C.o (Vg Wf))))
theorem HK (T:Txt tb P w K mg base):SupR P w K mg base 1 "Index" "__init__" (He.ga K "Index") US 2:=by
 obtain ⟨fd,F⟩:=T.f_iView;exact FE T.sb_Index (E2 F T) F.b2
def V_ (δ:FL.Loc) (μ:Mem):OutS:=(Z4 (W6 (ZX YF [(mV 1)] []))
  (Z4 (Rz "Index" US [(mV 1)])
  (Xt at_ "pieces" (.v 0) (ZQ [])))) δ μ
def Ym:MF:=Zu 2 V_
theorem HJ {kV:Value} {fd:FuncData} (F:FdK K "__init__" "Index.__init__" (Z_ 0 (tp 52)) (ZM K (pM "Index" "__init__")) kV (Y_ K (pM "Index" "__init__")) (UO K (pM "Index" "__init__")) fd) (T:Txt tb P w K mg base):FnG P w K mg base (L2.CX P w) (4+1) (ZM K (pM "Index" "__init__")) fd ["self","schema"] (spM K mg (Zu 2 V_) 2):=by
 refine Cy (N:=["self","schema"]) (sc:=UU) (F.fc T.ce_iIndex) ML (by kernel_rfl) rfl ?_;intro X W hP hw hK hM hB C ST;subst hP hw hK hM hB;exact (Ox (CP (Zf (XN C.toCs (Ri T) (Y' C.w))))
  (Ox (K4 C (ST _ T.s_iIndex) (SupR.ok (HK T)) (by decide) (Y' C.w) rfl (by decide +kernel) rfl rfl rfl rfl)
  (CQ (Z6 (Xk T.atts C.o (Zy YY))))))
theorem Rh (T:Txt tb P w K mg base):ClW P w K mg base 5 "Index" 1 [] [.pos 0] Ym 1 []:=by
 obtain ⟨fd,F⟩:=T.f_iIndex;exact MX T.c_Index T.mk_Index (HJ F T) (F.bind1 fun _ _ _ _ _ _ s x us ws _ h1 h2=>match us,ws,h1,h2 with | [_],[],_,_=>.of_eq (by kernel_rfl)) .nil (fun _ _=>.nil) rfl rfl
def QK:=QS ["_law_drawer_here","_law_many","_law_found","_law_primes","_law_prime"] []
def TQ (δ:FL.Loc) (μ:Mem):OutS:=(Z4 (ZR (ZN (m2 Dw (.e (m2 ZL (.v 0) (.e (mD (.int 2))))) (.e (mD (.int 0))))) (Z4 (ZK 2 (m2 VW (.e (m2 ZL (.v 0) (.e (mD (.int 2))))) (.v 1)))
  (Z4 (XA VE (.v 0) (.e (mD (.int 2))) (m2 Tp (.e (m2 ZL (.v 0) (.e (mD (.int 2))))) (.v 1)))
  (ZF (mV 2))))
  ZW)
  (Z4 (XA VE (.v 0) (.e (mD (.int 1))) (m2 ZP (.e (m2 ZL (.v 0) (.e (mD (.int 1))))) (.e (mD (.int 1)))))
  (Z4 (ZK 3 (ZQ [(mD (.int 2147483647)),(mD (.int 2147483629)),(mD (.int 2147483587)),(mD (.int 2147483579)),(mD (.int 2147483563)),(mD (.int 2147483549)),(mD (.int 2147483543)),(mD (.int 2147483497))]))
  (Z4 (ZK 4 (m2 ZL (.e (m2 ZP (.v 3) (.e (ZQ [(mD (.int 2147483489)),(mD (.int 2147483477)),(mD (.int 2147483423))])))) (.e (m2 VW (.e (m2 ZL (.v 0) (.e (mD (.int 1))))) (.e (mD (.int 11)))))))
  (ZF (m2 VW (.e (m2 Tp (.e (m2 VW (.e (m2 Sd (.e (m2 ZP (.e (m2 ZP (.e (m2 VW (.e (m2 ZL (.v 0) (.e (mD (.int 0))))) (.v 4))) (.e (m2 VD (.e (mD (.int 7919))) (.e (m2 ZL (.v 0) (.e (mD (.int 1))))))))) (.e (mD (.int 1))))) (.e (mD (.int 5))))) (.v 4))) (.e (mD (.int 13))))) (.v 1))))))) δ μ
def Y2:MF:=Zu 5 (TQ)
theorem Pj (F:Fd K "_law_drawn" "_law_drawn" (tp 55) f fd .none) (T:Txt tb P w K mg base):FnG P w K mg base (L2.CX P w) (0+1) f fd ["_law_drawer_here","_law_many"] (spM K mg (Zu 5 (TQ)) 2):=by
 refine YW ["_law_drawer_here","_law_many","_law_found","_law_primes","_law_prime"] QK F ?_;rintro X W rfl rfl rfl rfl rfl C;exact (Z8 (Y5 (tq (Z9 (UL C.o (Z9 Z5))) (Z9 Z5)) (Z8 (C.st (La (Z9 (UL C.o (Z9 Z5))) C.o))
  (Z8 (Jv (C7 (Z9 (UL C.o (Z9 Z5))) C.o) C.o (Z9 Z5))
  (Z6 (Zx C.w))))
  ZG)
  (Z8 (Jv (WC (Z9 (UL C.o (Z9 Z5))) (Z9 Z5)) C.o (Z9 Z5))
  (Z8 (C.st (Zy (Z7 Z5 (Z7 Z5 (Z7 Z5 (Z7 Z5 (Z7 Z5 (Z7 Z5 (Z7 Z5 (Y' Z5))))))))))
  (Z8 (C.st (UL (Z9 (WC C.o (Z9 (Zy (Z7 Z5 (Z7 Z5 (Y' Z5))))))) (Z9 (La (Z9 (UL C.o (Z9 Z5))) (Z9 Z5)))))
  (Z6 (Zx (La (Z9 (C7 (Z9 (La (Z9 (C6 (Z9 (WC (Z9 (WC (Z9 (La (Z9 (UL C.o (Z9 Z5))) C.o)) (Z9 (C9 (Z9 Z5) (Z9 (UL C.o (Z9 Z5))))))) (Z9 Z5))) (Z9 Z5))) C.o)) (Z9 Z5))) C.o)))))))
theorem Xf (T:Txt tb P w K mg base):Fu P w K mg base 1 "_law_drawn" Y2 2 []:=.mkD T.d__law_drawn fun _ _ F=>⟨Pj F T,F.b2⟩
def SW:=QS ["_law_drawer_here","_law_items"] ["_law_drawn","len"]
def VA (δ:FL.Loc) (μ:Mem):OutS:=(ZF (m2 ZL (.v 1) (.e (ZX Y2 [(mV 0),(mC Zt [(.v 1)])] [])))) δ μ
def YQ:MF:=Zu 2 (VA)
theorem R8 (F:Fd K "_law_drawn_of" "_law_drawn_of" (tp 56) f fd .none) (T:Txt tb P w K mg base):FnG P w K mg base (L2.CX P w) (1+1) f fd ["_law_drawer_here","_law_items"] (spM K mg (Zu 2 (VA)) 2):=by
 refine YW ["_law_drawer_here","_law_items"] SW F ?_;rintro X W rfl rfl rfl rfl rfl C;exact (Z6 (Zx (UL C.o (Z9 (XN C.toCs (Xf T) (Z7 C.w (Y' (C.ln T.n_len C.o))))))))
theorem V9 (T:Txt tb P w K mg base):Fu P w K mg base 2 "_law_drawn_of" YQ 2 []:=.mkD T.d__law_drawn_of fun _ _ F=>⟨R8 F T,F.b2⟩
def NW:=QS ["self","entries","is_open"] []
def Xi (δ:FL.Loc) (μ:Mem):OutS:=(Z4 (Xt at_ "added" (.v 0) (mV 1))
  (Xt at_ "is_open" (.v 0) (mV 2))) δ μ
def Y8:MF:=Zu 3 Xi
theorem MK (F:Fd K "__init__" "Segment.__init__" (Z_ 0 (tp 34)) (ZM K (pM "Segment" "__init__")) fd .none) (T:Txt tb P w K mg base):FnG P w K mg base (L2.CX P w) (0+1) (ZM K (pM "Segment" "__init__")) fd ["self","entries","is_open"] (spM K mg (Zu 3 Xi) 3):=by
 refine YW ["self","entries","is_open"] NW F ?_;rintro X W rfl rfl rfl rfl rfl C;exact (Z8 (Xk T.atts C.o C.w)
  (Z6 (Xk T.atts C.o C.w)))
theorem VL (T:Txt tb P w K mg base):ClW P w K mg base 1 "Segment" 2 [] [.pos 0,.pos 1] Y8 2 []:=by
 obtain ⟨fd,F⟩:=T.f_iSegment;exact MX T.c_Segment T.mk_Segment (MK F T) (F.bind1 fun _ _ _ _ _ _ s x us ws _ h1 h2=>match us,ws,h1,h2 with | [_,_],[],_,_=>.of_eq (by kernel_rfl)) .nil (fun _ _=>.nil) rfl rfl
def NV:=QS ["self"] ["Segment"]
def Xh (δ:FL.Loc) (μ:Mem):OutS:=(ZR (VX (ZN (m2 (WB true) (.e (Yu at_ "pieces" (.v 0))) (.e (ZQ [])))) (ZN (Yu at_ "is_open" (.e (m2 ZL (.e (Yu at_ "pieces" (.v 0))) (.e (Wm (mD (.int 1))))))))) (Xt at_ "pieces" (.v 0) (Sk (Vh (QP UE (.e (Yu at_ "pieces" (.v 0))) UM (mP (Wm (mD (.int 1))))) (XF [(YI (mkF "Segment" Y8) [.pos 0,.pos 1] [(Yu at_ "added" (.e (m2 ZL (.e (Yu at_ "pieces" (.v 0))) (.e (Wm (mD (.int 1))))))),(mD (.bl false))] [] [])]))))
  ZW) δ μ
def X1:MF:=Zu 1 Xh
theorem MJ (F:Fd K "flush" "Index.flush" (Z_ 7 (tp 52)) (ZM K (pM "Index" "flush")) fd .none) (T:Txt tb P w K mg base):FnG P w K mg base (L2.CX P w) (2+1) (ZM K (pM "Index" "flush")) fd ["self"] (spM K mg (Zu 1 Xh) 1):=by
 refine YW ["self"] NV F ?_;rintro X W rfl rfl rfl rfl rfl C;exact (Z6 (Y5 (Se (Tr (C.neNT (Z9 (Zg T.atts C.o)) (Z9 (Zy YY))) (U6 (Xl (Zg T.atts (Z9 (UL (Z9 (Zg T.atts C.o)) (Z9 (Tg Z5))))))))) (Z6 (Xk T.atts C.o (Pu (Pw (Ut (Z9 (Zg T.atts C.o)) U4 (Ww (Tg Z5))) (Ie (Y' (vR C.toCs (VL T) (by decide) (by decide +kernel) (Z7 (Zg T.atts (Z9 (UL (Z9 (Zg T.atts C.o)) (Z9 (Tg Z5))))) (Y' WY)) Te rfl rfl)))))))
  ZG))
def V8:String->String->Nat->Option MF:=Um ["Index"] "flush" 0 X1
theorem NU (T:Txt tb P w K mg base):MethR P w K mg base 3 V8:=by
 obtain ⟨fd,F⟩:=T.f_sr_flush;exact V' T.mth_flush (MJ F T) F.b1
def Vv:=QS ["_law_box"] []
def ZI (δ:FL.Loc) (μ:Mem):OutS:=(ZR (VX (ZN (m2 (WB true) (.e (m2 ZA (.v 0) (.e (mD (.str (lit "pieces")))))) (.e (ZQ [])))) (ZN (m2 ZL (.e (m2 ZL (.e (m2 ZA (.v 0) (.e (mD (.str (lit "pieces")))))) (.e (Wm (mD (.int 1)))))) (.e (mD (.int 1)))))) (XA VE (.e (m2 ZA (.v 0) (.e (mD (.str (lit "pieces")))))) (.e (Wm (mD (.int 1)))) (ZD [(m2 ZL (.e (m2 ZL (.e (m2 ZA (.v 0) (.e (mD (.str (lit "pieces")))))) (.e (Wm (mD (.int 1)))))) (.e (mD (.int 0)))),(mD (.bl false))]))
  ZW) δ μ
def ZV:MF:=Zu 1 (ZI)
theorem Ve (F:Fd K "_law_segment_flush" "_law_segment_flush" (tp 61) f fd .none) (T:Txt tb P w K mg base):FnG P w K mg base (L2.CX P w) (0+1) f fd ["_law_box"] (spM K mg (Zu 1 (ZI)) 1):=by
 refine YW ["_law_box"] Vv F ?_;rintro X W rfl rfl rfl rfl rfl C;exact (Z6 (Y5 (Se (Tr (C.neNT (Z9 (C.toCs.getD C.o (Z9 Z3) (by intro _ _; rfl))) (Z9 (Zy YY))) (U6 (Xl (UL (Z9 (UL (Z9 (C.toCs.getD C.o (Z9 Z3) (by intro _ _; rfl))) (Z9 (Tg Z5)))) (Z9 Z5)))))) (Z6 (Jv (Zr (Z7 (UL (Z9 (UL (Z9 (C.toCs.getD C.o (Z9 Z3) (by intro _ _; rfl))) (Z9 (Tg Z5)))) (Z9 Z5)) (Y' WY))) (Z9 (C.toCs.getD C.o (Z9 Z3) (by intro _ _; rfl))) (Z9 (Tg Z5))))
  ZG))
theorem Vu (T:Txt tb P w K mg base):Fu P w K mg base 1 "_law_segment_flush" ZV 1 []:=.mkD T.d__law_segment_flush fun _ _ F=>⟨Ve F T,F.b1⟩
def Kt:=QS ["value"] ["is_made_of","LETTERS","MAX_NAME"]
def Vd (δ:FL.Loc) (μ:Mem):OutS:=(ZF (ZX Zo [(mV 0),(mD (.str (lit "abcdefghijklmnopqrstuvwxyz"))),(mD (.int 12))] [])) δ μ
def V7:MF:=Zu 1 (Vd)
theorem HI (F:Fd K "is_key" "is_key" (tp 28) f fd .none) (T:Txt tb P w K mg base):FnG P w K mg base (L2.CX P w) (1+1) f fd ["value"] (spM K mg (Zu 1 (Vd)) 1):=by
 refine YW ["value"] Kt F ?_;rintro X W rfl rfl rfl rfl rfl C;exact (Z6 (Zx (XN C.toCs (Uy T) (Z7 C.w (Z7 (C.gStr (by decide +kernel) T.c_LETTERS) (Y' (C.gInt (by decide +kernel) T.c_MAX_NAME)))))))
theorem Ks (T:Txt tb P w K mg base):Fu P w K mg base 2 "is_key" V7 1 []:=.mkD T.d_is_key fun _ _ F=>⟨HI F T,F.b1⟩
def NT:=QS ["value"] ["is_key","BadKey"]
def WJ (δ:FL.Loc) (μ:Mem):OutS:=(ZR (XT (ZN (ZX V7 [(mV 0)] []))) (Y9 "BadKey" "reason" (mD (.str (lit "not a string of 1 to 12 letters"))))
  ZW) δ μ
def YE:MF:=Zu 1 (WJ)
theorem MI (F:Fd K "need_key" "need_key" (tp 43) f fd .none) (T:Txt tb P w K mg base):FnG P w K mg base (L2.CX P w) (3+1) f fd ["value"] (spM K mg (Zu 1 (WJ)) 1):=by
 refine YW ["value"] NT F ?_;rintro X W rfl rfl rfl rfl rfl C;exact (Z6 (Y5 (XS (Xl (XN C.toCs (Ks T) (Y' C.w)))) (Z6 (WM C.toCs T.x_BadKey (by decide) (by decide +kernel) Z3))
  ZG))
theorem Vc (T:Txt tb P w K mg base):Fu P w K mg base 4 "need_key" YE 1 []:=.mkD T.d_need_key fun _ _ F=>⟨MI F T,F.b1⟩
def Ph:Scope:=⟨.function,[("self",.local),("key",.cell),("need_key",.globalImplicit),("NoDocument",.globalImplicit)],false,false,[("fast",.str "self"),("fast",.str "key"),("fast",.str "other"),("fast",.str "entry")]⟩
def Xz (δ:FL.Loc) (μ:Mem):OutS:=(Z4 (W6 (ZX YE [(mV 1)] []))
  (Z4 (ZR (ZN (m2 (Vw true) (.v 1) (.e (Yu at_ "kept" (.v 0))))) (Y9 "NoDocument" "absent" (mV 1))
  ZW)
  (Xt at_ "kept" (.v 0) (Wb (BF (W4 (Yu at_ "kept" (.v 0))) (Vm 2 (XB (Zq 2) (XB (Zq 3) Vn))) (ZN (m2 (YC true) (.v 2) (.v 1))) (mV 2) (mV 3) [2,3]))))) δ μ
def Ys:MF:=Zu 4 Xz
theorem NS (F:Fd K "delete" "Index.delete" (Z_ 3 (tp 52)) (ZM K (pM "Index" "delete")) fd .none) (T:Txt tb P w K mg base):FnG P w K mg base (L2.CX P w) (4+1) (ZM K (pM "Index" "delete")) fd ["self","key"] (spM K mg (Zu 4 Xz) 2):=by
 refine YW ["self","key","other","entry"] Ph F ?_;rintro X W rfl rfl rfl rfl rfl C;exact (Z8 (Zf (XN C.toCs (Vc T) (Y' C.w)))
  (Z8 (Y5 (C.toCs.ninDT C.o (Z9 (Zg T.atts C.o))) (Z6 (UX C.toCs T.x_NoDocument (by decide) (by decide +kernel) C.w))
  ZG)
  (Z6 (Xk T.atts C.o (Vg (Cs.dc (Tx:=Txt tb) C.toCs T [("other",2),("entry",3)] (Tb (Zg T.atts C.o)) (by decide +kernel) (fun Y T1 C1=>⟨(OJ C1.calm (Ze C1.g (Ze C1.g Wx))),(VT (C1.neT C1.o C1.o)),C1.w,C1.w⟩) (by rfl)))))))
def W3:String->String->Nat->Option MF:=Um ["Index"] "delete" 1 Ys
theorem Qe (T:Txt tb P w K mg base):MethR P w K mg base 5 W3:=by
 obtain ⟨fd,F⟩:=T.f_sr_delete;exact V' T.mth_delete (NS F T) F.b2
def MH:=QS ["value"] ["isinstance","str","len","MAX_TEXT"]
def V6 (δ:FL.Loc) (μ:Mem):OutS:=(ZF (X' (mC Yc [(.v 0),(.e (mD (.ty "str")))]) (m2 Tv (.e (mC Zt [(.v 0)])) (.e (mD (.int 400)))))) δ μ
def W2:MF:=Zu 1 (V6)
theorem Kr (F:Fd K "is_text" "is_text" (tp 27) f fd .none) (T:Txt tb P w K mg base):FnG P w K mg base (L2.CX P w) (0+1) f fd ["value"] (spM K mg (Zu 1 (V6)) 1):=by
 refine YW ["value"] MH F ?_;rintro X W rfl rfl rfl rfl rfl C;exact (Z6 (Zx (WU (C.bi (by decide +kernel) T.n_isinstance (by decide +kernel) call_isi T9 (ZE C.o (Yb (Z9 (C.ty (by decide +kernel) T.n_str (by decide +kernel)))))) (Wo (zq (Z9 (C.ln T.n_len C.o)) (Z9 (C.gInt (by decide +kernel) T.c_MAX_TEXT)))))))
theorem MG (T:Txt tb P w K mg base):Fu P w K mg base 1 "is_text" W2 1 []:=.mkD T.d_is_text fun _ _ F=>⟨Kr F T,F.b1⟩
def QJ:=QS ["value","low","high"] ["isinstance","int","bool"]
def Y1 (δ:FL.Loc) (μ:Mem):OutS:=(Z4 (ZR (QT (XT (ZN (mC Yc [(.v 0),(.e (mD (.ty "int")))]))) (ZN (mC Yc [(.v 0),(.e (mD (.ty "bool")))]))) (ZF (mD (.bl false)))
  ZW)
  (ZF (X' (ON (m2 (WT false) (.v 1) (.e (mD .non))) (m2 Tv (.v 1) (.v 0))) (ON (m2 (WT false) (.v 2) (.e (mD .non))) (m2 Tv (.v 0) (.v 2)))))) δ μ
def ZO:MF:=Zu 3 (Y1)
theorem Pg (F:Fd K "is_integer" "is_integer" (tp 25) f fd .none) (T:Txt tb P w K mg base):FnG P w K mg base (L2.CX P w) (0+1) f fd ["value","low","high"] (spM K mg (Zu 3 (Y1)) 3):=by
 refine YW ["value","low","high"] QJ F ?_;rintro X W rfl rfl rfl rfl rfl C;exact (Z8 (Y5 (Se (RF (XS (Xl (C.bi (by decide +kernel) T.n_isinstance (by decide +kernel) call_isi T9 (ZE C.o (Yb (Z9 (C.ty (by decide +kernel) T.n_int (by decide +kernel)))))))) (Ts (Xl (C.bi (by decide +kernel) T.n_isinstance (by decide +kernel) call_isi T9 (ZE C.o (Yb (Z9 (C.ty (by decide +kernel) T.n_bool (by decide +kernel)))))))))) (Z6 (Zx WY))
  ZG)
  (Z6 (Zx (WU (Ek (C5 C.o (Z9 Vp)) (Wo (zq C.o C.o))) (Wo (Ek (C5 C.o (Z9 Vp)) (Wo (zq C.o C.o))))))))
theorem Ux (T:Txt tb P w K mg base):Fu P w K mg base 1 "is_integer" ZO 3 []:=.mkD T.d_is_integer fun _ _ F=>⟨Pg F T,F.b3⟩
def R7:=QS ["kind","value"] ["is_text","is_integer","GREATEST"]
def Yx (δ:FL.Loc) (μ:Mem):OutS:=(Z4 (ZR (ZN (m2 (YC false) (.v 0) (.e (mD (.str (lit "text")))))) (ZF (ZX W2 [(mV 1)] []))
  ZW)
  (ZF (X' (m2 (YC false) (.v 0) (.e (mD (.str (lit "number"))))) (ZX ZO [(mV 1),(m2 gSub (.e (mD (.int 0))) (.e (mD (.int 1000000000)))),(mD (.int 1000000000))] [])))) δ μ
def YV:MF:=Zu 2 (Yx)
theorem Rg (F:Fd K "is_value_for" "is_value_for" (tp 44) f fd .none) (T:Txt tb P w K mg base):FnG P w K mg base (L2.CX P w) (1+1) f fd ["kind","value"] (spM K mg (Zu 2 (Yx)) 2):=by
 refine YW ["kind","value"] R7 F ?_;rintro X W rfl rfl rfl rfl rfl C;exact (Z8 (Y5 (C.eqT C.o (Z9 Z3)) (Z6 (Zx (XN C.toCs (MG T) (Y' C.w))))
  ZG)
  (Z6 (Zx (WU (C.eq C.o (Z9 Z3)) (Wo (XN C.toCs (Ux T) (Z7 C.w (Z7 (Jw (Z9 Z5) (Z9 (C.gInt (by decide +kernel) T.c_GREATEST))) (Y' (C.gInt (by decide +kernel) T.c_GREATEST))))))))))
theorem R6 (T:Txt tb P w K mg base):Fu P w K mg base 2 "is_value_for" YV 2 []:=.mkD T.d_is_value_for fun _ _ F=>⟨Rg F T,F.b2⟩
def SV:=QS ["schema","field"] ["dict"]
def Yl (δ:FL.Loc) (μ:Mem):OutS:=(ZF (Rr (.e (Wb (mC UC [(.v 0)]))) (.v 1))) δ μ
def YP:MF:=Zu 2 (Yl)
theorem R5 (F:Fd K "kind_of_field" "kind_of_field" (tp 42) f fd .none) (T:Txt tb P w K mg base):FnG P w K mg base (L2.CX P w) (0+1) f fd ["schema","field"] (spM K mg (Zu 2 (Yl)) 2):=by
 refine YW ["schema","field"] SV F ?_;rintro X W rfl rfl rfl rfl rfl C;exact (Z6 (Zx (C.toCs.get1 (Z9 (Vg (C.bt (by decide +kernel) T.n_dict rfl (PB C.calm) MP (Yb C.o)))) C.o)))
theorem SU (T:Txt tb P w K mg base):Fu P w K mg base 1 "kind_of_field" YP 2 []:=.mkD T.d_kind_of_field fun _ _ F=>⟨R5 F T,F.b2⟩
def SR:Scope:=⟨.function,[("schema",.cell),("value",.local),("isinstance",.globalImplicit),("dict",.globalImplicit),("BadDocument",.globalImplicit),("all",.globalImplicit)],false,false,[("fast",.str "schema"),("fast",.str "value"),("fast",.str "name"),("fast",.str "one")]⟩
def Yw (δ:FL.Loc) (μ:Mem):Out FL.Slot:=(ZX YV [(ZX YP [(mV 0),(mV 2)] []),(mV 3)] []) δ μ
def Yk (δ:FL.Loc) (μ:Mem):OutS:=(Z4 (ZR (XT (ZN (mC Yc [(.v 1),(.e (mD (.ty "dict")))]))) (Y9 "BadDocument" "reason" (mD (.str (lit "not a dict"))))
  ZW)
  (ZR (XT (ZN (mC Tn [(.e (Tj (W4 (mV 1)) (Vm 2 (XB (Zq 2) (XB (Zq 3) Vn))) Vx Yw [2,3]))]))) (Y9 "BadDocument" "reason" (mD (.str (lit "a field or a value does not fit the schema"))))
  ZW)) δ μ
def YO:MF:=Zu 4 (Yk)
theorem R4 (F:Fd K "need_document" "need_document" (tp 45) f fd .none) (T:Txt tb P w K mg base):FnG P w K mg base (L2.CX P w) (3+1) f fd ["schema","value"] (spM K mg (Zu 4 (Yk)) 2):=by
 refine YW ["schema","value","name","one"] SR F ?_;rintro X W rfl rfl rfl rfl rfl C;exact (Z8 (Y5 (XS (Xl (C.bi (by decide +kernel) T.n_isinstance (by decide +kernel) call_isi T9 (ZE C.o (Yb (Z9 (C.ty (by decide +kernel) T.n_dict (by decide +kernel)))))))) (Z6 (WM C.toCs T.x_BadDocument (by decide) (by decide +kernel) Z3))
  ZG)
  (Z6 (Y5 (XS (Xl (C.bi (by decide +kernel) T.n_all (by decide +kernel) (cr_all C.calm) JQ (Yb (Z9 (Cs.lc (Tx:=Txt tb) C.toCs T [("name",2),("one",3)] (Tb C.w) (by decide +kernel) (fun Y T1 C1=>⟨(OJ C1.calm (Ze C1.g (Ze C1.g Wx))),T8,(XN C1 (R6 T1) (Z7 (XN C1 (SU T1) (Z7 C1.w (Y' C1.w))) (Y' C1.w)))⟩) (by rfl))))))) (Z6 (WM C.toCs T.x_BadDocument (by decide) (by decide +kernel) Z3))
  ZG)))
theorem SQ (T:Txt tb P w K mg base):Fu P w K mg base 4 "need_document" YO 2 []:=.mkD T.d_need_document fun _ _ F=>⟨R4 F T,F.b2⟩
def Rf:=QS ["text","found","run","sign"] ["WORD_SIGNS","len","MAX_WORD"]
def Xq (δ:FL.Loc) (μ:Mem):OutS:=(Z4 (ZR (ZN (m2 (To false) (.v 3) (.e (mD (.str (lit "abcdefghijklmnopqrstuvwxyz0123456789")))))) (ZK 2 (m2 ZP (.v 2) (.v 3)))
  ZW)
  (ZR (VX (ZN (m2 (YC true) (.v 2) (.e (mD (.str (lit "")))))) (QT (ZN (m2 (To true) (.v 3) (.e (mD (.str (lit "abcdefghijklmnopqrstuvwxyz0123456789")))))) (ZN (m2 (YC false) (.e (mC Zt [(.v 2)])) (.e (mD (.int 20))))))) (Z4 (W6 (VS "list" Zp (.v 1) [(mV 2)]))
  (ZK 2 (mD (.str (lit "")))))
  ZW)) δ μ
def Yi (δ:FL.Loc) (μ:Mem):OutS:=(Z4 (UN 1 2 (ZQ []) (mD (.str (lit ""))))
  (Z4 (WD (Uc (mM "str" Uv (.v 0) [])) (Zq 3) Xq)
  (ZF (Tq (ZN (m2 (YC true) (.v 2) (.e (mD (.str (lit "")))))) (m2 ZP (.v 1) (.e (ZQ [(mV 2)]))) (D6 1))))) δ μ
def YG:MF:=Zu 4 (Yi)
theorem QI (F:Fd K "split_words" "split_words" (tp 31) f fd .none) (T:Txt tb P w K mg base):FnG P w K mg base (L2.CX P w) (0+1) f fd ["text"] (spM K mg (Zu 4 (Yi)) 1):=by
 refine YW ["text","found","run","sign"] Rf F ?_;rintro X W rfl rfl rfl rfl rfl C;exact (Z8 (C.par (by decide +kernel) (by decide +kernel) (by decide) (Zy YY) Z3 (by intro env he; simp only [swappedStores,Env.blockKind,Env.kindOf,he]; rfl))
  (Z8 (Uu C.hp C.calm (VU (CZ C.o)) C.g (Z8 (Y5 (tm C.o (Z9 (C.gStr (by decide +kernel) T.c_WORD_SIGNS))) (Z6 (C.st (WC C.o C.o)))
  ZG)
  (Z6 (Y5 (Se (Tr (C.neT C.o (Z9 Z3)) (U6 (Se (RF (xq C.o (Z9 (C.gStr (by decide +kernel) T.c_WORD_SIGNS))) (Ts (C.eqT (Z9 (C.ln T.n_len C.o)) (Z9 (C.gInt (by decide +kernel) T.c_MAX_WORD))))))))) (Z8 (Zf (T6 C.o (Y' C.w)))
  (Z6 (C.st Z3)))
  ZG))))
  (Z6 (Zx (Ub (C.neT C.o (Z9 Z3)) (WC C.o (Z9 (Zy (Y' C.w)))) (D5 (C.toCs.var (by decide +kernel))))))))
theorem Rc (T:Txt tb P w K mg base):Fu P w K mg base 1 "split_words" YG 1 []:=.mkD T.d_split_words fun _ _ F=>⟨QI F T,F.b1⟩
def Kq:=QS ["self","key","document","name","value"] ["isinstance","str","tuple","split_words"]
def Xg (δ:FL.Loc) (μ:Mem):OutS:=(ZR (ZN (mC Yc [(.v 4),(.e (mD (.ty "str")))])) (XA Xs (.e (Yu at_ "field_words" (.v 0))) (.v 3) (mC WQ [(.e (ZX YG [(mV 4)] []))]))
  ZW) δ μ
def V5 (δ:FL.Loc) (μ:Mem):OutS:=(Z4 (Xt at_ "label" (.v 0) (mV 1))
  (Z4 (Xt at_ "kept_document" (.v 0) (mV 2))
  (Z4 (Xt at_ "field_words" (.v 0) (YS Xu))
  (WD (W4 (mV 2)) (Vm 2 (XB (Zq 3) (XB (Zq 4) Vn))) Xg)))) δ μ
def V4:MF:=Zu 5 V5
theorem HH (F:Fd K "__init__" "Entry.__init__" (Z_ 0 (tp 33)) (ZM K (pM "Entry" "__init__")) fd .none) (T:Txt tb P w K mg base):FnG P w K mg base (L2.CX P w) (1+1) (ZM K (pM "Entry" "__init__")) fd ["self","key","document"] (spM K mg (Zu 5 V5) 3):=by
 refine YW ["self","key","document","name","value"] Kq F ?_;rintro X W rfl rfl rfl rfl rfl C;exact (Z8 (Xk T.atts C.o C.w)
  (Z8 (Xk T.atts C.o C.w)
  (Z8 (Xk T.atts C.o (Xx Wf))
  (Z6 (Uu C.hp C.calm (Tb C.w) (OJ C.calm (Ze C.g (Ze C.g Wx))) (Z6 (Y5 (Xl (C.bi (by decide +kernel) T.n_isinstance (by decide +kernel) call_isi T9 (ZE C.o (Yb (Z9 (C.ty (by decide +kernel) T.n_str (by decide +kernel))))))) (Z6 (C.setD (C.bt (by decide +kernel) T.n_tuple (by decide +kernel) P6 P7 (Yb (Z9 (XN C.toCs (Rc T) (Y' C.w))))) (Z9 (Zg T.atts C.o)) C.o))
  ZG)))))))
theorem MD (T:Txt tb P w K mg base):ClW P w K mg base 2 "Entry" 2 [] [.pos 0,.pos 1] V4 2 []:=by
 obtain ⟨fd,F⟩:=T.f_iEntry;exact MX T.c_Entry T.mk_Entry (HH F T) (F.bind1 fun _ _ _ _ _ _ s x us ws _ h1 h2=>match us,ws,h1,h2 with | [_,_],[],_,_=>.of_eq (by kernel_rfl)) .nil (fun _ _=>.nil) rfl rfl
def Ko:=QS ["self","key","document","is_old","entry","closed","entries"] ["need_key","need_document","len","MAX_DOCUMENTS","TooMany","Entry","dict","Segment"]
def V3 (δ:FL.Loc) (μ:Mem):OutS:=(Z4 (W6 (ZX YE [(mV 1)] []))
  (Z4 (W6 (ZX YO [(Yu at_ "schema" (.v 0)),(mV 2)] []))
  (Z4 (ZK 3 (m2 (Vw false) (.v 1) (.e (Yu at_ "kept" (.v 0)))))
  (Z4 (ZR (VX (XT (ZN (mV 3))) (ZN (m2 (YC false) (.e (mC Qk [(.e (Yu at_ "kept" (.v 0)))])) (.e (mD (.int 500)))))) (Y9 "TooMany" "most" (mD (.int 500)))
  ZW)
  (Z4 (ZK 4 (YI (mkS "Entry" V4) [.pos 0,.pos 1] [(mV 1),(Wb (mC UC [(.v 2)]))] [] []))
  (Z4 (UN 5 6 (Yu at_ "pieces" (.v 0)) (ZQ []))
  (Z4 (ZR (VX (ZN (m2 (WB true) (.e (Yu at_ "pieces" (.v 0))) (.e (ZQ [])))) (ZN (Yu at_ "is_open" (.e (m2 ZL (.e (Yu at_ "pieces" (.v 0))) (.e (Wm (mD (.int 1))))))))) (UN 5 6 (QP UE (.e (Yu at_ "pieces" (.v 0))) UM (mP (Wm (mD (.int 1))))) (Yu at_ "added" (.e (m2 ZL (.e (Yu at_ "pieces" (.v 0))) (.e (Wm (mD (.int 1))))))))
  ZW)
  (Z4 (Xt at_ "pieces" (.v 0) (Sk (Vh (mV 5) (XF [(YI (mkF "Segment" Y8) [.pos 0,.pos 1] [(Sk (Vh (mV 6) (XF [(mV 4)]))),(mD (.bl true))] [] [])]))))
  (Z4 (Xt at_ "kept" (.v 0) (Wb (Px (Yu at_ "kept" (.v 0)) (mV 1) (mV 4))))
  (ZF (mV 3))))))))))) δ μ
def Xo:MF:=Zu 7 V3
theorem HG (F:Fd K "put" "Index.put" (Z_ 2 (tp 52)) (ZM K (pM "Index" "put")) fd .none) (T:Txt tb P w K mg base):FnG P w K mg base (L2.CX P w) (4+1) (ZM K (pM "Index" "put")) fd ["self","key","document"] (spM K mg (Zu 7 V3) 3):=by
 refine YW ["self","key","document","is_old","entry","closed","entries"] Ko F ?_;rintro X W rfl rfl rfl rfl rfl C;exact (Z8 (Zf (XN C.toCs (Vc T) (Y' C.w)))
  (Z8 (Zf (XN C.toCs (SQ T) (Z7 (Zg T.atts C.o) (Y' C.w))))
  (Z8 (C.st (C.toCs.inD C.o (Z9 (Zg T.atts C.o))))
  (Z8 (Y5 (Se (Tr (XS (Xl C.w)) (U6 (C.eqT (Z9 (C.bi (by decide +kernel) T.n_len PySem.boot_len Fv Cp (Yb (Z9 (Zg T.atts C.o))))) (Z9 (C.gInt (by decide +kernel) T.c_MAX_DOCUMENTS)))))) (Z6 (UX C.toCs T.x_TooMany (by decide) (by decide +kernel) (C.gInt (by decide +kernel) T.c_MAX_DOCUMENTS)))
  ZG)
  (Z8 (C.st (vc C.toCs (MD T) (by decide) (by decide +kernel) (Z7 C.w (Y' (Vg (C.bt (by decide +kernel) T.n_dict rfl (PB C.calm) MP (Yb C.o))))) Te rfl rfl))
  (Z8 (C.par (by decide +kernel) (by decide +kernel) (by decide) (Zg T.atts C.o) (Zy YY) (by intro env he; simp only [swappedStores,Env.blockKind,Env.kindOf,he]; rfl))
  (Z8 (Y5 (Se (Tr (C.neNT (Z9 (Zg T.atts C.o)) (Z9 (Zy YY))) (U6 (Xl (Zg T.atts (Z9 (UL (Z9 (Zg T.atts C.o)) (Z9 (Tg Z5))))))))) (Z6 (C.par (by decide +kernel) (by decide +kernel) (by decide) (Ut (Z9 (Zg T.atts C.o)) U4 (Ww (Tg Z5))) (Zg T.atts (Z9 (UL (Z9 (Zg T.atts C.o)) (Z9 (Tg Z5))))) (by intro env he; simp only [swappedStores,Env.blockKind,Env.kindOf,he]; rfl)))
  ZG)
  (Z8 (Xk T.atts C.o (Pu (Pw C.w (Ie (Y' (vR C.toCs (VL T) (by decide) (by decide +kernel) (Z7 (Pu (Pw C.w (Ie (Y' C.w)))) (Y' WY)) Te rfl rfl))))))
  (Z8 (Xk T.atts C.o (Vg (Ae (Zg T.atts C.o) C.w C.w)))
  (Z6 (Zx C.w)))))))))))
def SO:String->String->Nat->Option MF:=Um ["Index"] "put" 2 Xo
theorem HF (T:Txt tb P w K mg base):MethR P w K mg base 5 SO:=by
 obtain ⟨fd,F⟩:=T.f_sr_put;exact V' T.mth_put (HG F T) F.b3
def UK:=QS ["_law_box","_law_key"] []
def Zi (δ:FL.Loc) (μ:Mem):OutS:=(Z4 (ZR (QT (ZN (m2 (WB false) (.e (m2 ZA (.v 0) (.e (mD (.str (lit "pieces")))))) (.e (ZQ [])))) (XT (ZN (m2 ZL (.e (m2 ZL (.e (m2 ZA (.v 0) (.e (mD (.str (lit "pieces")))))) (.e (Wm (mD (.int 1)))))) (.e (mD (.int 1))))))) (W6 (VS "list" Zp (.e (m2 ZA (.v 0) (.e (mD (.str (lit "pieces")))))) [(ZD [(YS (ZQ [])),(mD (.bl true))])]))
  ZW)
  (Z4 (XA Xs (.v 0) (.e (mD (.str (lit "many")))) (m2 ZP (.e (m2 ZA (.v 0) (.e (mD (.str (lit "many")))))) (.e (mD (.int 1)))))
  (Z4 (W6 (VS "list" Zp (.e (m2 ZL (.e (m2 ZL (.e (m2 ZA (.v 0) (.e (mD (.str (lit "pieces")))))) (.e (Wm (mD (.int 1)))))) (.e (mD (.int 0))))) [(ZD [(mV 1),(m2 ZA (.v 0) (.e (mD (.str (lit "many")))))])]))
  (XA Xs (.e (m2 ZA (.v 0) (.e (mD (.str (lit "live")))))) (.v 1) (m2 ZA (.v 0) (.e (mD (.str (lit "many"))))))))) δ μ
def ZH:MF:=Zu 2 (Zi)
theorem Ul (F:Fd K "_law_segment_put" "_law_segment_put" (tp 59) f fd .none) (T:Txt tb P w K mg base):FnG P w K mg base (L2.CX P w) (0+1) f fd ["_law_box","_law_key"] (spM K mg (Zu 2 (Zi)) 2):=by
 refine YW ["_law_box","_law_key"] UK F ?_;rintro X W rfl rfl rfl rfl rfl C;exact (Z8 (Y5 (Se (RF (C.eqNT (Z9 (C.toCs.getD C.o (Z9 Z3) (by intro _ _; rfl))) (Z9 (Zy YY))) (Ts (XS (Xl (UL (Z9 (UL (Z9 (C.toCs.getD C.o (Z9 Z3) (by intro _ _; rfl))) (Z9 (Tg Z5)))) (Z9 Z5))))))) (Z6 (Zf (T6 (Z9 (C.toCs.getD C.o (Z9 Z3) (by intro _ _; rfl))) (Y' (Zr (Z7 (Xx (Zy YY)) (Y' WY)))))))
  ZG)
  (Z8 (C.setD (WC (Z9 (C.toCs.getD C.o (Z9 Z3) (by intro _ _; rfl))) (Z9 Z5)) C.o (Z9 Z3))
  (Z8 (Zf (T6 (Z9 (UL (Z9 (UL (Z9 (C.toCs.getD C.o (Z9 Z3) (by intro _ _; rfl))) (Z9 (Tg Z5)))) (Z9 Z5))) (Y' (Zr (Z7 C.w (Y' (C.toCs.getD C.o (Z9 Z3) (by intro _ _; rfl))))))))
  (Z6 (C.setD (C.toCs.getD C.o (Z9 Z3) (by intro _ _; rfl)) (Z9 (C.toCs.getD C.o (Z9 Z3) (by intro _ _; rfl))) C.o)))))
theorem UJ (T:Txt tb P w K mg base):Fu P w K mg base 1 "_law_segment_put" ZH 2 []:=.mkD T.d__law_segment_put fun _ _ F=>⟨Ul F T,F.b2⟩
def V2:Scope:=⟨.function,[("_law_deed",.local),("_law_caught",.local),("_law_found",.local),("error",.local),("_law_words",.local),("Invalid",.globalImplicit),("Unfit",.globalImplicit),("Excess",.globalImplicit),("isinstance",.globalImplicit),("NoDocument",.globalImplicit),("TooMany",.globalImplicit),("NoField",.globalImplicit),("WrongKind",.globalImplicit),("BadField",.globalImplicit),("BadQuery",.globalImplicit),("BadKey",.globalImplicit),("BadDocument",.globalImplicit),("BadNumber",.globalImplicit),("NoSegment",.globalImplicit),("BadChange",.globalImplicit),("BadSchema",.globalImplicit),("len",.globalImplicit)],false,false,[("fast",.str "_law_deed"),("fast",.str "_law_caught"),("fast",.str "_law_found"),("fast",.str "error"),("fast",.str "_law_words"),("fast",.str "_law_word"),("fast",.str "_law_is_so")]⟩
theorem TN:FnScope ["_law_deed","_law_caught","_law_found","error","_law_words","_law_word","_law_is_so"] ["_law_deed"] V2:=Pn (by decide +kernel)
def R3:Nat->Pos:=fun i=>match i with
 | 0=>⟨328,4,328,15⟩
 | 1=>⟨328,17,328,27⟩
 | 2=>⟨328,4,328,27⟩
 | 3=>⟨328,31,328,35⟩
 | 4=>⟨328,37,328,41⟩
 | 5=>⟨328,30,328,42⟩
 | 6=>⟨328,4,328,42⟩
 | 7=>⟨330,8,330,18⟩
 | 8=>⟨330,21,330,30⟩
 | 9=>⟨330,21,330,32⟩
 | 10=>⟨330,8,330,32⟩
 | 11=>⟨331,12,331,19⟩
 | 12=>⟨331,21,331,26⟩
 | 13=>⟨331,28,331,34⟩
 | 14=>⟨331,11,331,35⟩
 | 15=>⟨332,8,332,19⟩
 | 16=>⟨332,22,332,27⟩
 | 17=>⟨332,8,332,27⟩
 | 18=>⟨331,4,332,27⟩
 | 19=>⟨329,4,332,27⟩
 | _=>⟨0,0,0,0⟩
def SN (δ:FL.Loc) (μ:Mem):Out Bool:=(ZN (mV 6)) δ μ
def SM (δ:FL.Loc) (μ:Mem):Out FL.Slot:=(mV 5) δ μ
def R1 (δ:FL.Loc) (μ:Mem):OutS:=(Z4 (ZR (ZN (m2 (WT false) (.v 1) (.e (mD .non)))) (ZF (ZQ [(mV 2)]))
  ZW)
  (Z4 (ZR (ZN (TR X7 ["NoDocument","TooMany"] (.v 1))) (ZF (Tq (ZN (mC (Yq X7) [(.v 1),(.e (mD (.glo "NoDocument")))])) (ZD [(mD (.str (lit "absent"))),(QO ["NoDocument"] "absent" (.v 1))]) (ZD [(mD (.str (lit "many"))),(QO ["TooMany"] "most" (.v 1))])))
  ZW)
  (Z4 (ZR (ZN (TR X7 ["NoField","WrongKind"] (.v 1))) (ZF (Tq (ZN (mC (Yq X7) [(.v 1),(.e (mD (.glo "NoField")))])) (ZD [(mD (.str (lit "field"))),(QO ["NoField"] "missing" (.v 1))]) (ZD [(mD (.str (lit "kind"))),(QO ["WrongKind"] "mistaken" (.v 1))])))
  ZW)
  (Z4 (ZK 4 (ZQ [(ZD [(mD (.str (lit "bad field"))),(mC (Yq X7) [(.v 1),(.e (mD (.glo "BadField")))])]),(ZD [(mD (.str (lit "query"))),(mC (Yq X7) [(.v 1),(.e (mD (.glo "BadQuery")))])])]))
  (Z4 (ZK 4 (m2 ZP (.v 4) (.e (ZQ [(ZD [(mD (.str (lit "key"))),(mC (Yq X7) [(.v 1),(.e (mD (.glo "BadKey")))])]),(ZD [(mD (.str (lit "document"))),(mC (Yq X7) [(.v 1),(.e (mD (.glo "BadDocument")))])])]))))
  (Z4 (ZK 4 (m2 ZP (.v 4) (.e (ZQ [(ZD [(mD (.str (lit "number"))),(mC (Yq X7) [(.v 1),(.e (mD (.glo "BadNumber")))])]),(ZD [(mD (.str (lit "segment"))),(mC (Yq X7) [(.v 1),(.e (mD (.glo "NoSegment")))])])]))))
  (Z4 (ZK 4 (m2 ZP (.v 4) (.e (ZQ [(ZD [(mD (.str (lit "change"))),(mC (Yq X7) [(.v 1),(.e (mD (.glo "BadChange")))])]),(ZD [(mD (.str (lit "schema"))),(mC (Yq X7) [(.v 1),(.e (mD (.glo "BadSchema")))])])]))))
  (Z4 (ZK 2 (Tj (Uc (mV 4)) (Vm 2 (XB (Zq 5) (XB (Zq 6) Vn))) SN SM [5,6]))
  (ZF (Tq (ZN (m2 (YC false) (.e (mC Zt [(.v 2)])) (.e (mD (.int 1))))) (ZD [(m2 ZL (.v 2) (.e (mD (.int 0)))),(mD (.str (lit "")))]) (ZD [(mD (.str (lit "other"))),(mD (.str (lit "")))]))))))))))) δ μ
def ZT:(Mem->OutF)->Mem->OutF:=VM YL 3 R1
theorem XY {k:Nat} (T:Txt tb P w K mg base):Hlp P w K mg base (k+1) "_law_error_of" ZT:=by
 obtain ⟨f,fd,F,hm,hk⟩:=T.d__law_error_of;obtain ⟨C1,C2,C3,h1,h2,h3,hS⟩:=T.s__law_error_of;refine E_ (a:="_law_deed") (caught:="_law_caught") (found:="_law_found") (err:="error") (more:=["_law_words","_law_word","_law_is_so"]) (e1:="Invalid") (e2:="Unfit") (e3:="Excess") (j1:=0) (j2:=0) (kt:=0) (k2:=0) (ke:=0) (q:=R3) (rest:=(defBody (tp 57)).drop 2) (sc:=V2) F TN (by kernel_rfl) (by kernel_rfl) hm hk F.b1 (by decide +kernel) (by decide +kernel) (by decide +kernel) h1 h2 h3 hS (by decide +kernel) (by decide +kernel) (by decide +kernel) (by decide +kernel) (by decide +kernel) (by intro env he; simp only [swappedStores,Env.blockKind,Env.kindOf,he]; rfl) ?_;intro X W hP hw hK hM hB C;subst hP hw hK hM hB;exact (Z8 (Y5 (xp C.o (Z9 Vp)) (Z6 (Zx (Zy (Y' C.w))))
  ZG)
  (Z8 (Y5 (Xl (C.toCs.isXT (by decide +kernel) T.n_isinstance (by simp) (by decide) (fun d hd=>by
   simp only [List.mem_cons,List.not_mem_nil,or_false] at hd;rcases hd with rfl | rfl
   ·exact T.k_NoDocument
   ·exact T.k_TooMany) T.i_isa C.o (Z7 (C.toCs.cls (by decide +kernel) T.k_NoDocument) (Y' (C.toCs.cls (by decide +kernel) T.k_TooMany))))) (Z6 (Zx (Ub (Xl (C.bi (by decide +kernel) T.n_isinstance (by decide +kernel) XO (UD T.i_isa T.i_all) (ZE C.o (Yb (Z9 (C.toCs.cls (by decide +kernel) T.k_NoDocument)))))) (Zr (Z7 Z3 (Y' (Pm T.xf_absent C.o)))) (Zr (Z7 Z3 (Y' (Pm T.xf_most C.o)))))))
  ZG)
  (Z8 (Y5 (Xl (C.toCs.isXT (by decide +kernel) T.n_isinstance (by simp) (by decide) (fun d hd=>by
   simp only [List.mem_cons,List.not_mem_nil,or_false] at hd;rcases hd with rfl | rfl
   ·exact T.k_NoField
   ·exact T.k_WrongKind) T.i_isa C.o (Z7 (C.toCs.cls (by decide +kernel) T.k_NoField) (Y' (C.toCs.cls (by decide +kernel) T.k_WrongKind))))) (Z6 (Zx (Ub (Xl (C.bi (by decide +kernel) T.n_isinstance (by decide +kernel) XO (UD T.i_isa T.i_all) (ZE C.o (Yb (Z9 (C.toCs.cls (by decide +kernel) T.k_NoField)))))) (Zr (Z7 Z3 (Y' (Pm T.xf_missing C.o)))) (Zr (Z7 Z3 (Y' (Pm T.xf_mistaken C.o)))))))
  ZG)
  (Z8 (C.st (Zy (Z7 (Zr (Z7 Z3 (Y' (C.bi (by decide +kernel) T.n_isinstance (by decide +kernel) XO (UD T.i_isa T.i_all) (ZE C.o (Yb (Z9 (C.toCs.cls (by decide +kernel) T.k_BadField)))))))) (Y' (Zr (Z7 Z3 (Y' (C.bi (by decide +kernel) T.n_isinstance (by decide +kernel) XO (UD T.i_isa T.i_all) (ZE C.o (Yb (Z9 (C.toCs.cls (by decide +kernel) T.k_BadQuery))))))))))))
  (Z8 (C.st (WC C.o (Z9 (Zy (Z7 (Zr (Z7 Z3 (Y' (C.bi (by decide +kernel) T.n_isinstance (by decide +kernel) XO (UD T.i_isa T.i_all) (ZE C.o (Yb (Z9 (C.toCs.cls (by decide +kernel) T.k_BadKey)))))))) (Y' (Zr (Z7 Z3 (Y' (C.bi (by decide +kernel) T.n_isinstance (by decide +kernel) XO (UD T.i_isa T.i_all) (ZE C.o (Yb (Z9 (C.toCs.cls (by decide +kernel) T.k_BadDocument))))))))))))))
  (Z8 (C.st (WC C.o (Z9 (Zy (Z7 (Zr (Z7 Z3 (Y' (C.bi (by decide +kernel) T.n_isinstance (by decide +kernel) XO (UD T.i_isa T.i_all) (ZE C.o (Yb (Z9 (C.toCs.cls (by decide +kernel) T.k_BadNumber)))))))) (Y' (Zr (Z7 Z3 (Y' (C.bi (by decide +kernel) T.n_isinstance (by decide +kernel) XO (UD T.i_isa T.i_all) (ZE C.o (Yb (Z9 (C.toCs.cls (by decide +kernel) T.k_NoSegment))))))))))))))
  (Z8 (C.st (WC C.o (Z9 (Zy (Z7 (Zr (Z7 Z3 (Y' (C.bi (by decide +kernel) T.n_isinstance (by decide +kernel) XO (UD T.i_isa T.i_all) (ZE C.o (Yb (Z9 (C.toCs.cls (by decide +kernel) T.k_BadChange)))))))) (Y' (Zr (Z7 Z3 (Y' (C.bi (by decide +kernel) T.n_isinstance (by decide +kernel) XO (UD T.i_isa T.i_all) (ZE C.o (Yb (Z9 (C.toCs.cls (by decide +kernel) T.k_BadSchema))))))))))))))
  (Z8 (Cs.setLc (Tx:=Txt tb) C.toCs T [("_law_word",5),("_law_is_so",6)] (by decide +kernel) (by rfl) (by rfl) (by rfl) (by decide +kernel) (VU C.w) (by decide +kernel) (fun Y T1 C1=>⟨(OJ C1.calm (Ze C1.g (Ze C1.g Wx))),(VT (Xl C1.w)),C1.w⟩) (by rfl))
  (Z6 (Zx (Ub (C.eqT (Z9 (C.ln T.n_len C.o)) (Z9 Z5)) (Zr (Z7 (UL C.o (Z9 Z5)) (Y' Z3))) (Zr (Z7 Z3 (Y' Z3))))))))))))))
def R0:Scope:=⟨.function,[("segment",.local),("kept",.cell)],false,false,[("fast",.str "segment"),("fast",.str "kept"),("fast",.str "entry")]⟩
def YN (δ:FL.Loc) (μ:Mem):Out Bool:=(ZN (Ii ["Entry"] (Rr (.v 1) (.e (Yu at_ "label" (.v 2)))) (mV 2))) δ μ
def Yj (δ:FL.Loc) (μ:Mem):Out FL.Slot:=(mV 2) δ μ
def Yv (δ:FL.Loc) (μ:Mem):OutS:=(ZF (Tj (Uc (Yu at_ "added" (.v 0))) (Zq 2) YN Yj [2])) δ μ
def Zd:MF:=Zu 3 (Yv)
theorem Rb (F:Fd K "live_entries" "live_entries" (tp 35) f fd .none) (T:Txt tb P w K mg base):FnG P w K mg base (L2.CX P w) (0+1) f fd ["segment","kept"] (spM K mg (Zu 3 (Yv)) 2):=by
 refine YW ["segment","kept","entry"] R0 F ?_;rintro X W rfl rfl rfl rfl rfl C;exact (Z6 (Zx (Cs.lc (Tx:=Txt tb) C.toCs T [("entry",2)] (VU (Zg T.atts C.o)) (by decide +kernel) (fun Y T1 C1=>⟨C1.g,(VT (Cs.eqIT C1 T1.idc (C1.get1 C1.o (Z9 (Zg T1.atts C1.o))) C1.w)),C1.w⟩) (by rfl))))
theorem Vz (T:Txt tb P w K mg base):Fu P w K mg base 1 "live_entries" Zd 2 []:=.mkD T.d_live_entries fun _ _ F=>⟨Rb F T,F.b2⟩
def NR:=QS ["self","first","last","number","live","piece","merged"] ["is_integer","BadNumber","len","NoSegment","live_entries","Segment"]
def Zs (δ:FL.Loc) (μ:Mem):OutS:=(ZR (XT (ZN (ZX ZO [(mV 3),(mD .non),(mD .non)] []))) (Y9 "BadNumber" "reason" (mD (.str (lit "not an integer"))))
  ZW) δ μ
def Yr (δ:FL.Loc) (μ:Mem):OutS:=(W6 (VS "list" Rn (.v 4) [(ZX Zd [(mV 5),(Yu at_ "kept" (.v 0))] [])])) δ μ
def YD (δ:FL.Loc) (μ:Mem):OutS:=(Z4 (WD (Uc (ZD [(mV 1),(mV 2)])) (Zq 3) Zs)
  (Z4 (ZR (QT (XT (ZN (UW Tv Tv Nl (.e (mD (.int 0))) (.v 1) (.v 2) (.e (mC Zt [(.e (Yu at_ "pieces" (.v 0)))]))))) (ZN (Yu at_ "is_open" (.e (m2 ZL (.e (Yu at_ "pieces" (.v 0))) (.v 2)))))) (Y9 "NoSegment" "reason" (mD (.str (lit "not the numbers of closed segments in order"))))
  ZW)
  (Z4 (ZK 4 (ZQ []))
  (Z4 (WD (Uc (QP UE (.e (Yu at_ "pieces" (.v 0))) (mP (mV 1)) (mP (m2 ZP (.v 2) (.e (mD (.int 1))))))) (Zq 5) Yr)
  (Z4 (ZK 6 (Tq (ZN (m2 (WB true) (.v 4) (.e (ZQ [])))) (ZQ [(YI (mkF "Segment" Y8) [.pos 0,.pos 1] [(mV 4),(mD (.bl false))] [] [])]) (ZQ [])))
  (Xt at_ "pieces" (.v 0) (m2 ZP (.e (m2 ZP (.e (QP UE (.e (Yu at_ "pieces" (.v 0))) UM (mP (mV 1)))) (.v 6))) (.e (QP UE (.e (Yu at_ "pieces" (.v 0))) (mP (m2 ZP (.v 2) (.e (mD (.int 1))))) UM))))))))) δ μ
def Y7:MF:=Zu 7 YD
theorem MC (F:Fd K "merge" "Index.merge" (Z_ 8 (tp 52)) (ZM K (pM "Index" "merge")) fd .none) (T:Txt tb P w K mg base):FnG P w K mg base (L2.CX P w) (3+1) (ZM K (pM "Index" "merge")) fd ["self","first","last"] (spM K mg (Zu 7 YD) 3):=by
 refine YW ["self","first","last","number","live","piece","merged"] NR F ?_;rintro X W rfl rfl rfl rfl rfl C;exact (Z8 (Uu C.hp C.calm (VU (Zr (Z7 C.w (Y' C.w)))) C.g (Z6 (Y5 (XS (Xl (XN C.toCs (Ux T) (Z7 C.w (Z7 Vp (Y' Vp)))))) (Z6 (WM C.toCs T.x_BadNumber (by decide) (by decide +kernel) Z3))
  ZG)))
  (Z8 (Y5 (Se (RF (XS (E3 Nd Nc Nd Nc Bc Bb (Z9 Z5) C.o C.o (Z9 (C.ln T.n_len (Z9 (Zg T.atts C.o)))))) (Ts (Xl (Zg T.atts (Z9 (UL (Z9 (Zg T.atts C.o)) C.o))))))) (Z6 (UX C.toCs T.x_NoSegment (by decide) (by decide +kernel) Z3))
  ZG)
  (Z8 (C.st (Zy YY))
  (Z8 (Uu C.hp C.calm (VU (Ut (Z9 (Zg T.atts C.o)) (Ww C.w) (Ww (WC C.o (Z9 Z5))))) C.g (Z6 (Zf (z_ C.o (Y' (XN C.toCs (Vz T) (Z7 C.w (Y' (Zg T.atts C.o)))))))))
  (Z8 (C.st (Ub (C.neNT C.o (Z9 (Zy YY))) (Zy (Y' (vR C.toCs (VL T) (by decide) (by decide +kernel) (Z7 C.w (Y' WY)) Te rfl rfl))) (Zy YY)))
  (Z6 (Xk T.atts C.o (WC (Z9 (WC (Z9 (Ut (Z9 (Zg T.atts C.o)) U4 (Ww C.w))) C.o)) (Z9 (Ut (Z9 (Zg T.atts C.o)) (Ww (WC C.o (Z9 Z5))) U4))))))))))
def Y4:String->String->Nat->Option MF:=Um ["Index"] "merge" 2 Y7
theorem Vb (T:Txt tb P w K mg base):MethR P w K mg base 4 Y4:=by
 obtain ⟨fd,F⟩:=T.f_sr_merge;exact V' T.mth_merge (MC F T) F.b3
def Vt:Scope:=⟨.function,[("_law_box",.cell),("_law_first",.local),("_law_last",.local),("_law_rows",.local),("_law_at",.local),("range",.globalImplicit)],false,false,[("fast",.str "_law_box"),("fast",.str "_law_first"),("fast",.str "_law_last"),("fast",.str "_law_rows"),("fast",.str "_law_at"),("fast",.str "_law_row")]⟩
def YT (δ:FL.Loc) (μ:Mem):Out Bool:=(ZN (m2 (YC false) (.e (Sl (.e (m2 ZA (.v 0) (.e (mD (.str (lit "live")))))) (.e (m2 ZL (.v 5) (.e (mD (.int 0))))) (.e (Wm (mD (.int 1)))))) (.e (m2 ZL (.v 5) (.e (mD (.int 1))))))) δ μ
def Ya (δ:FL.Loc) (μ:Mem):Out FL.Slot:=(mV 5) δ μ
def Zw (δ:FL.Loc) (μ:Mem):OutS:=(ZK 3 (m2 ZP (.v 3) (.e (KJ (MO (m2 ZL (.e (m2 ZL (.e (m2 ZA (.v 0) (.e (mD (.str (lit "pieces")))))) (.v 4))) (.e (mD (.int 0))))) (Zq 5) YT Ya [5])))) δ μ
def YK (δ:FL.Loc) (μ:Mem):OutS:=(Z4 (ZK 3 (ZQ []))
  (Z4 (WD (U5 (.v 1) (.e (m2 ZP (.v 2) (.e (mD (.int 1)))))) (Zq 4) Zw)
  (XA Xs (.v 0) (.e (mD (.str (lit "pieces")))) (YS (m2 ZP (.e (m2 ZP (.e (QP UE (.e (m2 ZA (.v 0) (.e (mD (.str (lit "pieces")))))) UM (mP (mV 1)))) (.e (Tq (ZN (m2 (WB true) (.v 3) (.e (ZQ [])))) (ZQ [(ZD [(YS (D6 3)),(mD (.bl false))])]) (ZQ []))))) (.e (QP UE (.e (m2 ZA (.v 0) (.e (mD (.str (lit "pieces")))))) (mP (m2 ZP (.v 2) (.e (mD (.int 1))))) UM))))))) δ μ
def Zz:MF:=Zu 6 (YK)
theorem Va (F:Fd K "_law_segment_merge" "_law_segment_merge" (tp 60) f fd .none) (T:Txt tb P w K mg base):FnG P w K mg base (L2.CX P w) (0+1) f fd ["_law_box","_law_first","_law_last"] (spM K mg (Zu 6 (YK)) 3):=by
 refine YW ["_law_box","_law_first","_law_last","_law_rows","_law_at","_law_row"] Vt F ?_;rintro X W rfl rfl rfl rfl rfl C;exact (Z8 (C.st (Zy YY))
  (Z8 (Uu C.hp C.calm (Gw C.toCs (by decide +kernel) T.n_range (ZE C.o (Yb (Z9 (WC C.o (Z9 Z5)))))) C.g (Z6 (C.st (WC C.o (Z9 (Cs.lcM (Tx:=Txt tb) C.toCs T [("_law_row",5)] (Cg (UL (Z9 (UL (Z9 (C.toCs.getD C.o (Z9 Z3) (by intro _ _; rfl))) C.o)) (Z9 Z5))) (by decide +kernel) (fun Y T1 C1=>⟨C1.g,(VT (C1.eqT (Z9 (C1.get2 (Z9 (C1.getD C1.o (Z9 Z3) (by intro _ _; rfl))) (Z9 (UL C1.o (Z9 Z5))) (Z9 (Tg Z5)))) (Z9 (UL C1.o (Z9 Z5))))),C1.w⟩) (by rfl)))))))
  (Z6 (C.setD (Xx (WC (Z9 (WC (Z9 (Ut (Z9 (C.toCs.getD C.o (Z9 Z3) (by intro _ _; rfl))) U4 (Ww C.w))) (Z9 (Ub (C.neNT C.o (Z9 (Zy YY))) (Zy (Y' (Zr (Z7 (Xx (D5 (C.toCs.var (by decide +kernel)))) (Y' WY))))) (Zy YY))))) (Z9 (Ut (Z9 (C.toCs.getD C.o (Z9 Z3) (by intro _ _; rfl))) (Ww (WC C.o (Z9 Z5))) U4)))) C.o (Z9 Z3)))))
theorem Vs (T:Txt tb P w K mg base):Fu P w K mg base 1 "_law_segment_merge" Zz 3 []:=.mkD T.d__law_segment_merge fun _ _ F=>⟨Va F T,F.b3⟩
def Ra:=QS ["segment","kept","live"] ["len","live_entries"]
def Yg (δ:FL.Loc) (μ:Mem):OutS:=(Z4 (ZK 2 (mC Zt [(.e (ZX Zd [(mV 0),(mV 1)] []))]))
  (ZF (ZD [(mV 2),(m2 gSub (.e (mC Zt [(.e (Yu at_ "added" (.v 0)))])) (.v 2)),(Yu at_ "is_open" (.v 0))]))) δ μ
def Yf:MF:=Zu 3 (Yg)
theorem QH (F:Fd K "segment_row" "segment_row" (tp 36) f fd .none) (T:Txt tb P w K mg base):FnG P w K mg base (L2.CX P w) (1+1) f fd ["segment","kept"] (spM K mg (Zu 3 (Yg)) 2):=by
 refine YW ["segment","kept","live"] Ra F ?_;rintro X W rfl rfl rfl rfl rfl C;exact (Z8 (C.st (C.ln T.n_len (Z9 (XN C.toCs (Vz T) (Z7 C.w (Y' C.w))))))
  (Z6 (Zx (Zr (Z7 C.w (Z7 (Jw (Z9 (C.ln T.n_len (Z9 (Zg T.atts C.o)))) C.o) (Y' (Zg T.atts C.o))))))))
theorem Q_ (T:Txt tb P w K mg base):Fu P w K mg base 2 "segment_row" Yf 2 []:=.mkD T.d_segment_row fun _ _ F=>⟨QH F T,F.b2⟩
def TM:Scope:=⟨.function,[("self",.cell),("tuple",.globalImplicit)],false,false,[("fast",.str "self"),("fast",.str "piece")]⟩
def YJ (δ:FL.Loc) (μ:Mem):Out FL.Slot:=(ZX Yf [(mV 1),(Yu at_ "kept" (.v 0))] []) δ μ
def Y0 (δ:FL.Loc) (μ:Mem):OutS:=(ZF (mC WQ [(.e (Tj (Uc (Yu at_ "pieces" (.v 0))) (Zq 1) Vx YJ [1]))])) δ μ
def Zh:MF:=Zu 2 Y0
theorem SK (F:Fd K "segments" "Index.segments" (Z_ 1 (tp 52)) (ZM K (pM "Index" "segments")) fd .none) (T:Txt tb P w K mg base):FnG P w K mg base (L2.CX P w) (2+1) (ZM K (pM "Index" "segments")) fd ["self"] (spM K mg (Zu 2 Y0) 1):=by
 refine YW ["self","piece"] TM F ?_;rintro X W rfl rfl rfl rfl rfl C;exact (Z6 (Zx (C.bt (by decide +kernel) T.n_tuple (by decide +kernel) P6 P7 (Yb (Z9 (Cs.lc (Tx:=Txt tb) C.toCs T [("piece",1)] (VU (Zg T.atts C.o)) (by decide +kernel) (fun Y T1 C1=>⟨C1.g,T8,(XN C1 (Q_ T1) (Z7 C1.w (Y' (Zg T1.atts C1.o))))⟩) (by rfl)))))))
def Sj:String->String->Option MF:=fun b f=>if b = "Index" /\ f = "segments" then some Zh else none
def Zn:String->String->Option MF:=Ap GZ Sj
theorem Xe (T:Txt tb P w K mg base):PropR P w K mg base 3 Zn:=IE T.prp fun b f m h=>by
 unfold Sj at h;by_cases hc:b = "Index" /\ f = "segments"
 ·obtain ⟨rfl,rfl⟩:=hc
  rw [if_pos ⟨rfl,rfl⟩] at h;cases h;obtain ⟨fd,F⟩:=T.f_Index_segments;exact ⟨fd,_,SK F T,F.b1⟩
 ·rw [if_neg hc] at h
  cases h
def TJ:Scope:=⟨.function,[("_law_pieces",.local),("_law_live",.cell),("_law_found",.local),("_law_rows",.local),("_law_is_open",.local),("_law_many",.local),("len",.globalImplicit),("tuple",.globalImplicit)],false,false,[("fast",.str "_law_pieces"),("fast",.str "_law_live"),("fast",.str "_law_found"),("fast",.str "_law_rows"),("fast",.str "_law_is_open"),("fast",.str "_law_key"),("fast",.str "_law_number"),("fast",.str "_law_many")]⟩
def X9 (δ:FL.Loc) (μ:Mem):Out Bool:=(ZN (m2 (YC false) (.e (Sl (.v 1) (.v 6) (.e (Wm (mD (.int 1)))))) (.v 7))) δ μ
def Xn (δ:FL.Loc) (μ:Mem):Out FL.Slot:=(mD (.int 1)) δ μ
def X8 (δ:FL.Loc) (μ:Mem):OutS:=(Z4 (ZK 5 (mC Zt [(.e (KJ (MO (mV 3)) (Vm 2 (XB (Zq 6) (XB (Zq 7) Vn))) X9 Xn [6,7]))]))
  (W6 (VS "list" Zp (.v 2) [(ZD [(mV 5),(m2 gSub (.e (mC Zt [(.v 3)])) (.v 5)),(mV 4)])]))) δ μ
def XX (δ:FL.Loc) (μ:Mem):OutS:=(Z4 (ZK 2 (ZQ []))
  (Z4 (Ic (MO (mV 0)) (Vm 2 (XB (Zq 3) (XB (Zq 4) Vn))) X8)
  (ZF (mC WQ [(.v 2)])))) δ μ
def YZ:MF:=Zu 8 (XX)
theorem SJ (F:Fd K "_law_segmented" "_law_segmented" (tp 58) f fd .none) (T:Txt tb P w K mg base):FnG P w K mg base (L2.CX P w) (0+1) f fd ["_law_pieces","_law_live"] (spM K mg (Zu 8 (XX)) 2):=by
 refine YW ["_law_pieces","_law_live","_law_found","_law_rows","_law_is_open","_law_many","_law_key","_law_number"] TJ F ?_;rintro X W rfl rfl rfl rfl rfl C;exact (Z8 (C.st (Zy YY))
  (Z8 (Fh C.hp C.calm (Cg C.w) (OJ C.calm (Ze C.g (Ze C.g Wx))) (Z8 (C.st (C.ln T.n_len (Z9 (Cs.lcM (Tx:=Txt tb) C.toCs T [("_law_key",6),("_law_number",7)] (Cg C.w) (by decide +kernel) (fun Y T1 C1=>⟨(OJ C1.calm (Ze C1.g (Ze C1.g Wx))),(VT (C1.eqT (Z9 (C1.get2 C1.o C1.o (Z9 (Tg Z5)))) C1.o)),Z5⟩) (by rfl)))))
  (Z6 (Zf (T6 C.o (Y' (Zr (Z7 C.w (Z7 (Jw (Z9 (C.ln T.n_len C.o)) C.o) (Y' C.w))))))))) (by intro _; rfl) Ff)
  (Z6 (Zx (C.bt (by decide +kernel) T.n_tuple (by decide +kernel) P6 P7 (Yb C.o))))))
theorem TH (T:Txt tb P w K mg base):Fu P w K mg base 1 "_law_segmented" YZ 2 []:=.mkD T.d__law_segmented fun _ _ F=>⟨SJ F T,F.b2⟩
def Xd:Scope:=⟨.function,[("_law_drawer_here",.local),("_law_index",.cell),("_law_box",.cell),("_law_many",.local),("_law_closed",.local),("_law_is_good",.local),("_law_told",.local),("_law_first",.cell),("_law_last",.cell),("len",.globalImplicit),("_law_drawn",.globalImplicit),("range",.globalImplicit),("_law_error_of",.globalImplicit),("_law_segment_merge",.globalImplicit),("_law_segmented",.globalImplicit)],false,false,[("fast",.str "_law_drawer_here"),("fast",.str "_law_index"),("fast",.str "_law_box"),("fast",.str "_law_many"),("fast",.str "_law_at"),("fast",.str "_law_closed"),("fast",.str "_law_is_good"),("fast",.str "_law_told"),("fast",.str "_law_first"),("fast",.str "_law_last")]⟩
theorem Vr:FnScope ["_law_drawer_here","_law_index","_law_box","_law_many","_law_closed","_law_is_good","_law_told","_law_first","_law_last","_law_at"] ["_law_drawer_here","_law_index","_law_box"] Xd:=Pn (by decide +kernel)
def Zb (tb:Nat->Addr) (δ:FL.Loc) (μ:Mem):Out Bool:=(XT (ZN (m2 ZL (.e (m2 ZL (.e (m2 ZA (.v 2) (.e (mD (.str (lit "pieces")))))) (.v 9))) (.e (mD (.int 1)))))) δ μ
def Za (tb:Nat->Addr) (δ:FL.Loc) (μ:Mem):Out FL.Slot:=(mV 9) δ μ
def Yz (tb:Nat->Addr) (δ:FL.Loc) (μ:Mem):OutS:=(Z4 (ZK 3 (mC Zt [(.e (m2 ZA (.v 2) (.e (mD (.str (lit "pieces"))))))]))
  (Z4 (UN 7 8 (m2 gSub (.e (ZX Y2 [(mV 0),(m2 ZP (.v 3) (.e (mD (.int 2))))] [])) (.e (mD (.int 1)))) (m2 gSub (.e (ZX Y2 [(mV 0),(m2 ZP (.v 3) (.e (mD (.int 2))))] [])) (.e (mD (.int 1)))))
  (Z4 (ZK 4 (Tj (Xv (.v 3)) (Zq 9) (Zb tb) (Za tb) [9]))
  (Z4 (ZK 5 (X' (m2 (To false) (.v 7) (.v 4)) (X' (m2 (To false) (.v 8) (.v 4)) (m2 Tv (.v 7) (.v 8)))))
  (Z4 (ZK 6 (Wg ZT 0 (tb 0) "_law_merged_right.<locals>.<lambda>" (Zk Y4 "merge" (.v 1) [(mV 7),(mV 8)])))
  (Z4 (ZR (ZN (m2 (YC true) (.v 6) (.e (Tq (ZN (mV 5)) (ZQ [(mD .non)]) (ZD [(mD (.str (lit "segment"))),(mD (.str (lit "")))]))))) (ZF (mD (.bl false)))
  ZW)
  (Z4 (ZR (ZN (mV 5)) (W6 (ZX Zz [(mV 2),(mV 7),(mV 8)] []))
  ZW)
  (ZF (m2 (YC false) (.e (We Zn "segments" (.v 1))) (.e (ZX YZ [(m2 ZA (.v 2) (.e (mD (.str (lit "pieces"))))),(m2 ZA (.v 2) (.e (mD (.str (lit "live")))))] []))))))))))) δ μ
def Y3 (tb:Nat->Addr):MF:=Zu 10 (Yz tb)
theorem UI {f c:Addr} {fd:FuncData} (F:FdL K "_law_merged_right" "_law_merged_right" (tp 62) f fd .none c) (TB:TabB base mg c (tb 0)) (T:Txt tb P w K mg base):FnG P w K mg base (L2.CX P w) (6+1) f fd ["_law_drawer_here","_law_index","_law_box"] (spM K mg (Zu 10 (Yz tb)) 3):=by
 refine D7 (N:=["_law_drawer_here","_law_index","_law_box","_law_many","_law_closed","_law_is_good","_law_told","_law_first","_law_last","_law_at"]) (sc:=Xd) (q:="_law_merged_right.<locals>.<lambda>") F TB Vr (by kernel_rfl) rfl (fun _=>by kernel_rfl) ?_;intro X W hP hw hK hM hB C;subst hP hw hK hM hB;exact (Z8 (C.st (C.ln T.n_len (Z9 (C.toCs.getD C.o (Z9 Z3) (by intro _ _; rfl)))))
  (Z8 (C.parT (by decide +kernel) (by decide +kernel) (Jw (Z9 (XN C.toCs (Xf T) (Z7 C.w (Y' (WC C.o (Z9 Z5)))))) (Z9 Z5)) (Jw (Z9 (XN C.toCs (Xf T) (Z7 C.w (Y' (WC C.o (Z9 Z5)))))) (Z9 Z5)) (by intro env he; simp only [swappedStores,Env.blockKind,Env.kindOf,he]; rfl))
  (Z8 (Cs.setLc (Tx:=Txt tb) C.toCs T [("_law_at",9)] (by decide +kernel) (by rfl) (by rfl) (by rfl) (by decide +kernel) (P1 C.toCs (by decide +kernel) T.n_range (Yb C.o)) (by decide +kernel) (fun Y T1 C1=>⟨C1.g,(VT (XS (Xl (UL (Z9 (UL (Z9 (C1.getD C1.o (Z9 Z3) (by intro _ _; rfl))) C1.o)) (Z9 Z5))))),C1.w⟩) (by rfl))
  (Z8 (C.st (WU (zp C.o C.o) (WU (zp C.o C.o) (Wo (zq C.o C.o)))))
  (Z8 (C.st (C.lam0 (kh:=4) (XY T) (by decide) (by decide +kernel) (by decide +kernel) (C.body (Tx:=(Txt tb)) T (fun Y V TL CL=>(Cs.meth CL (MethR.ok (Vb TL)) (by decide) CL.o (Z7 CL.w (Y' CL.w)))))))
  (Z8 (Y5 (C.neT C.o (Z9 (Ub (Xl C.w) (Zy (Y' Vp)) (Zr (Z7 Z3 (Y' Z3)))))) (Z6 (Zx WY))
  ZG)
  (Z8 (Y5 (Xl C.w) (Z6 (Zf (XN C.toCs (Vs T) (Z7 C.w (Z7 C.w (Y' C.w))))))
  ZG)
  (Z6 (Zx (C.eq (Z9 (C.toCs.prop (PropR.ok (Xe T)) (by decide) C.o)) (Z9 (XN C.toCs (TH T) (Z7 (C.toCs.getD C.o (Z9 Z3) (by intro _ _; rfl)) (Y' (C.toCs.getD C.o (Z9 Z3) (by intro _ _; rfl))))))))))))))))
theorem U' (T:Txt tb P w K mg base):Fu P w K mg base 7 "_law_merged_right" (Y3 tb) 3 []:=by
 obtain ⟨c,f,fd,F,TB,hm,hk⟩:=T.d__law_merged_right;exact Fu.mk0 (UI F TB T) hm hk F.fd.b3
def Q9:=QS ["self","key"] ["need_key","NoDocument","dict"]
def Ye (δ:FL.Loc) (μ:Mem):OutS:=(Z4 (W6 (ZX YE [(mV 1)] []))
  (Z4 (ZR (ZN (m2 (Vw true) (.v 1) (.e (Yu at_ "kept" (.v 0))))) (Y9 "NoDocument" "absent" (mV 1))
  ZW)
  (ZF (mC UC [(.e (Yu at_ "kept_document" (.e (m2 Ws (.e (Yu at_ "kept" (.v 0))) (.v 1)))))])))) δ μ
def Yd:MF:=Zu 2 Ye
theorem QG (F:Fd K "document" "View.document" (Z_ 4 (tp 46)) (ZM K (pM "View" "document")) fd .none) (T:Txt tb P w K mg base):FnG P w K mg base (L2.CX P w) (4+1) (ZM K (pM "View" "document")) fd ["self","key"] (spM K mg (Zu 2 Ye) 2):=by
 refine YW ["self","key"] Q9 F ?_;rintro X W rfl rfl rfl rfl rfl C;exact (Z8 (Zf (XN C.toCs (Vc T) (Y' C.w)))
  (Z8 (Y5 (C.toCs.ninDT C.o (Z9 (Zg T.atts C.o))) (Z6 (UX C.toCs T.x_NoDocument (by decide) (by decide +kernel) C.w))
  ZG)
  (Z6 (Zx (C.bt (by decide +kernel) T.n_dict rfl (PB C.calm) MP (Yb (Z9 (Zg T.atts (Z9 (C.toCs.getF (Z9 (Zg T.atts C.o)) C.o (by intro _ _; rfl)))))))))))
def U_:String->String->Nat->Option MF:=Um ["Index"] "document" 1 Yd
theorem NQ (T:Txt tb P w K mg base):MethR P w K mg base 5 U_:=by
 obtain ⟨fd,F⟩:=T.f_sr_document;exact V' T.mth_document (QG F T) F.b2
def Wr:Scope:=⟨.function,[("_law_drawer_here",.local),("_law_index",.cell),("_law_kept",.local),("_law_told",.local),("_law_odd",.cell),("_law_drawn_of",.globalImplicit),("_law_error_of",.globalImplicit)],false,false,[]⟩
theorem Uk:FnScope ["_law_drawer_here","_law_index","_law_kept","_law_told","_law_odd"] ["_law_drawer_here","_law_index"] Wr:=Pn (by decide +kernel)
def XW (tb:Nat->Addr) (δ:FL.Loc) (μ:Mem):OutS:=(Z4 (ZK 4 (ZX YQ [(mV 0),(ZQ [(mD .non),(mD (.bl true)),(mD (.str (lit "0"))),(ZD [(mD (.int 0))]),(ZQ []),(Wb Xu),(mD (.bl false))])] []))
  (Z4 (ZK 2 (We Zn "segments" (.v 1)))
  (Z4 (ZK 3 (ZQ [(Wg ZT 1 (tb 1) "_law_odd_right.<locals>.<lambda>" (Zk Y4 "merge" (.v 1) [(mV 4),(mD (.int 0))])),(Wg ZT 1 (tb 1) "_law_odd_right.<locals>.<lambda>" (Zk Y4 "merge" (.v 1) [(mD (.int 99)),(mV 4)]))]))
  (Z4 (W6 (VS "list" Zp (.v 3) [(Wg ZT 1 (tb 1) "_law_odd_right.<locals>.<lambda>" (Zk Y4 "merge" (.v 1) [(mV 4),(mV 4)]))]))
  (ZF (X' (m2 (YC false) (.v 3) (.e (m2 VD (.e (ZQ [(ZD [(mD (.str (lit "number"))),(mD (.str (lit "")))])])) (.e (mD (.int 3)))))) (m2 (YC false) (.e (We Zn "segments" (.v 1))) (.v 2)))))))) δ μ
def XU (tb:Nat->Addr):MF:=Zu 5 (XW tb)
theorem SI {f c:Addr} {fd:FuncData} (F:FdL K "_law_odd_right" "_law_odd_right" (tp 63) f fd .none c) (TB:TabB base mg c (tb 1)) (T:Txt tb P w K mg base):FnG P w K mg base (L2.CX P w) (6+1) f fd ["_law_drawer_here","_law_index"] (spM K mg (Zu 5 (XW tb)) 2):=by
 refine D7 (N:=["_law_drawer_here","_law_index","_law_kept","_law_told","_law_odd"]) (sc:=Wr) (q:="_law_odd_right.<locals>.<lambda>") F TB Uk (by kernel_rfl) rfl (fun _=>by kernel_rfl) ?_;intro X W hP hw hK hM hB C;subst hP hw hK hM hB;exact (Z8 (C.st (XN C.toCs (V9 T) (Z7 C.w (Y' (Zy (Z7 Vp (Z7 WY (Z7 Z3 (Z7 (Zr (Y' Z5)) (Z7 (Zy YY) (Z7 (Vg Wf) (Y' WY))))))))))))
  (Z8 (C.st (C.toCs.prop (PropR.ok (Xe T)) (by decide) C.o))
  (Z8 (C.st (Zy (Z7 (C.lam0 (kh:=4) (XY T) (by decide) (by decide +kernel) (by decide +kernel) (C.body (Tx:=(Txt tb)) T (fun Y V TL CL=>(Cs.meth CL (MethR.ok (Vb TL)) (by decide) CL.o (Z7 CL.w (Y' Z5)))))) (Y' (C.lam1 (kh:=4) (XY T) (by decide) (by decide +kernel) (by decide +kernel) (C.body (Tx:=(Txt tb)) T (fun Y V TL CL=>(Cs.meth CL (MethR.ok (Vb TL)) (by decide) CL.o (Z7 Z5 (Y' CL.w))))) (by decide +kernel))))))
  (Z8 (Zf (T6 C.o (Y' (C.lam0 (kh:=4) (XY T) (by decide) (by decide +kernel) (by decide +kernel) (C.body (Tx:=(Txt tb)) T (fun Y V TL CL=>(Cs.meth CL (MethR.ok (Vb TL)) (by decide) CL.o (Z7 CL.w (Y' CL.w)))))))))
  (Z6 (Zx (WU (C.eq C.o (Z9 (C9 (Z9 (Zy (Y' (Zr (Z7 Z3 (Y' Z3)))))) (Z9 Z5)))) (Wo (C.eq (Z9 (C.toCs.prop (PropR.ok (Xe T)) (by decide) C.o)) C.o)))))))))
theorem TF (T:Txt tb P w K mg base):Fu P w K mg base 7 "_law_odd_right" (XU tb) 2 []:=by
 obtain ⟨c,f,fd,F,TB,hm,hk⟩:=T.d__law_odd_right;exact Fu.mk0 (SI F TB T) hm hk F.fd.b2
def B5:Scope:=⟨.function,[("_law_script",.local),("_law_k",.local),("_law_drawer_here",.local),("_law_index",.cell),("_law_texts",.cell),("_law_box",.local),("_law_turn",.local),("_law_key",.local),("_law_way",.local),("range",.globalImplicit),("max",.globalImplicit),("min",.globalImplicit),("len",.globalImplicit),("_law_drawer",.globalImplicit),("Index",.globalImplicit),("_law_drawn_of",.globalImplicit),("_law_drawn",.globalImplicit),("_law_segment_flush",.globalImplicit),("str",.globalImplicit),("_law_segment_put",.globalImplicit),("_law_merged_right",.globalImplicit),("_law_odd_right",.globalImplicit)],false,false,[("fast",.str "_law_script"),("fast",.str "_law_k"),("fast",.str "_law_drawer_here"),("fast",.str "_law_index"),("fast",.str "_law_texts"),("fast",.str "_law_box"),("fast",.str "_law_turn"),("fast",.str "_law_key"),("fast",.str "_law_way")]⟩
def Uj (tb:Nat->Addr) (δ:FL.Loc) (μ:Mem):Out Bool:=(ZN (m2 (Uo true) (.e (Zk U_ "document" (.v 3) [(mV 7)])) (.e (UA [(.s (lit "t"),(m2 Ws (.v 4) (.v 7)))])))) δ μ
def SH (tb:Nat->Addr) (δ:FL.Loc) (μ:Mem):Out FL.Slot:=(mV 7) δ μ
def SE (tb:Nat->Addr) (δ:FL.Loc) (μ:Mem):OutS:=(Z4 (UN 7 8 (ZX YQ [(mV 2),(mD (.str (lit "klmoq")))] []) (ZX Y2 [(mV 2),(mD (.int 8))] []))
  (Z4 (ZR (ZN (m2 Nl (.v 8) (.e (mD (.int 2))))) (Z4 (W6 (Zk V8 "flush" (.v 3) []))
  (W6 (ZX ZV [(mV 5)] [])))
  (ZR (VX (ZN (m2 (YC false) (.v 8) (.e (mD (.int 2))))) (ZN (m2 (Vw false) (.v 7) (.e (m2 ZA (.v 5) (.e (mD (.str (lit "live"))))))))) (Z4 (W6 (Zk W3 "delete" (.v 3) [(mV 7)]))
  (W6 (Ol (.e (m2 ZA (.v 5) (.e (mD (.str (lit "live")))))) (mV 7))))
  (ZR (ZN (m2 Nl (.v 8) (.e (mD (.int 6))))) (Z4 (XA Xs (.v 4) (.v 7) (m2 ZP (.e (mD (.str (lit "v")))) (.e (mC Qn [(.v 6)]))))
  (Z4 (W6 (Zk SO "put" (.v 3) [(mV 7),(Wb (UA [(.s (lit "t"),(m2 Ws (.v 4) (.v 7)))]))]))
  (W6 (ZX ZH [(mV 5),(mV 7)] []))))
  (ZR (XT (ZN (ZX (Y3 tb) [(mV 2),(mV 3),(mV 5)] []))) (ZF (mD (.bl false)))
  ZW))))
  (ZR (ZN (m2 (WB true) (.e (Ku (m2 ZA (.v 5) (.e (mD (.str (lit "live"))))) (Tj (Ta (m2 ZA (.v 5) (.e (mD (.str (lit "live")))))) (Zq 7) (Uj tb) (SH tb) [7]))) (.e (ZQ [])))) (ZF (mD (.bl false)))
  ZW))) δ μ
def SA (tb:Nat->Addr) (δ:FL.Loc) (μ:Mem):OutS:=(Z4 (JJ (Vm 3 (XB (Zq 2) (XB (Zq 3) (XB (Zq 4) Vn)))) (ZD [(ZX XM [(mV 0),(mV 1)] []),(YI (mkS "Index" Ym) [.pos 0] [(MR [(ZD [(mD (.str (lit "t"))),(mD (.str (lit "text")))])])] [] []),(YS Xu)]))
  (Z4 (ZK 5 (YS (UA [(.s (lit "pieces"),(YS (ZQ []))),(.s (lit "live"),(YS Xu)),(.s (lit "many"),(mD (.int 0)))])))
  (Z4 (WD (Xv (.e (mD (.int 16)))) (Zq 6) (SE tb))
  (ZR (XT (ZN (ZX (XU tb) [(mV 2),(mV 3)] []))) (ZF (mD (.bl false)))
  ZW)))) δ μ
def LD (tb:Nat->Addr) (δ:FL.Loc) (μ:Mem):OutS:=(Z4 (WD (Xv (.e (mC So [(.e (mD (.int 1))),(.e (mC T_ [(.e (mD (.int 3))),(.e (mC Zt [(.v 0)]))]))]))) (Zq 1) (SA tb))
  (Z4 (ZK 3 (YI (mkS "Index" Ym) [.pos 0] [(MR [(ZD [(mD (.str (lit "t"))),(mD (.str (lit "text")))])])] [] []))
  (Z4 (W6 (Zk SO "put" (.v 3) [(mD (.str (lit "k"))),(Wb Xu)]))
  (Z4 (W6 (Zk V8 "flush" (.v 3) []))
  (Z4 (W6 (Zk W3 "delete" (.v 3) [(mD (.str (lit "k")))]))
  (ZF (X' (m2 (YC false) (.e (We Zn "segments" (.v 3))) (.e (ZD [(ZD [(mD (.int 0)),(mD (.int 1)),(mD (.bl false))])]))) (X' (m2 (WT false) (.e (Zk Y4 "merge" (.v 3) [(mD (.int 0)),(mD (.int 0))])) (.e (mD .non))) (m2 (YC false) (.e (We Zn "segments" (.v 3))) (.e (ZD []))))))))))) δ μ
def NP (tb:Nat->Addr):MF:=Zu 9 (LD tb)
theorem z0 (F:Fd K "law" "law" (tp 64) f fd .none) (T:Txt tb P w K mg base):FnG P w K mg base (L2.CX P w) (7+1) f fd ["_law_script"] (spM K mg (Zu 9 (LD tb)) 1):=by
 refine YW ["_law_script","_law_k","_law_drawer_here","_law_index","_law_texts","_law_box","_law_turn","_law_key","_law_way"] B5 F ?_;rintro X W rfl rfl rfl rfl rfl C;exact (Z8 (Uu C.hp C.calm (P1 C.toCs (by decide +kernel) T.n_range (Yb (Z9 (C.bi (by decide +kernel) T.n_max (by decide +kernel) (call_max2 C.calm) Dr (ZE (Z9 Z5) (Yb (Z9 (C.bi (by decide +kernel) T.n_min (by decide +kernel) (call_min2 C.calm) Dq (ZE (Z9 Z5) (Yb (Z9 (C.ln T.n_len C.o)))))))))))) C.g (Z8 (Cs.asgT C.toCs (Zr (Z7 (XN C.toCs (Rl T) (Z7 C.w (Y' C.w))) (Z7 (vc C.toCs (Rh T) (by decide) (by decide +kernel) (Y' (Io (Y' (Zr (Z7 Z3 (Y' Z3)))))) Te rfl rfl) (Y' (Xx Wf))))) (OJ C.calm (Ze C.g (Ze C.g (Ze C.g Wx)))) (by intro env he; simp only [swappedStores,Env.blockKind,Env.kindOf,he]; rfl))
  (Z8 (C.st (Xx (Pr (N2 (Xx (Zy YY)) (N2 (Xx Wf) (N2 Z5 JPs.nil))) (by simp) (by decide))))
  (Z8 (Uu C.hp C.calm (P1 C.toCs (by decide +kernel) T.n_range (Yb (Z9 Z5))) C.g (Z8 (C.par (by decide +kernel) (by decide +kernel) (by decide) (XN C.toCs (V9 T) (Z7 C.w (Y' Z3))) (XN C.toCs (Xf T) (Z7 C.w (Y' Z5))) (by intro env he; simp only [swappedStores,Env.blockKind,Env.kindOf,he]; rfl))
  (Z8 (Y5 (xr C.o (Z9 Z5)) (Z8 (Zf (Cs.meth0 C.toCs (MethR.ok (NU T)) (by decide) C.o))
  (Z6 (Zf (XN C.toCs (Vu T) (Y' C.w)))))
  (Z6 (Y5 (Se (Tr (C.eqT C.o (Z9 Z5)) (U6 (C.toCs.inDT C.o (Z9 (C.toCs.getD C.o (Z9 Z3) (by intro _ _; rfl))))))) (Z8 (Zf (Cs.meth C.toCs (MethR.ok (Qe T)) (by decide) C.o (Y' C.w)))
  (Z6 (Zf (Ay (Z9 (C.toCs.getD C.o (Z9 Z3) (by intro _ _; rfl))) C.w))))
  (Z6 (Y5 (xr C.o (Z9 Z5)) (Z8 (C.setD (WC (Z9 Z3) (Z9 (C.bt (by decide +kernel) T.n_str (by decide +kernel) call_str_int CA (Yb C.o)))) C.o C.o)
  (Z8 (Zf (Cs.meth C.toCs (MethR.ok (HF T)) (by decide) C.o (Z7 C.w (Y' (Vg (Pr (N2 (C.toCs.getF C.o C.o (by intro _ _; rfl)) JPs.nil) (by simp) (by decide)))))))
  (Z6 (Zf (XN C.toCs (UJ T) (Z7 C.w (Y' C.w)))))))
  (Z6 (Y5 (XS (Xl (XN C.toCs (U' T) (Z7 C.w (Z7 C.w (Y' C.w)))))) (Z6 (Zx WY))
  ZG)))))))
  (Z6 (Y5 (C.neNT (Z9 (B6 (m2 ZA (.v 5) (.e (mD (.str (lit "live"))))) (Cs.lc (Tx:=Txt tb) C.toCs T [("_law_key",7)] (HM (C.toCs.getD C.o (Z9 Z3) (by intro _ _; rfl))) (by decide +kernel) (fun Y T1 C1=>⟨C1.g,(VT (C1.neDT (Z9 (Cs.meth C1 (MethR.ok (NQ T1)) (by decide) C1.o (Y' C1.w))) (Z9 (Pr (N2 (C1.getF C1.o C1.o (by intro _ _; rfl)) JPs.nil) (by simp) (by decide))))),C1.w⟩) (by rfl)))) (Z9 (Zy YY))) (Z6 (Zx WY))
  ZG)))))
  (Z6 (Y5 (XS (Xl (XN C.toCs (TF T) (Z7 C.w (Y' C.w))))) (Z6 (Zx WY))
  ZG))))))
  (Z8 (C.st (vc C.toCs (Rh T) (by decide) (by decide +kernel) (Y' (Io (Y' (Zr (Z7 Z3 (Y' Z3)))))) Te rfl rfl))
  (Z8 (Zf (Cs.meth C.toCs (MethR.ok (HF T)) (by decide) C.o (Z7 Z3 (Y' (Vg Wf)))))
  (Z8 (Zf (Cs.meth0 C.toCs (MethR.ok (NU T)) (by decide) C.o))
  (Z8 (Zf (Cs.meth C.toCs (MethR.ok (Qe T)) (by decide) C.o (Y' Z3)))
  (Z6 (Zx (WU (C.eq (Z9 (C.toCs.prop (PropR.ok (Xe T)) (by decide) C.o)) (Z9 (Zr (Y' (Zr (Z7 Z5 (Z7 Z5 (Y' WY)))))))) (WU (C5 (Z9 (Cs.meth C.toCs (MethR.ok (Vb T)) (by decide) C.o (Z7 Z5 (Y' Z5)))) (Z9 Vp)) (Wo (C.eq (Z9 (C.toCs.prop (PropR.ok (Xe T)) (by decide) C.o)) (Z9 (Zr YY)))))))))))))
def Q8:Nat->Pos:=fun i=>match i with
 | 0=>⟨25,8,25,13⟩
 | 1=>⟨25,8,25,15⟩
 | 2=>⟨25,8,25,24⟩
 | 3=>⟨25,25,25,31⟩
 | 4=>⟨25,8,25,32⟩
 | 5=>⟨25,8,25,32⟩
 | 6=>⟨26,8,26,12⟩
 | 7=>⟨26,8,26,19⟩
 | 8=>⟨26,22,26,28⟩
 | 9=>⟨26,8,26,28⟩
 | _=>⟨0,0,0,0⟩
def Q7:Scope:=⟨.function,[("self",.local),("reason",.local),("__class__",.free),("super",.globalImplicit)],false,false,[]⟩
theorem RZ:SupS PySem.Challenge.pw_findlang_k36_merges (Z_ 0 (tp 6)) "self" "reason" "reason" Q8 Q7:=⟨by kernel_rfl,by kernel_rfl,⟨_,rfl,rfl⟩,by kernel_rfl,fun _ _ _ _=>⟨_,fun _=>rfl⟩,fun _ _ _ _ _=>rfl,fun _ _ _ _ _=>rfl,rfl,rfl,rfl,by decide +kernel,by decide +kernel,by decide +kernel,by decide +kernel,by decide +kernel,by decide +kernel,⟨by decide +kernel,by decide +kernel⟩,⟨by decide +kernel,by decide +kernel⟩⟩
def Kn:Nat->Pos:=fun i=>match i with
 | 0=>⟨10,8,10,13⟩
 | 1=>⟨10,8,10,15⟩
 | 2=>⟨10,8,10,24⟩
 | 3=>⟨10,25,10,31⟩
 | 4=>⟨10,8,10,32⟩
 | 5=>⟨10,8,10,32⟩
 | 6=>⟨11,8,11,12⟩
 | 7=>⟨11,8,11,19⟩
 | 8=>⟨11,22,11,28⟩
 | 9=>⟨11,8,11,28⟩
 | _=>⟨0,0,0,0⟩
def Km:Scope:=⟨.function,[("self",.local),("reason",.local),("__class__",.free),("super",.globalImplicit)],false,false,[]⟩
theorem MB:SupS PySem.Challenge.pw_findlang_k36_merges (Z_ 0 (tp 3)) "self" "reason" "reason" Kn Km:=⟨by kernel_rfl,by kernel_rfl,⟨_,rfl,rfl⟩,by kernel_rfl,fun _ _ _ _=>⟨_,fun _=>rfl⟩,fun _ _ _ _ _=>rfl,fun _ _ _ _ _=>rfl,rfl,rfl,rfl,by decide +kernel,by decide +kernel,by decide +kernel,by decide +kernel,by decide +kernel,by decide +kernel,⟨by decide +kernel,by decide +kernel⟩,⟨by decide +kernel,by decide +kernel⟩⟩
def Pf:Nat->Pos:=fun i=>match i with
 | 0=>⟨35,8,35,13⟩
 | 1=>⟨35,8,35,15⟩
 | 2=>⟨35,8,35,24⟩
 | 3=>⟨35,25,35,31⟩
 | 4=>⟨35,8,35,32⟩
 | 5=>⟨35,8,35,32⟩
 | 6=>⟨36,8,36,12⟩
 | 7=>⟨36,8,36,19⟩
 | 8=>⟨36,22,36,28⟩
 | 9=>⟨36,8,36,28⟩
 | _=>⟨0,0,0,0⟩
def Pe:Scope:=⟨.function,[("self",.local),("reason",.local),("__class__",.free),("super",.globalImplicit)],false,false,[]⟩
theorem QF:SupS PySem.Challenge.pw_findlang_k36_merges (Z_ 0 (tp 8)) "self" "reason" "reason" Pf Pe:=⟨by kernel_rfl,by kernel_rfl,⟨_,rfl,rfl⟩,by kernel_rfl,fun _ _ _ _=>⟨_,fun _=>rfl⟩,fun _ _ _ _ _=>rfl,fun _ _ _ _ _=>rfl,rfl,rfl,rfl,by decide +kernel,by decide +kernel,by decide +kernel,by decide +kernel,by decide +kernel,by decide +kernel,⟨by decide +kernel,by decide +kernel⟩,⟨by decide +kernel,by decide +kernel⟩⟩
def Pd:Nat->Pos:=fun i=>match i with
 | 0=>⟨20,8,20,13⟩
 | 1=>⟨20,8,20,15⟩
 | 2=>⟨20,8,20,24⟩
 | 3=>⟨20,25,20,31⟩
 | 4=>⟨20,8,20,32⟩
 | 5=>⟨20,8,20,32⟩
 | 6=>⟨21,8,21,12⟩
 | 7=>⟨21,8,21,19⟩
 | 8=>⟨21,22,21,28⟩
 | 9=>⟨21,8,21,28⟩
 | _=>⟨0,0,0,0⟩
def Pb:Scope:=⟨.function,[("self",.local),("reason",.local),("__class__",.free),("super",.globalImplicit)],false,false,[]⟩
theorem QE:SupS PySem.Challenge.pw_findlang_k36_merges (Z_ 0 (tp 5)) "self" "reason" "reason" Pd Pb:=⟨by kernel_rfl,by kernel_rfl,⟨_,rfl,rfl⟩,by kernel_rfl,fun _ _ _ _=>⟨_,fun _=>rfl⟩,fun _ _ _ _ _=>rfl,fun _ _ _ _ _=>rfl,rfl,rfl,rfl,by decide +kernel,by decide +kernel,by decide +kernel,by decide +kernel,by decide +kernel,by decide +kernel,⟨by decide +kernel,by decide +kernel⟩,⟨by decide +kernel,by decide +kernel⟩⟩
def QD:Nat->Pos:=fun i=>match i with
 | 0=>⟨57,8,57,13⟩
 | 1=>⟨57,8,57,15⟩
 | 2=>⟨57,8,57,24⟩
 | 3=>⟨57,25,57,31⟩
 | 4=>⟨57,8,57,32⟩
 | 5=>⟨57,8,57,32⟩
 | 6=>⟨58,8,58,12⟩
 | 7=>⟨58,8,58,19⟩
 | 8=>⟨58,22,58,28⟩
 | 9=>⟨58,8,58,28⟩
 | _=>⟨0,0,0,0⟩
def QC:Scope:=⟨.function,[("self",.local),("absent",.local),("__class__",.free),("super",.globalImplicit)],false,false,[]⟩
theorem Q6:SupS PySem.Challenge.pw_findlang_k36_merges (Z_ 0 (tp 13)) "self" "absent" "absent" QD QC:=⟨by kernel_rfl,by kernel_rfl,⟨_,rfl,rfl⟩,by kernel_rfl,fun _ _ _ _=>⟨_,fun _=>rfl⟩,fun _ _ _ _ _=>rfl,fun _ _ _ _ _=>rfl,rfl,rfl,rfl,by decide +kernel,by decide +kernel,by decide +kernel,by decide +kernel,by decide +kernel,by decide +kernel,⟨by decide +kernel,by decide +kernel⟩,⟨by decide +kernel,by decide +kernel⟩⟩
def Pa:Nat->Pos:=fun i=>match i with
 | 0=>⟨62,8,62,13⟩
 | 1=>⟨62,8,62,15⟩
 | 2=>⟨62,8,62,24⟩
 | 3=>⟨62,25,62,31⟩
 | 4=>⟨62,8,62,32⟩
 | 5=>⟨62,8,62,32⟩
 | 6=>⟨63,8,63,12⟩
 | 7=>⟨63,8,63,19⟩
 | 8=>⟨63,22,63,28⟩
 | 9=>⟨63,8,63,28⟩
 | _=>⟨0,0,0,0⟩
def O_:Scope:=⟨.function,[("self",.local),("reason",.local),("__class__",.free),("super",.globalImplicit)],false,false,[]⟩
theorem QB:SupS PySem.Challenge.pw_findlang_k36_merges (Z_ 0 (tp 14)) "self" "reason" "reason" Pa O_:=⟨by kernel_rfl,by kernel_rfl,⟨_,rfl,rfl⟩,by kernel_rfl,fun _ _ _ _=>⟨_,fun _=>rfl⟩,fun _ _ _ _ _=>rfl,fun _ _ _ _ _=>rfl,rfl,rfl,rfl,by decide +kernel,by decide +kernel,by decide +kernel,by decide +kernel,by decide +kernel,by decide +kernel,⟨by decide +kernel,by decide +kernel⟩,⟨by decide +kernel,by decide +kernel⟩⟩
def MA:Nat->Pos:=fun i=>match i with
 | 0=>⟨69,8,69,13⟩
 | 1=>⟨69,8,69,15⟩
 | 2=>⟨69,8,69,24⟩
 | 3=>⟨69,25,69,29⟩
 | 4=>⟨69,8,69,30⟩
 | 5=>⟨69,8,69,30⟩
 | 6=>⟨70,8,70,12⟩
 | 7=>⟨70,8,70,17⟩
 | 8=>⟨70,20,70,24⟩
 | 9=>⟨70,8,70,24⟩
 | _=>⟨0,0,0,0⟩
def Mz:Scope:=⟨.function,[("self",.local),("most",.local),("__class__",.free),("super",.globalImplicit)],false,false,[]⟩
theorem NO:SupS PySem.Challenge.pw_findlang_k36_merges (Z_ 0 (tp 16)) "self" "most" "most" MA Mz:=⟨by kernel_rfl,by kernel_rfl,⟨_,rfl,rfl⟩,by kernel_rfl,fun _ _ _ _=>⟨_,fun _=>rfl⟩,fun _ _ _ _ _=>rfl,fun _ _ _ _ _=>rfl,rfl,rfl,rfl,by decide +kernel,by decide +kernel,by decide +kernel,by decide +kernel,by decide +kernel,by decide +kernel,⟨by decide +kernel,by decide +kernel⟩,⟨by decide +kernel,by decide +kernel⟩⟩
end L36
namespace FL.Ix
open PySem L2 FL
def Yn (δ:FL.Loc) (μ:Mem):OutS:=(ZF (ZX S.Zo [(mV 0),(mD (.str (lit "abcdefghijklmnopqrstuvwxyz"))),(mD (.int 12))] [])) δ μ
def YR:MF:=Zu 1 (Yn)
def X4 (δ:FL.Loc) (μ:Mem):OutS:=(Z4 (ZR (QT (XT (ZN (mC Yc [(.v 0),(.e (mD (.ty "tuple")))]))) (QT (ZN (m2 (YC true) (.e (mC Zt [(.v 0)])) (.e (mD (.int 2))))) (XT (ZN (ZX YR [(m2 ZL (.v 0) (.e (mD (.int 0))))] []))))) (ZF (mD (.bl false)))
  ZW)
  (ZF (X' (mC Yc [(.e (m2 ZL (.v 0) (.e (mD (.int 1))))),(.e (mD (.ty "str")))]) (m2 (To false) (.e (m2 ZL (.v 0) (.e (mD (.int 1))))) (.e (mD (.tup ([lit "text",lit "number"].map .str)))))))) δ μ
def Yy:MF:=Zu 1 (X4)
def X3 (δ:FL.Loc) (μ:Mem):Out FL.Slot:=(ZX Yy [(mV 1)] []) δ μ
def X2 (δ:FL.Loc) (μ:Mem):Out FL.Slot:=(mV 2) δ μ
def XJ (δ:FL.Loc) (μ:Mem):OutS:=(Z4 (ZR (QT (XT (ZN (mC Yc [(.v 0),(.e (mD (.ty "tuple")))]))) (XT (ZN (Vk Tv Tv (.e (mD (.int 1))) (.e (mC Zt [(.v 0)])) (.e (mD (.int 6))))))) (Y9 "BadSchema" "reason" (mD (.str (lit "not a tuple of 1 to 6 pairs"))))
  ZW)
  (Z4 (ZR (XT (ZN (mC Tn [(.e (Tj (Uc (mV 0)) (Zq 1) Vx X3 [1]))]))) (Y9 "BadSchema" "reason" (mD (.str (lit "not pairs of a field name and a kind"))))
  ZW)
  (ZR (ZN (m2 Nl (.e (mC Qh [(.e (Tj (Uc (mV 0)) (Vm 2 (XB (Zq 2) (XB (Zq 3) Vn))) Vx X2 [2,3]))])) (.e (mC Zt [(.v 0)])))) (Y9 "BadSchema" "reason" (mD (.str (lit "a field name occurs twice"))))
  ZW))) δ μ
def YF:MF:=Zu 4 (XJ)
def UT (at_:String->String->Att) (δ:FL.Loc) (μ:Mem):OutS:=(Z4 (Xt at_ "schema" (.v 0) (mV 1))
  (Xt at_ "kept" (.v 0) (Wb Xu))) δ μ
def US (at_:String->String->Att):MF:=Zu 2 (UT at_)
def V_ (at_:String->String->Att) (δ:FL.Loc) (μ:Mem):OutS:=(Z4 (W6 (ZX YF [(mV 1)] []))
  (Z4 (Rz "Index" (US at_) [(mV 1)])
  (Xt at_ "pieces" (.v 0) (ZQ [])))) δ μ
def Ym (at_:String->String->Att):MF:=Zu 2 (V_ at_)
def Vd (δ:FL.Loc) (μ:Mem):OutS:=(ZF (ZX S.Zo [(mV 0),(mD (.str (lit "abcdefghijklmnopqrstuvwxyz"))),(mD (.int 12))] [])) δ μ
def V7:MF:=Zu 1 (Vd)
def WJ (δ:FL.Loc) (μ:Mem):OutS:=(ZR (XT (ZN (ZX V7 [(mV 0)] []))) (Y9 "BadKey" "reason" (mD (.str (lit "not a string of 1 to 12 letters"))))
  ZW) δ μ
def YE:MF:=Zu 1 (WJ)
def V6 (δ:FL.Loc) (μ:Mem):OutS:=(ZF (X' (mC Yc [(.v 0),(.e (mD (.ty "str")))]) (m2 Tv (.e (mC Zt [(.v 0)])) (.e (mD (.int 400)))))) δ μ
def W2:MF:=Zu 1 (V6)
def Y1 (δ:FL.Loc) (μ:Mem):OutS:=(Z4 (ZR (QT (XT (ZN (mC Yc [(.v 0),(.e (mD (.ty "int")))]))) (ZN (mC Yc [(.v 0),(.e (mD (.ty "bool")))]))) (ZF (mD (.bl false)))
  ZW)
  (ZF (X' (ON (m2 (WT false) (.v 1) (.e (mD .non))) (m2 Tv (.v 1) (.v 0))) (ON (m2 (WT false) (.v 2) (.e (mD .non))) (m2 Tv (.v 0) (.v 2)))))) δ μ
def ZO:MF:=Zu 3 (Y1)
def Yx (δ:FL.Loc) (μ:Mem):OutS:=(Z4 (ZR (ZN (m2 (YC false) (.v 0) (.e (mD (.str (lit "text")))))) (ZF (ZX W2 [(mV 1)] []))
  ZW)
  (ZF (X' (m2 (YC false) (.v 0) (.e (mD (.str (lit "number"))))) (ZX ZO [(mV 1),(m2 gSub (.e (mD (.int 0))) (.e (mD (.int 1000000000)))),(mD (.int 1000000000))] [])))) δ μ
def YV:MF:=Zu 2 (Yx)
def Yl (δ:FL.Loc) (μ:Mem):OutS:=(ZF (Rr (.e (Wb (mC UC [(.v 0)]))) (.v 1))) δ μ
def YP:MF:=Zu 2 (Yl)
def Yw (δ:FL.Loc) (μ:Mem):Out FL.Slot:=(ZX YV [(ZX YP [(mV 0),(mV 2)] []),(mV 3)] []) δ μ
def Yk (δ:FL.Loc) (μ:Mem):OutS:=(Z4 (ZR (XT (ZN (mC Yc [(.v 1),(.e (mD (.ty "dict")))]))) (Y9 "BadDocument" "reason" (mD (.str (lit "not a dict"))))
  ZW)
  (ZR (XT (ZN (mC Tn [(.e (Tj (W4 (mV 1)) (Vm 2 (XB (Zq 2) (XB (Zq 3) Vn))) Vx Yw [2,3]))]))) (Y9 "BadDocument" "reason" (mD (.str (lit "a field or a value does not fit the schema"))))
  ZW)) δ μ
def YO:MF:=Zu 4 (Yk)
def Xg (at_:String->String->Att) (δ:FL.Loc) (μ:Mem):OutS:=(ZR (ZN (mC Yc [(.v 4),(.e (mD (.ty "str")))])) (XA Xs (.e (Yu at_ "field_words" (.v 0))) (.v 3) (mC WQ [(.e (ZX S.YG [(mV 4)] []))]))
  ZW) δ μ
def V5 (at_:String->String->Att) (δ:FL.Loc) (μ:Mem):OutS:=(Z4 (Xt at_ "label" (.v 0) (mV 1))
  (Z4 (Xt at_ "kept_document" (.v 0) (mV 2))
  (Z4 (Xt at_ "field_words" (.v 0) (YS Xu))
  (WD (W4 (mV 2)) (Vm 2 (XB (Zq 3) (XB (Zq 4) Vn))) (Xg at_))))) δ μ
def V4 (at_:String->String->Att):MF:=Zu 5 (V5 at_)
def Xi (at_:String->String->Att) (δ:FL.Loc) (μ:Mem):OutS:=(Z4 (Xt at_ "added" (.v 0) (mV 1))
  (Xt at_ "is_open" (.v 0) (mV 2))) δ μ
def Y8 (at_:String->String->Att):MF:=Zu 3 (Xi at_)
def V3 (at_:String->String->Att) (r1:MS) (δ:FL.Loc) (μ:Mem):OutS:=(Z4 (W6 (ZX YE [(mV 1)] []))
  (Z4 (W6 (ZX YO [(Yu at_ "schema" (.v 0)),(mV 2)] []))
  (Z4 (ZK 3 (m2 (Vw false) (.v 1) (.e (Yu at_ "kept" (.v 0)))))
  (Z4 (ZR (VX (XT (ZN (mV 3))) (ZN (m2 (YC false) (.e (mC Qk [(.e (Yu at_ "kept" (.v 0)))])) (.e (mD (.int 500)))))) r1
  ZW)
  (Z4 (ZK 4 (YI (mkS "Entry" (V4 at_)) [.pos 0,.pos 1] [(mV 1),(Wb (mC UC [(.v 2)]))] [] []))
  (Z4 (UN 5 6 (Yu at_ "pieces" (.v 0)) (ZQ []))
  (Z4 (ZR (VX (ZN (m2 (WB true) (.e (Yu at_ "pieces" (.v 0))) (.e (ZQ [])))) (ZN (Yu at_ "is_open" (.e (m2 ZL (.e (Yu at_ "pieces" (.v 0))) (.e (Wm (mD (.int 1))))))))) (UN 5 6 (QP UE (.e (Yu at_ "pieces" (.v 0))) UM (mP (Wm (mD (.int 1))))) (Yu at_ "added" (.e (m2 ZL (.e (Yu at_ "pieces" (.v 0))) (.e (Wm (mD (.int 1))))))))
  ZW)
  (Z4 (Xt at_ "pieces" (.v 0) (Sk (Vh (mV 5) (XF [(YI (mkF "Segment" (Y8 at_)) [.pos 0,.pos 1] [(Sk (Vh (mV 6) (XF [(mV 4)]))),(mD (.bl true))] [] [])]))))
  (Z4 (Xt at_ "kept" (.v 0) (Wb (Px (Yu at_ "kept" (.v 0)) (mV 1) (mV 4))))
  (ZF (mV 3))))))))))) δ μ
def Xo (at_:String->String->Att) (r1:MS):MF:=Zu 7 (V3 at_ r1)
def Xh (at_:String->String->Att) (δ:FL.Loc) (μ:Mem):OutS:=(ZR (VX (ZN (m2 (WB true) (.e (Yu at_ "pieces" (.v 0))) (.e (ZQ [])))) (ZN (Yu at_ "is_open" (.e (m2 ZL (.e (Yu at_ "pieces" (.v 0))) (.e (Wm (mD (.int 1))))))))) (Xt at_ "pieces" (.v 0) (Sk (Vh (QP UE (.e (Yu at_ "pieces" (.v 0))) UM (mP (Wm (mD (.int 1))))) (XF [(YI (mkF "Segment" (Y8 at_)) [.pos 0,.pos 1] [(Yu at_ "added" (.e (m2 ZL (.e (Yu at_ "pieces" (.v 0))) (.e (Wm (mD (.int 1))))))),(mD (.bl false))] [] [])]))))
  ZW) δ μ
def X1 (at_:String->String->Att):MF:=Zu 1 (Xh at_)
def Xz (at_:String->String->Att) (r1:MS) (δ:FL.Loc) (μ:Mem):OutS:=(Z4 (W6 (ZX YE [(mV 1)] []))
  (Z4 (ZR (ZN (m2 (Vw true) (.v 1) (.e (Yu at_ "kept" (.v 0))))) r1
  ZW)
  (Xt at_ "kept" (.v 0) (Wb (BF (W4 (Yu at_ "kept" (.v 0))) (Vm 2 (XB (Zq 2) (XB (Zq 3) Vn))) (ZN (m2 (YC true) (.v 2) (.v 1))) (mV 2) (mV 3) [2,3]))))) δ μ
def Ys (at_:String->String->Att) (r1:MS):MF:=Zu 4 (Xz at_ r1)
def YN (at_:String->String->Att) (δ:FL.Loc) (μ:Mem):Out Bool:=(ZN (Ii ["Entry"] (Rr (.v 1) (.e (Yu at_ "label" (.v 2)))) (mV 2))) δ μ
def Yj (δ:FL.Loc) (μ:Mem):Out FL.Slot:=(mV 2) δ μ
def Yv (at_:String->String->Att) (δ:FL.Loc) (μ:Mem):OutS:=(ZF (Tj (Uc (Yu at_ "added" (.v 0))) (Zq 2) (YN at_) Yj [2])) δ μ
def Zd (at_:String->String->Att):MF:=Zu 3 ((Yv at_))
def Yg (at_:String->String->Att) (δ:FL.Loc) (μ:Mem):OutS:=(Z4 (ZK 2 (mC Zt [(.e (ZX (Zd at_) [(mV 0),(mV 1)] []))]))
  (ZF (ZD [(mV 2),(m2 gSub (.e (mC Zt [(.e (Yu at_ "added" (.v 0)))])) (.v 2)),(Yu at_ "is_open" (.v 0))]))) δ μ
def Yf (at_:String->String->Att):MF:=Zu 3 ((Yg at_))
def YJ (at_:String->String->Att) (δ:FL.Loc) (μ:Mem):Out FL.Slot:=(ZX (Yf at_) [(mV 1),(Yu at_ "kept" (.v 0))] []) δ μ
def Y0 (at_:String->String->Att) (δ:FL.Loc) (μ:Mem):OutS:=(ZF (mC WQ [(.e (Tj (Uc (Yu at_ "pieces" (.v 0))) (Zq 1) Vx (YJ at_) [1]))])) δ μ
def Zh (at_:String->String->Att):MF:=Zu 2 (Y0 at_)
def Ye (at_:String->String->Att) (r1:MS) (δ:FL.Loc) (μ:Mem):OutS:=(Z4 (W6 (ZX YE [(mV 1)] []))
  (Z4 (ZR (ZN (m2 (Vw true) (.v 1) (.e (Yu at_ "kept" (.v 0))))) r1
  ZW)
  (ZF (mC UC [(.e (Yu at_ "kept_document" (.e (m2 Ws (.e (Yu at_ "kept" (.v 0))) (.v 1)))))])))) δ μ
def Yd (at_:String->String->Att) (r1:MS):MF:=Zu 2 (Ye at_ r1)
end FL.Ix
namespace FL
def u7:D->Option (List D)
 | .fx .df ks ds=>some (VP (ks.zip ds))
 | _=>none
section
variable {δ : FL.Loc} {μ : Mem} {m md mk mv ma mb : ME} {oo ob oc : Opn} {ms : List ME} {ml : MM (List D)} {cs : List String} {i : Nat}
@[simp] theorem u6:Wb m δ μ=(m δ μ).bind fun s δ1 μ1=>match s with | .own (.dct ks ds)=>if ks.length=ds.length then .ok (.fr (.dcf ks ds)) δ1 μ1 else .bad | _=>.bad:=rfl
@[simp] theorem uZ:W4 m δ μ=(m δ μ).bind fun s δ1 μ1=>match u7 s.d with | some ds=>.ok ds δ1 μ1 | none=>.bad:=by
 unfold W4;congr 1;funext s δ1 μ1;generalize s.d=d;cases d <;> first | rfl | skip
 rename_i b ks ds
 cases b <;> rfl
@[simp] theorem uY:MR ms δ μ=(XF ms δ μ).bind fun ds δ1 μ1=>if ds.length<=16777216 then .ok (.fr (.rc ds)) δ1 μ1 else .bad:=rfl
@[simp] theorem yh:Sk ml δ μ=(ml δ μ).bind fun ds δ1 μ1=>if ds.length<=16777216 then .ok (.own (.lst ds)) δ1 μ1 else .bad:=rfl
@[simp] theorem zZ:Vh m ml δ μ=(m δ μ).bind fun s δ1 μ1=>match Uq s.d with | some xs=>(ml δ1 μ1).bind fun ds δ2 μ2=>.ok (xs++ds) δ2 μ2 | none=>.bad:=rfl
@[simp] theorem yg:Rr oo ob δ μ=(oo.ev δ μ).bind fun ra δ1 μ1=>match ra.at δ1 μ1 with
 | some d0=>if VB d0=true then (ob.ev δ1 μ1).bind fun rb δ2 μ2=>match ra.at δ2 μ2,rb.at δ2 μ2 with
   | some da,some db=>lift (Sm da db) δ2 μ2
   | _,_=>.bad
   else .bad
 | none=>.bad:=rfl
@[simp] theorem uX:Ii cs ma mb δ μ=(ma δ μ).bind fun sa δ1 μ1=>(mb δ1 μ1).bind fun sb δ2 μ2=>match Ag cs μ2 sa.d sb.d with
 | some r=>.ok (.fr (.bl r)) δ2 μ2
 | none=>.bad:=rfl
@[simp] theorem zY {b:FxM} {ks:List DK} {xs:List D} {μ:Mem}:look μ (.fx b ks xs)=some (.fx b ks xs):=rfl
end
theorem V1:∀ kds:List (DK×D),(kds.map (·.1)).zip (kds.map (·.2))=kds
 | []=>rfl
 | p :: r=>by
   simp only [List.map_cons,List.zip_cons_cons];rw [V1 r]
theorem Q5:∀ (kds acc:List (DK×D)),((acc++kds).map (·.1)).Nodup->FL.mergeA acc kds=acc++kds
 | [],acc,_=>by simp [FL.mergeA]
 | p :: r,acc,h=>by
   have hn:(acc.any fun q=>decide (q.1=p.1))=false:=by
    rw [List.any_eq_false];intro q hq;simp only [decide_eq_true_eq];intro e;simp only [List.map_append,List.map_cons,List.nodup_append] at h;exact h.2.2 q.1 (List.mem_map_of_mem hq) p.1 (List.mem_cons_self) e
   have e:FL.mergeA acc (p :: r)=FL.mergeA (acc++[p]) r:=by
    simp [FL.mergeA,YH,hn]
   rw [e,Q5 r (acc++[p]) (by simpa using h)];simp
theorem Q4 {kds:List (DK×D)} (h:(kds.map (·.1)).Nodup):FL.mergeA [] kds=kds:=by
 simpa using Q5 kds [] (by simpa using h)
theorem zX {a b:Tx}:(decide ((DK.s a)=DK.s b))=decide (a=b):=by
 by_cases h:a=b
 ·subst h; simp
 ·have : ¬ (DK.s a)=DK.s b:=fun z=>h (DK.s.inj z)
  simp [h]
theorem O9 {α:Type} {f:α->Tx} {g:α->D} {l:List α} {c:Tx}:YA (l.map fun q=>((.s (f q):DK),g q)) (.s c)=(l.find? fun q=>decide (f q=c)).map g:=by
 unfold YA;rw [List.find?_map];have:((fun p:DK×D=>decide (p.1 = .s c))∘fun q:α=>((.s (f q):DK),g q))=fun q=>decide (f q=c):=by
  funext q;exact zX
 rw [this,Option.map_map];rfl
theorem HE {α:Type} {f:α->Tx} {g:α->D} {l:List α} (h:(l.map f).Nodup):((l.map fun q=>((.s (f q):DK),g q)).map (·.1)).Nodup:=by
 rw [List.map_map];have:((fun (p:DK×D)=>p.1)∘fun q:α=>((.s (f q):DK),g q))=(fun a:Tx=>DK.s a)∘f:=rfl;rw [this,← List.map_map];exact List.Pairwise.map _ (fun a b hab z=>hab (DK.s.inj z)) h
end FL
namespace FL.Ix
open PySem L2 FL
structure IA (at_:String->String->Att):Prop where
 s:at_ "Index" "schema" = .fld
 k:at_ "Index" "kept" = .fld
 p:at_ "Index" "pieces" = .fld
 sa:at_ "Segment" "added" = .fld
 so:at_ "Segment" "is_open" = .fld
 el:at_ "Entry" "label" = .fld
 ed:at_ "Entry" "kept_document" = .fld
 ew:at_ "Entry" "field_words" = .fld
abbrev zW:Tx:=lit "abcdefghijklmnopqrstuvwxyz"
def Ky (k:Tx):Prop:=Made k zW 12
instance {k : Tx} : Decidable (Ky k) := inferInstanceAs (Decidable (Made k zW 12))
section
variable {μ : Mem} {k : Tx}
theorem Ky.len (h:Ky k):k.length<=12:=by
 obtain ⟨_,h2,_⟩:=h;omega
theorem LC (h:Ky k):S.Zo [.str k,.str zW,.int 12] μ = .ok (.fr (.bl true)) μ:=by
 have e:=made_str (x:=k) (s:=zW) (n:=12) (μ:=μ) (by have:=h.len; omega);rw [decide_eq_true (show Made k zW 12 from h)] at e;exact e
theorem isKey (h:Ky k):V7 [.str k] μ = .ok (.fr (.bl true)) μ:=by
 simp [V7,Vd,ZZ,LC h]
theorem TC (h:Ky k):YE [.str k] μ = .ok (.fr .non) μ:=by
 simp [YE,WJ,ZZ,isKey h]
theorem fieldName (h:Ky k):YR [.str k] μ = .ok (.fr (.bl true)) μ:=by
 simp [YR,Yn,ZZ,LC h]
abbrev NM:=List (Tx×Tx)
def Xm (sc:NM):D:=.rc (sc.map fun p=>.tup [.str p.1,.str p.2])
@[simp] theorem zV {sc:NM} {μ:Mem}:look μ (Xm sc)=some (Xm sc):=rfl
structure SchOk (sc:NM):Prop where
 n1:1<=sc.length
 n2:sc.length<=6
 nm:∀ p∈sc,Ky p.1/\(p.2=lit "text" \/ p.2=lit "number")
 nod:(sc.map (·.1)).Nodup
theorem B4 {b:Tx} (h:b=lit "text" \/ b=lit "number"):To false (.str b) (.tup ([lit "text",lit "number"].map .str))=some (.fr (.bl true)):=by
 rcases h with rfl | rfl <;> rfl
theorem fieldRow {a b:Tx} (h1:Ky a) (h2:b=lit "text" \/ b=lit "number"):Yy [.tup [.str a,.str b]] μ = .ok (.fr (.bl true)) μ:=by
 have a1:Yc [.tup [.str a,.str b],.ty "tuple"]=some (.fr (.bl true)):=by rfl
 have a2:Zt [.tup [.str a,.str b]]=some (.fr (.int 2)):=by rfl
 have a3:YC true (.int 2) (.int 2)=some (.fr (.bl false)):=by rfl
 have a4:ZL (.tup [.str a,.str b]) (.int 0)=some (.fr (.str a)):=by rfl
 have a5:ZL (.tup [.str a,.str b]) (.int 1)=some (.fr (.str b)):=by rfl
 have a6:Yc [.str b,.ty "str"]=some (.fr (.bl true)):=by rfl
 have a7:=B4 h2;simp only [List.map_cons,List.map_nil] at a7;simp [Yy,X4,ZZ,a1,a2,a3,a4,a5,a6,a7,fieldName h1]
theorem E1 (xs:List Tx):(xs.map D.str).all IG=true:=by
 induction xs with
 | nil=>rfl
 | cons x xs ih=>rw [List.map_cons,List.all_cons,ih]; rfl
end
end FL.Ix
namespace FL.Ix
open PySem L2 FL
theorem NL:∀ (xs acc:List Tx),(∀ x∈xs,x∉acc)->xs.Nodup->(xs.foldl N_ acc).length=acc.length+xs.length
 | [],acc,_,_=>rfl
 | x :: xs,acc,h,n=>by
   have n1:=List.nodup_cons.mp n;have e:N_ acc x=x :: acc:=if_neg (h x List.mem_cons_self);rw [List.foldl_cons,e,NL xs (x :: acc) (fun y hy z=>by
    rcases List.mem_cons.mp z with z | z
    ·exact n1.1 (z▸hy)
    ·exact h y (List.mem_cons_of_mem _ hy) z) n1.2,List.length_cons,List.length_cons]
   omega
theorem Q3 {α:Type}:∀ {l:List (Tx×α)} {p:Tx×α},(l.map (·.1)).Nodup->p∈l->l.find? (fun q=>decide (q.1=p.1))=some p
 | [],p,_,h=>by cases h
 | q :: r,p,n,h=>by
   rw [List.map_cons,List.nodup_cons] at n;rcases List.mem_cons.mp h with rfl | h
   ·simp
   ·have ne : ¬ q.1=p.1:=fun e=>n.1 (e▸List.mem_map_of_mem h)
    rw [List.find?_cons_of_neg (by simpa using ne)];exact Q3 n.2 h
section
variable {μ : Mem} {k : Tx} {sc : NM}
theorem Qd:∀ sc:NM,Vi (sc.map fun p=>.tup [.str p.1,.str p.2])=some (sc.map fun p=>(.s p.1,.str p.2))
 | []=>rfl
 | p :: r=>by
   rw [List.map_cons];unfold Vi;rw [Qd r];rfl
theorem HD (h:SchOk sc):UC [Xm sc]=some (.own (Zl (sc.map fun p=>(.s p.1,.str p.2)))):=by
 have e:PD [Xm sc]=some (.own (Zl (sc.map fun p=>(.s p.1,.str p.2)))):=by
  show (Vi _).map _=_;rw [Qd,Option.map_some,Q4 (HE h.nod)]
 unfold UC;rw [e];rfl
theorem My (h:SchOk sc):YF [Xm sc] μ = .ok (.fr .non) μ:=by
 have h1:=h.n1;have h2:=h.n2;have a1:Yc [Xm sc,.ty "tuple"]=some (.fr (.bl true)):=by rfl
 have a2:Zt [Xm sc]=some (.fr (.int sc.length)):=by simp [Zt,W7,Xm]
 have t1:G4 (Xm sc)=some (sc.map fun p=>.tup [.str p.1,.str p.2]):=by rfl
 have c1:=Xr (f:=Zq 1) (t:=Vx) (m:=X3) (vs:=[1]) (δ:=[some (.fr (Xm sc)),none,none,none]) (μ:=μ) (fun _=>some (.bl true)) (ds:=sc.map fun p=>.tup [.str p.1,.str p.2]) (acc:=[]) (fun d hd=>by
  obtain ⟨p,hp,rfl⟩:=List.mem_map.mp hd;simp [PL,X3,fieldRow (h.nm p hp).1 (h.nm p hp).2]) (by simp; omega)
 have c2:=Xr (f:=Vm 2 (XB (Zq 2) (XB (Zq 3) Vn))) (t:=Vx) (m:=X2) (vs:=[2,3]) (δ:=[some (.fr (Xm sc)),none,none,none]) (μ:=μ) (fun d=>match d with | .tup [.str a,_]=>some (.str a) | _=>none) (ds:=sc.map fun p=>.tup [.str p.1,.str p.2]) (acc:=[]) (fun d hd=>by
  obtain ⟨p,hp,rfl⟩:=List.mem_map.mp hd;simp [PL,X2]) (by simp; omega)
 have r1:(sc.map fun p=>D.tup [.str p.1,.str p.2]).filterMap (fun _=>some (D.bl true))=(sc.map fun _=>true).map .bl:=by
  rw [List.filterMap_map,List.map_map,← List.filterMap_eq_map]; rfl
 have r2:(sc.map fun p=>D.tup [.str p.1,.str p.2]).filterMap (fun d=>match d with | .tup [.str a,_]=>some (D.str a) | _=>none)=(sc.map (·.1)).map .str:=by
  rw [List.filterMap_map,List.map_map,← List.filterMap_eq_map]; rfl
 rw [r1,List.nil_append] at c1;rw [r2,List.nil_append] at c2;have a5:Tn [.lst ((sc.map fun _=>true).map .bl)]=some (.fr (.bl true)):=by
  simp only [Tn,RS,Option.map_some];have:(sc.map fun _=>true).all id=true:=by simp
  rw [this]
 have a6:Qh [.lst ((sc.map (·.1)).map .str)]=some (.fr (.int sc.length)):=by
  have e:((sc.map (·.1)).map D.str).map MY=sc.map (·.1):=by rw [List.map_map]; exact List.map_congr_left (fun _ _=>rfl) |>.trans (List.map_id _)
  show (if _ then _ else _)=_;rw [if_pos ⟨E1 _,by simp; omega⟩,e,NL _ [] (by simp) h.nod];simp
 have i1:(1:Int)<=sc.length:=by omega
 have i2:(sc.length:Int)<=6:=by omega
 have a7:Nl (.int sc.length) (.int sc.length)=some (.fr (.bl false)):=by simp
 generalize List.map D.bl (List.map (fun _=>true) sc)=L1 at c1 a5;generalize List.map D.str (List.map (·.1) sc)=L2 at c2 a6;simp [YF,XJ,ZZ,a1,a2,t1,c1,c2,a5,a6,i1,i2]
def kindOf (sc:NM) (f:Tx):D:=((sc.find? fun p=>decide (p.1=f)).map fun p=>.str p.2).getD .non
theorem Kl {f:Tx} (h:SchOk sc):YP [Xm sc,.str f] μ = .ok (.fr (kindOf sc f)) μ:=by
 have e2:Sm (.dcf ((sc.map fun p=>((.s p.1:DK),D.str p.2)).map (·.1)) ((sc.map fun p=>((.s p.1:DK),D.str p.2)).map (·.2))) (.str f)=some (.fr (kindOf sc f)):=by
  simp only [Sm,YB,Option.bind_some,Yo,Option.map_some];rw [V1,O9];rfl
 have e:=HD h;unfold Zl at e;generalize hA:(sc.map fun p=>((.s p.1:DK),D.str p.2)).map (·.1)=A at e e2;generalize hB:(sc.map fun p=>((.s p.1:DK),D.str p.2)).map (·.2)=B at e e2;have hl:A.length=B.length:=by rw [← hA,← hB]; simp
 simp [YP,Yl,ZZ,e,e2,VB,YB,hl]
theorem Kk (h:SchOk sc) {p:Tx×Tx} (hp:p∈sc):kindOf sc p.1 = .str p.2:=by
 unfold kindOf;rw [Q3 h.nod hp];rfl
inductive VOk:Tx->D->Prop
 | t {x:Tx} (a:∀ c∈x,c < 128) (l:x.length<=400):VOk (lit "text") (.str x)
 | n {i:Int} (a : -1000000000<=i) (b:i<=1000000000):VOk (lit "number") (.int i)
theorem B3 {q:Tx} {v:D} (h:VOk q v):YV [.str q,v] μ = .ok (.fr (.bl true)) μ:=by
 have n1:decide (lit "number" = lit "text")=false:=by decide
 cases h with
 | @t x a l =>
   have l':(x.length:Int)<=400:=by omega
   have l2:x.length<=16777216:=by omega
   have e:W2 [.str x] μ = .ok (.fr (.bl true)) μ:=by
    simp [W2,V6,ZZ,TX,Zt,W7,l2,l']
   unfold YV Yx;generalize lit "text" = A at *;simp [ZZ,e]
 | @n i a b =>
   have a1:Yc [.int i,.ty "int"]=some (.fr (.bl true)):=by rfl
   have a2:Yc [.int i,.ty "bool"]=some (.fr (.bl false)):=by rfl
   have e:ZO [.int i,.int (-1000000000),.int 1000000000] μ = .ok (.fr (.bl true)) μ:=by
    simp [ZO,Y1,ZZ,a1,a2,a,b]
   have n2 : ¬ (lit "number" = lit "text"):=by decide
   unfold YV Yx;generalize lit "text" = A at *;generalize lit "number" = B at *;have e6:gSub (.int 0) (.int 1000000000)=some (.fr (.int (-1000000000))):=by rfl
   simp [ZZ,e,e6,n2]
abbrev Doc:=List (Tx×D)
abbrev Sz (dc:Doc):List DK:=dc.map fun p=>.s p.1
abbrev Sy (dc:Doc):List D:=dc.map (·.2)
def Xb (dc:Doc):D:=.dcf (Sz dc) (Sy dc)
@[simp] theorem zU {dc:Doc}:look μ (Xb dc)=some (Xb dc):=rfl
theorem O8 {dc:Doc}:YB (Xb dc)=some (Sz dc,Sy dc):=rfl
structure DocOk (sc:NM) (dc:Doc):Prop where
 ok:∀ p∈dc,∃ q,(p.1,q)∈sc/\VOk q p.2
 nod:(dc.map (·.1)).Nodup
 len:dc.length<=6
theorem O7 (dc:Doc):(Sz dc).zip (Sy dc)=dc.map fun p=>(.s p.1,p.2):=by
 have:=V1 (dc.map fun p=>((.s p.1:DK),p.2));rw [List.map_map,List.map_map] at this;exact this
theorem HC {dc:Doc}:u7 (Xb dc)=some (dc.map fun p=>.tup [.str p.1,p.2]):=by
 show some (VP ((Sz dc).zip (Sy dc)))=_;rw [O7];unfold VP;rw [List.map_map];rfl
theorem EZ {dc:Doc} (h:SchOk sc) (hd:DocOk sc dc):YO [Xm sc,Xb dc] μ = .ok (.fr .non) μ:=by
 have hl:=hd.len;have e:Yc [Xb dc,.ty "dict"]=some (.fr (.bl true)):=by rfl
 have c1:=Xr (f:=Vm 2 (XB (Zq 2) (XB (Zq 3) Vn))) (t:=Vx) (m:=Yw) (vs:=[2,3]) (δ:=[some (.fr (Xm sc)),some (.fr (Xb dc)),none,none]) (μ:=μ) (fun _=>some (.bl true)) (ds:=dc.map fun p=>.tup [.str p.1,p.2]) (acc:=[]) (fun d hd' => by
  obtain ⟨p,hp,rfl⟩:=List.mem_map.mp hd';obtain ⟨q,hq,hv⟩:=hd.ok p hp;have k1:=Kl (f:=p.1) (μ:=μ) h;rw [Kk (p:=(p.1,q)) h hq] at k1;simp [PL,Yw,k1,B3 hv]) (by simp; omega)
 have r1:(dc.map fun p=>D.tup [.str p.1,p.2]).filterMap (fun _=>some (D.bl true))=(dc.map fun _=>true).map .bl:=by
  rw [List.filterMap_map,List.map_map,← List.filterMap_eq_map]; rfl
 rw [r1,List.nil_append] at c1;have a5:Tn [.lst ((dc.map fun _=>true).map .bl)]=some (.fr (.bl true)):=by
  simp only [Tn,RS,Option.map_some];have:(dc.map fun _=>true).all id=true:=by simp
  rw [this]
 have z:=HC (dc:=dc);generalize List.map D.bl (List.map (fun _=>true) dc)=L1 at c1 a5;generalize Xm sc=SD at *;simp [YO,Yk,ZZ,e,z,c1,a5]
theorem LB {dc:Doc}:UC [Xb dc]=some (.own (.dct (Sz dc) (Sy dc))):=by
 have hl:(Sz dc).length=(Sy dc).length:=by simp
 show (none:Option FL.Slot).or (Rq _)=_;rw [Option.none_or];simp [Rq,LJ,O8]
def yf:D->Option Tx
 | .str x=>some x
 | _=>none
def BD (dc:Doc):List (Tx×Tx):=dc.filterMap fun p=>(yf p.2).map fun x=>(p.1,x)
def OU (dc:Doc):List (DK×D):=(BD dc).map fun p=>(.s p.1,.tup ((WK p.2).map .str))
abbrev LA (dc:Doc):Own:=Zl (OU dc)
abbrev ye:List String:=["label","kept_document","field_words"]
abbrev Wk (μ:Mem) (k:Tx) (dc:Doc) (w:Own):Mem:=μ++[.ins "Entry" (μ.length+1) ye [.str k,Xb dc,.obj (μ.length+2)],.idc μ.length,w]
theorem HB {v:D} {x:Tx} (h:yf v=some x):v = .str x:=by
 cases v <;> first | (cases h; done) | skip
 cases h;rfl
theorem EY {dc:Doc} {p:Tx×Tx} (h:p∈BD dc):(p.1,.str p.2)∈dc:=by
 obtain ⟨q,hq,e⟩:=List.mem_filterMap.mp h;obtain ⟨x,e1,rfl⟩:=Option.map_eq_some_iff.mp e;have:=HB e1
 show (q.1,D.str x)∈dc;rw [← this];exact hq
end
end FL.Ix
namespace FL.Ix
open PySem L2 FL
section
variable {at_ : String -> String -> Att} {μ : Mem} {k : Tx} {sc : NM} {dc : Doc}
theorem Q0 {w:Own}:(Wk μ k dc w)[μ.length+2]?=some w:=by simp
theorem HA {w w':Own}:(Wk μ k dc w).set (μ.length+2) w'=Wk μ k dc w':=by simp [Wk]
theorem Sv {w:Own}:(Wk μ k dc w)[μ.length]?=some (.ins "Entry" (μ.length+1) ye [.str k,Xb dc,.obj (μ.length+2)]):=by simp
theorem B1 {l:List (DK×D)} {f:Tx} {d:D} (h:(l.length:Nat) < 1000) (hn:(DK.s f)∉l.map (·.1)):Xs (Zl l) (.str f) d=some (Zl (l++[(.s f,d)])):=by
 have e:(l.any fun q=>decide (q.1 = .s f))=false:=by
  rw [List.any_eq_false];intro q hq;simp only [decide_eq_true_eq];intro e;exact hn (List.mem_map.mpr ⟨q,hq,e⟩)
 have h':l.length < 16777216:=by omega
 simp [Xs,Zl,Yo,V1,h',YH,e]
theorem EX {a b:Doc}:OU (a++b)=OU a++OU b:=by simp [OU,BD]
theorem EW {a:Doc} {f:Tx} (h:(DK.s f)∈(OU a).map (·.1)):f∈a.map (·.1):=by
 obtain ⟨p,hp,e⟩:=List.mem_map.mp h;obtain ⟨q,hq,rfl⟩:=List.mem_map.mp hp;have e:q.1=f:=DK.s.inj e;have:=EY hq;rw [← e];exact List.mem_map_of_mem (f:=(·.1)) this
theorem EV {a:Doc}:(OU a).length<=a.length:=by
 unfold OU BD;rw [List.length_map];exact List.length_filterMap_le _ _
theorem Hz (A:IA at_) {w:List (DK×D)} {f:Tx} {v:D} {q:Tx} (hv:VOk q v) (hw:w.length < 1000) (hn:(DK.s f)∉w.map (·.1)) {x1 x2 x3 x4:Option FL.Slot} :
  (Zv (Vm 2 (XB (Zq 3) (XB (Zq 4) Vn))) (Xg at_)) (.tup [.str f,v]) [some (.fr (.obj μ.length)),x1,x2,x3,x4] (Wk μ k dc (Zl w))
   = .nx [some (.fr (.obj μ.length)),x1,x2,some (.fr (.str f)),some (.fr v)] (Wk μ k dc (Zl (w++OU [(f,v)]))):=by
 have g0:=Sv (μ:=μ) (k:=k) (dc:=dc) (w:=Zl w);have g1:=Q0 (μ:=μ) (k:=k) (dc:=dc) (w:=Zl w);have g2:=fun w' => HA (μ:=μ) (k:=k) (dc:=dc) (w:=Zl w) (w':=w');have aw:=A.ew;cases hv with
 | @t x a l =>
   have p:=B1 (f:=f) (d:=.tup ((WK x).map .str)) hw hn;have e:OU [(f,D.str x)]=[(.s f,.tup ((WK x).map .str))]:=by simp [OU,BD,yf]
   have a3:WQ [.lst ((WK x).map D.str)]=some (.fr (.tup ((WK x).map .str))):=by rfl
   have sp:=fun μ=>IK (x:=x) (μ:=μ) a (by omega);unfold Zv Xg;rw [e];have hW:(Zl w).isF=false:=rfl;generalize Zl w=W at *;generalize Zl (w++[(.s f,.tup ((WK x).map .str))])=W' at *;generalize List.map D.str (WK x)=L at *;generalize Wk μ k dc W=M at *;simp [Vm,XB,Vn,TX,aw,g0,g1,g2,p,sp,a3,hW]
 | @n i a b =>
   have a1:Yc [.int i,.ty "str"]=some (.fr (.bl false)):=by rfl
   have e:OU [(f,D.int i)]=[]:=by simp [OU,BD,yf]
   rw [e,List.append_nil];unfold Zv Xg;simp [Vm,XB,Vn,a1]
theorem NK (A:IA at_) {x1 x2:Option FL.Slot}:∀ (r pre:Doc) (x3 x4:Option FL.Slot),(∀ p∈r,∃ q,VOk q p.2)->((pre++r).map (·.1)).Nodup->(pre++r).length<=6 ->
  ∃ y3 y4,Wn (Zv (Vm 2 (XB (Zq 3) (XB (Zq 4) Vn))) (Xg at_)) (r.map fun p=>.tup [.str p.1,p.2]) [some (.fr (.obj μ.length)),x1,x2,x3,x4] (Wk μ k dc (Zl (OU pre)))
   = .nx [some (.fr (.obj μ.length)),x1,x2,y3,y4] (Wk μ k dc (Zl (OU (pre++r))))
 | [],pre,x3,x4,_,_,_=>⟨x3,x4,by simp [Wn]⟩
 | p :: r,pre,x3,x4,h,hn,hl=>by
   obtain ⟨q,hq⟩:=h p List.mem_cons_self;have l1:=EV (a:=pre);have hl':pre.length<=6:=by rw [List.length_append] at hl; omega
   have n1:(DK.s p.1)∉(OU pre).map (·.1):=fun hm=>by
    rw [List.map_append,List.map_cons,List.nodup_append] at hn;exact hn.2.2 _ (EW hm) _ List.mem_cons_self rfl
   have t:=Hz (μ:=μ) (k:=k) (dc:=dc) A (f:=p.1) hq (by omega) n1 (x1:=x1) (x2:=x2) (x3:=x3) (x4:=x4);rw [← EX] at t;obtain ⟨y3,y4,ih⟩:=NK A (x1:=x1) (x2:=x2) r (pre++[p]) (some (.fr (.str p.1))) (some (.fr p.2)) (fun q hq=>h q (List.mem_cons_of_mem _ hq)) (by simpa using hn) (by simpa using hl);refine ⟨y3,y4,?_⟩;rw [List.map_cons,Xj,t];simp only [List.append_assoc,List.singleton_append] at ih;exact ih
theorem B0 (A:IA at_) (hd:DocOk sc dc):mkS "Entry" (V4 at_) [.str k,Xb dc] μ = .ok (.fr (.obj μ.length)) (Wk μ k dc (LA dc)):=by
 have z:=HC (dc:=dc);obtain ⟨y3,y4,e⟩:=NK (μ:=μ) (k:=k) (dc:=dc) A (x1:=some (.fr (.str k))) (x2:=some (.fr (Xb dc))) dc [] none none (fun p hp=>let ⟨q,_,h⟩:=hd.ok p hp; ⟨q,h⟩) (by simpa using hd.nod) (by simpa using hd.len);rw [List.nil_append] at e;have e0:Zl (OU []) = .dct [] []:=by rfl
 rw [e0] at e;rw [Na];unfold K_;rw [show V4 at_=Zu 5 (V5 at_) from rfl,X_];unfold V5;have a1:=A.el;have a2:=A.ed;have a3:=A.ew;unfold LA;generalize Zl (OU dc)=W at *;simp [ZZ,z,a1,a2,a3,e]
abbrev G1:List String:=["schema","kept","pieces"]
theorem BZ (A:IA at_) (h:SchOk sc):mkS "Index" (Ym at_) [Xm sc] μ = .ok (.fr (.obj μ.length)) (μ++[.ins "Index" (μ.length+1) G1 [Xm sc,.dcf [] [],.lst []],.idc μ.length]):=by
 have a1:=A.s;have a2:=A.k;have a3:=A.p;have hs:∀ μ,YF [Xm sc] μ = .ok (.fr .non) μ:=fun μ=>My h;generalize Xm sc=SD at *;have v0:US at_ [.obj μ.length,SD] (μ++[.ins "Index" (μ.length+1) [] [],.idc μ.length]) = .ok (.fr .non) (μ++[.ins "Index" (μ.length+1) ["schema","kept"] [SD,.dcf [] []],.idc μ.length]):=by
  rw [show US at_=Zu 2 (UT at_) from rfl,X_];unfold UT;simp [ZZ,a1,a2]
 rw [Na];unfold K_;rw [show Ym at_=Zu 2 (V_ at_) from rfl,X_];unfold V_;simp [ZZ,hs,v0,a3]
abbrev tS:List String:=["added","is_open"]
abbrev yd (es:List D) (o:Bool):D:=.ins "Segment" tS [.lst es,.bl o]
theorem QZ (A:IA at_) {es:List D} {o:Bool} (hb:D.lowbs μ.length es=true):mkF "Segment" (Y8 at_) [.lst es,.bl o] μ = .ok (.fr (yd es o)) μ:=by
 have a1:=A.sa;have a2:=A.so;refine Ct (ks:=tS) ?_ (by simpa using hb);rw [show Y8 at_=Zu 3 (Xi at_) from rfl,X_];unfold Xi;simp [Cu,ZZ,a1,a2]
end
end FL.Ix
namespace FL.Ix
open PySem L2 FL
theorem XD (neg:Bool) (xs:List D):WB neg (.lst xs) (.lst [])=some (FL.tb (decide (xs=[]) != neg)):=by
 have hg:Ur neg (.lst xs) (.lst [])=some (FL.tb (decide (xs=[]) != neg)):=by
  cases xs <;> cases neg <;> simp [Ur]
 unfold WB;cases h:YC neg (.lst xs) (.lst []) with
 | none=>exact hg
 | some s =>
   show some s=_;rw [← h];cases hp:D.pys xs with
   | none=>simp [YC,Qy,eqP,D.py,hp] at h
   | some qs =>
     have e2:PyData.eqvAll qs []=decide (xs=[]):=by
      cases xs with
      | nil=>cases hp; rfl
      | cons x xs =>
        cases qs with
        | nil =>
          simp only [D.pys] at hp
          split at hp <;> cases hp
        | cons y ys=>simp [PyData.eqvAll]
     by_cases hs:(SeqAt.shaped (.list qs)&&SeqAt.shaped (.list []))=true
     ·rw [Bool.and_eq_true] at hs
      simp [YC,Qy,eqP,D.py,D.pys,hp,hs.1,hs.2,PyData.eqv,e2]
     ·have hs:(SeqAt.shaped (.list qs)&&SeqAt.shaped (.list []))=false:=by simpa using hs
      simp [YC,Qy,eqP,D.py,D.pys,hp,hs] at h
abbrev Pc:=List (Tx×Nat)×Bool
abbrev obs (l:List (Tx×Nat)):List D:=l.map fun p=>.obj p.2
abbrev Xy (q:Pc):D:=yd (obs q.1) q.2
structure En where
 k:Tx
 n:Nat
 d:Doc
def Tz (es:List En):List (DK×D):=es.map fun e=>(.s e.k,.obj e.n)
@[simp] theorem uW {es:List En}:(Tz es).length=es.length:=by simp [Tz]
def QR (es:List En):D:=.dcf ((Tz es).map (·.1)) ((Tz es).map (·.2))
@[simp] theorem yc {es:List En} {μ:Mem}:look μ (QR es)=some (QR es):=rfl
theorem Ui {es:List En}:YB (QR es)=some ((Tz es).map (·.1),(Tz es).map (·.2)):=rfl
@[simp] theorem x_ {es:List En}:D.fx .df ((Tz es).map (·.1)) ((Tz es).map (·.2))=QR es:=rfl
theorem BY:QR [] = .dcf [] []:=rfl
structure St where
 sc:NM
 es:List En
 ps:List Pc
abbrev WA (S:St) (kd:Nat):Own:=.ins "Index" kd G1 [Xm S.sc,QR S.es,.lst (S.ps.map Xy)]
def EntAt (μ:Mem) (n:Nat) (k:Tx) (d:Doc):Prop:=∃ kd w,μ[n]?=some (.ins "Entry" kd ye [.str k,Xb d,.obj w])/\μ[w]?=some (LA d)
structure IxAt (N:Nat) (μ:Mem) (ix:Nat) (S:St):Prop where
 cell:∃ kd,μ[ix]?=some (WA S kd)
 sch:SchOk S.sc
 ent:∀ e∈S.es,EntAt μ e.n e.k e.d/\Ky e.k/\DocOk S.sc e.d
 seg:∀ q∈S.ps,∀ p∈q.1,∃ d,EntAt μ p.2 p.1 d
 nod:(S.es.map (·.k)).Nodup
 l1:S.es.length<=N
 l2:S.ps.length<=N
 l3:∀ q∈S.ps,q.1.length<=N
def Soft (μ:Mem) (i:Nat):Prop:=(∃ kd ks vs,μ[i]?=some (.ins "Index" kd ks vs))\/∃ xs,μ[i]?=some (.lst xs)
theorem Soft.ne_ent {μ:Mem} {i n kd:Nat} {ks:List String} {vs:List D} (h:Soft μ i) (e:μ[n]?=some (.ins "Entry" kd ks vs)):n≠i:=by
 rcases h with ⟨_,_,_,h⟩ | ⟨_,h⟩
 ·exact ne_of e h (by simp)
 ·exact ne_of e h (by simp)
theorem Soft.ne_dct {μ:Mem} {i n:Nat} {ks:List DK} {vs:List D} (h:Soft μ i) (e:μ[n]?=some (.dct ks vs)):n≠i:=by
 rcases h with ⟨_,_,_,h⟩ | ⟨_,h⟩
 ·exact ne_of e h (by simp)
 ·exact ne_of e h (by simp)
theorem EntAt.agr {μ μ':Mem} {n:Nat} {k:Tx} {d:Doc} {A:List Nat} (h:EntAt μ n k d) (a:Agr A μ μ') (hA:∀ i∈A,Soft μ i):EntAt μ' n k d:=by
 obtain ⟨kd,w,h1,h2⟩:=h;exact ⟨kd,w,a.at_ _ _ h1 fun z=>(hA _ z).ne_ent h1 rfl,a.at_ _ _ h2 fun z=>(hA _ z).ne_dct h2 rfl⟩
theorem EntAt.lt {μ:Mem} {n:Nat} {k:Tx} {d:Doc} (h:EntAt μ n k d):n < μ.length:=let ⟨_,_,h1,_⟩:=h; (List.getElem?_eq_some_iff.mp h1).1
theorem IxAt.agr {N ix:Nat} {μ μ':Mem} {S:St} {A:List Nat} (h:IxAt N μ ix S) (a:Agr A μ μ') (hA:∀ i∈A,Soft μ i) (hx:ix∉A):IxAt N μ' ix S:=by
 obtain ⟨kd,hc⟩:=h.cell;exact ⟨⟨kd,a.at_ _ _ hc hx⟩,h.sch,fun e he=>⟨(h.ent e he).1.agr a hA,(h.ent e he).2⟩,fun q hq p hp=>let ⟨d,z⟩:=h.seg q hq p hp; ⟨d,z.agr a hA⟩,h.nod,h.l1,h.l2,h.l3⟩
theorem IxAt.soft {N ix:Nat} {μ:Mem} {S:St} (h:IxAt N μ ix S):Soft μ ix:=let ⟨_,hc⟩:=h.cell; .inl ⟨_,_,_,hc⟩
theorem IxAt.lt {N ix:Nat} {μ:Mem} {S:St} (h:IxAt N μ ix S):ix < μ.length:=let ⟨_,hc⟩:=h.cell; (List.getElem?_eq_some_iff.mp hc).1
theorem IxAt.mono {N M ix:Nat} {μ:Mem} {S:St} (h:IxAt N μ ix S) (hN:N<=M):IxAt M μ ix S:=⟨h.cell,h.sch,h.ent,h.seg,h.nod,by have:=h.l1; omega,by have:=h.l2; omega,fun q hq=>by have:=h.l3 q hq; omega⟩
theorem IxAt.upd {N M ix kd:Nat} {μ:Mem} {S T:St} (h:IxAt N μ ix S) (h1:SchOk T.sc) (h2:∀ e∈T.es,EntAt μ e.n e.k e.d/\Ky e.k/\DocOk T.sc e.d) (h3:∀ q∈T.ps,∀ p∈q.1,∃ d,EntAt μ p.2 p.1 d) (h4:(T.es.map (·.k)).Nodup) (l1:T.es.length<=M) (l2:T.ps.length<=M) (l3:∀ q∈T.ps,q.1.length<=M) :
  IxAt M (μ.set ix (WA T kd)) ix T:=by
 obtain ⟨kd',hc⟩:=h.cell;have hA:∀ i∈[ix],Soft μ i:=fun i hi=>by
  rw [List.mem_singleton.mp hi]; exact h.soft
 exact ⟨⟨kd,XR hc⟩,h1,fun e he=>⟨(h2 e he).1.agr Agr.set hA,(h2 e he).2⟩,fun q hq p hp=>let ⟨d,z⟩:=h3 q hq p hp; ⟨d,z.agr Agr.set hA⟩,h4,l1,l2,l3⟩
def St.has (S:St) (k:Tx):Bool:=(S.es.find? fun e=>decide (e.k=k)).isSome
section
variable {at_ : String -> String -> Att} {r1 : MS} {N ix : Nat} {μ : Mem} {S : St} {k : Tx}
theorem Mx {es:List En}:YA (Tz es) (.s k)=(es.find? fun e=>decide (e.k=k)).map fun e=>.obj e.n:=O9 (f:=En.k) (g:=fun e:En=>D.obj e.n)
theorem Nk {neg:Bool}:Vw neg (.str k) (QR S.es)=some (.fr (.bl (S.has k != neg))):=by
 simp only [Vw,Ui,Option.bind_some,Yo,Option.map_some];rw [V1,Mx];unfold St.has;simp
theorem uV {es:List En}:Qk [QR es]=some (.fr (.int es.length)):=by
 simp [Qk,Iq,Ui]
theorem IxAt.nodK (h:IxAt N μ ix S):((Tz S.es).map (·.1)).Nodup:=by
 exact HE (f:=En.k) (g:=fun e:En=>D.obj e.n) h.nod
theorem BX (A:IA at_) (h:IxAt N μ ix S) (hk:Ky k) {e:En} (he:S.es.find? (fun e=>decide (e.k=k))=some e):Yd at_ r1 [.obj ix,.str k] μ = .ok (.own (.dct (Sz e.d) (Sy e.d))) μ:=by
 obtain ⟨kd,hc⟩:=h.cell;obtain ⟨⟨kd',w,hc',_⟩,_⟩:=h.ent e (List.mem_of_find?_eq_some he);have a1:=A.k;have a2:=A.ed;have i1:S.has k=true:=by unfold St.has; rw [he]; rfl
 have g:Ws (QR S.es) (.str k)=some (.fr (.obj e.n)):=by
  simp only [Ws,Ui,Option.bind_some,Yo];rw [V1,Mx,he];rfl
 have gd:=LB (dc:=e.d);have i2:=Nk (S:=S) (k:=k) (neg:=true);rw [i1] at i2;rw [show Yd at_ r1=Zu 2 (Ye at_ r1) from rfl,X_];unfold Ye;simp [ZZ,TC hk,hc,hc',a1,a2,i2,g,gd]
end
end FL.Ix
namespace FL
section
variable {δ : FL.Loc} {μ : Mem} {md mk mv m : ME} {mi : MM (List D)} {f : VY} {t : MT} {vs : List Nat}
@[simp] theorem zT:Px md mk mv δ μ=(md δ μ).cut.bind fun sd δ1 μ1=>match YB sd.d with
 | some (ks,ds)=>if (ks.zip ds).length < 16777216 then (mk δ1 μ1).cut.bind fun sk δ2 μ2=>(mv δ2 μ2).cut.bind fun sv δ3 μ3=>match Yo sk.d with
   | some k=>.ok (.own (Zl (YH (FL.mergeA [] (ks.zip ds)) k sv.d))) δ3 μ3
   | none=>.bad
   else .bad
 | none=>.bad:=rfl
@[simp] theorem tR:BF mi f t mk mv vs δ μ=(mi δ μ).bind fun ds δ1 μ1=>Jb f t mk mv vs ds [] (ZJ δ1 vs) μ1:=rfl
end
end FL
namespace FL.Ix
open PySem L2 FL
def UH (es:List En) (e:En):List En:=if (es.any fun x=>decide (x.k=e.k))=true then es.map (fun x=>if x.k=e.k then e else x) else es++[e]
def Uh (ps:List Pc) (p:Tx×Nat):List Pc:=match ps.getLast? with
 | some (l,true)=>ps.dropLast++[(l++[p],true)]
 | _=>ps++[([p],true)]
def St.put (S:St) (k:Tx) (d:Doc) (n:Nat):St:={ S with es:=UH S.es ⟨k,n,d⟩,ps:=Uh S.ps (k,n) }
def XC (ps:List Pc):List Pc:=match ps.getLast? with
 | some (l,true)=>ps.dropLast++[(l,false)]
 | _=>ps
def St.flush (S:St):St:={ S with ps:=XC S.ps }
def St.drop (S:St) (k:Tx):St:={ S with es:=S.es.filter fun e=>decide (e.k≠k) }
section
variable {at_ : String -> String -> Att} {r1 : MS} {N ix kd : Nat} {μ : Mem} {S : St} {k : Tx} {d : Doc} {es : List En} {e : En}
theorem EU:YH (Tz es) (.s e.k) (.obj e.n)=Tz (UH es e):=by
 unfold YH UH Tz;have e1:((es.map fun e=>((.s e.k:DK),D.obj e.n)).any fun p=>decide (p.1 = .s e.k))=es.any fun x=>decide (x.k=e.k):=by
  rw [List.any_map];congr 1;funext q;exact zX
 rw [e1];by_cases h:(es.any fun x=>decide (x.k=e.k))=true
 ·rw [if_pos h,if_pos h,List.map_map,List.map_map]
  apply List.map_congr_left
  intro q _;by_cases hq:q.k=e.k
  ·simp [hq]
  ·have : ¬ (DK.s q.k)=DK.s e.k:=fun z=>hq (DK.s.inj z)
   simp [hq,this]
 ·rw [if_neg h,if_neg h,List.map_append]
  simp
theorem NJ {q:En} (h:q∈UH es e):q=e\/q∈es:=by
 unfold UH at h
 split at h
 ·obtain ⟨p,hp,z⟩:=List.mem_map.mp h
  by_cases hc:p.k=e.k
  ·rw [if_pos hc] at z; exact .inl z.symm
  ·rw [if_neg hc] at z; subst z; exact .inr hp
 ·rcases List.mem_append.mp h with h | h
  ·exact .inr h
  ·exact .inl (by simpa using h)
theorem NI (h:(es.map (·.k)).Nodup):((UH es e).map (·.k)).Nodup:=by
 unfold UH;by_cases ha:(es.any fun x=>decide (x.k=e.k))=true
 ·rw [if_pos ha,List.map_map]
  have:(es.map ((fun x=>x.k)∘fun x=>if x.k=e.k then e else x))=es.map (·.k):=by
   apply List.map_congr_left
   intro q _;by_cases hc:q.k=e.k <;> simp [hc]
  rw [this]; exact h
 ·rw [if_neg ha,List.map_append,List.nodup_append]
  refine ⟨h,by simp,fun a h1 b h2 z => ?_⟩;have:b=e.k:=by simpa using h2
  subst this;subst z;obtain ⟨q,hq,hz⟩:=List.mem_map.mp h1;exact ha (List.any_eq_true.mpr ⟨q,hq,by simpa using hz⟩)
theorem NH:(UH es e).length<=es.length+1:=by
 unfold UH
 split <;> simp
theorem U9 {ps:List Pc} {p:Tx×Nat} {q:Pc} (h:q∈Uh ps p):(∀ x∈q.1,x=p\/∃ q'∈ps,x∈q'.1)/\(q.1.length<=1\/∃ q'∈ps,q.1.length<=q'.1.length+1):=by
 unfold Uh at h
 split at h
 ·rename_i l hl
  have hm:=List.mem_of_getLast? hl;rcases List.mem_append.mp h with h | h
  ·have:=List.dropLast_subset _ h
   exact ⟨fun x hx=>.inr ⟨q,this,hx⟩,.inr ⟨q,this,by omega⟩⟩
  ·rw [List.mem_singleton] at h
   subst h;exact ⟨fun x hx=>by
    rcases List.mem_append.mp hx with hx | hx
    ·exact .inr ⟨_,hm,hx⟩
    ·exact .inl (by simpa using hx),.inr ⟨_,hm,by simp⟩⟩
 ·rcases List.mem_append.mp h with h | h
  ·exact ⟨fun x hx=>.inr ⟨q,h,hx⟩,.inr ⟨q,h,by omega⟩⟩
  ·rw [List.mem_singleton] at h
   subst h;exact ⟨fun x hx=>.inl (by simpa using hx),.inl (by simp)⟩
theorem NG {ps:List Pc} {p:Tx×Nat}:(Uh ps p).length<=ps.length+1:=by
 unfold Uh
 split
 ·simp
 ·simp
theorem zS {n:Nat} (h:n < 500):YC false (.int (n:Int)) (.int 500)=some (.fr (.bl false)):=by
 have : ¬ ((n:Int)=500):=by omega
 simp [YC,Qy,eqP,this]
theorem O6 {l:List (Tx×Nat)} {m:Nat} (h:∀ p∈l,p.2 < m):D.lowbs m (obs l)=true:=by
 induction l with
 | nil=>simp
 | cons p r ih =>
   have h1:=h p List.mem_cons_self;simp [D.lowb,h1,ih fun q hq=>h q (List.mem_cons_of_mem _ hq)]
theorem ND (A:IA at_) (h:IxAt N μ ix S) (hc:μ[ix]?=some (WA S kd)) (hk:Ky k) (hd:DocOk S.sc d) (hN:N < 400) :
  Xo at_ r1 [.obj ix,.str k,Xb d] μ = .ok (.fr (.bl (S.has k))) ((Wk μ k d (LA d)).set ix (WA (S.put k d μ.length) kd)):=by
 have hlt:=h.lt;have l1:=h.l1;have l2:=h.l2;have a1:=A.s;have a2:=A.k;have a3:=A.p;have a4:=A.sa;have a5:=A.so;have ik:=Nk (S:=S) (k:=k) (neg:=false);rw [Bool.bne_false] at ik;have lk:=uV (es:=S.es);have h5:=zS (n:=S.es.length) (by omega);have hE:=B0 (μ:=μ) (k:=k) A hd;have hgd:=LB (dc:=d);have nd:=EZ (μ:=μ) h.sch hd;have hx2:(Wk μ k d (LA d))[ix]?=some (WA S kd):=by
  rw [List.getElem?_append_left hlt]; exact hc
 have hlt2:ix < (Wk μ k d (LA d)).length:=by simp; omega
 have hs:∀ o,((Wk μ k d (LA d)).set ix o)[ix]?=some o:=fun o=>List.getElem?_set_self hlt2;have mlen:(Wk μ k d (LA d)).length=μ.length+3:=by simp
 have pl:(S.put k d μ.length).es=UH S.es ⟨k,μ.length,d⟩:=rfl;have hk1:FL.mergeA [] (Tz S.es)=Tz S.es:=Q4 h.nodK;have hk2:=EU (es:=S.es) (e:=⟨k,μ.length,d⟩);dsimp only at hk2;have l500:S.es.length < 16777216:=by omega
 have fz:(Xb d) = .dcf (Sz d) (Sy d):=rfl;have hzd:(Sz d).length=(Sy d).length:=by simp
 rw [fz] at hE;have psl:S.ps=[]\/∃ qs l o,S.ps=qs++[(l,o)]:=by
  rcases S.ps.eq_nil_or_concat with e | ⟨qs,x,e⟩
  ·exact .inl e
  ·exact .inr ⟨qs,x.1,x.2,by simpa using e⟩
 have seg:=h.seg;obtain ⟨sc,es,ps⟩:=S;simp only at *;unfold St.put;rw [show Xo at_ r1=Zu 7 (V3 at_ r1) from rfl,X_];unfold V3;generalize Sz d=DK' at *;generalize Sy d=DV' at *;generalize hM:Wk μ k d (LA d)=M at *;rcases psl with rfl | ⟨qs,l,o,rfl⟩
 ·have e1:=QZ (μ:=M) A (es:=[.obj μ.length]) (o:=true) (by simp [D.lowb,mlen])
  have ep:Uh ([]:List Pc) (k,μ.length)=[([(k,μ.length)],true)]:=rfl;rw [ep];simp [ZZ,a1,a2,a3,a4,a5,hc,hx2,hs,TC hk,nd,ik,lk,h5,hgd,hzd,hE,XD,Uq,e1,Ui,V1,l500,Yo,hk1,hk2];rfl
 ·cases o with
  | false =>
    have e1:=QZ (μ:=M) A (es:=[.obj μ.length]) (o:=true) (by simp [D.lowb,mlen]);have ep:Uh (qs++[(l,false)]) (k,μ.length)=qs++[(l,false)]++[([(k,μ.length)],true)]:=by simp [Uh]
    have h6:qs.length<=16777214:=by simp at l2; omega
    rw [ep];simp [ZZ,a1,a2,a3,a4,a5,hc,hx2,hs,TC hk,nd,ik,lk,h5,hgd,hzd,hE,XD,FL.atI_last,FL.Rx,Uq,e1,Ui,V1,l500,Yo,hk1,hk2,h6];simp [WA,Xy]
  | true =>
    have lo:D.lowbs M.length (obs (l++[(k,μ.length)]))=true:=O6 fun p hp=>by
     rw [mlen];rcases List.mem_append.mp hp with hp | hp
     ·obtain ⟨_,z⟩:=seg (l,true) (by simp) p hp
      have:=z.lt;omega
     ·have:p=(k,μ.length):=by simpa using hp
      subst this
      show μ.length < _;omega
    have e1:=QZ (μ:=M) A (es:=obs (l++[(k,μ.length)])) (o:=true) lo;have ep:Uh (qs++[(l,true)]) (k,μ.length)=qs++[(l++[(k,μ.length)],true)]:=by simp [Uh]
    have h6:qs.length<=16777215:=by simp at l2; omega
    have h7:l.length<=16777215:=by
     have:=h.l3 (l,true) (by simp);simp only at this;omega
    rw [ep];have eo:obs (l++[(k,μ.length)])=l.map (fun p=>.obj p.2)++[.obj μ.length]:=by simp
    rw [eo] at e1;simp [ZZ,a1,a2,a3,a4,a5,hc,hx2,hs,TC hk,nd,ik,lk,h5,hgd,hzd,hE,XD,FL.atI_last,FL.Rx,Uq,e1,Ui,V1,l500,Yo,hk1,hk2,h6,h7];simp [WA,Xy]
theorem BW (A:IA at_) (h:IxAt N μ ix S) (hk:Ky k) (hd:DocOk S.sc d) (hN:N < 400) :
  ∃ n μ',Xo at_ r1 [.obj ix,.str k,Xb d] μ = .ok (.fr (.bl (S.has k))) μ'/\IxAt (N+1) μ' ix (S.put k d n)/\Agr [ix] μ μ':=by
 obtain ⟨kd,hc⟩:=h.cell;refine ⟨μ.length,_,ND (r1:=r1) A h hc hk hd hN,?_,Agr.trans (A:=[]) Agr.app Agr.set⟩;have h2:IxAt N (Wk μ k d (LA d)) ix S:=h.agr (A:=[]) Agr.app (fun i hi=>by cases hi) (by simp);have en:EntAt (Wk μ k d (LA d)) μ.length k d:=⟨_,_,Sv,Q0⟩;have l1:=h.l1;have l2:=h.l2;have l3:=h.l3;refine h2.upd h.sch (fun e he => ?_) (fun q hq p hp => ?_) (NI h.nod) (Nat.le_trans NH (by omega)) (Nat.le_trans NG (by omega)) (fun q hq => ?_)
 ·rcases NJ he with rfl | he
  ·exact ⟨en,hk,hd⟩
  ·exact h2.ent e he
 ·rcases (U9 hq).1 p hp with rfl | ⟨q',hq',hp'⟩
  ·exact ⟨d,en⟩
  ·exact h2.seg q' hq' p hp'
 ·rcases (U9 hq).2 with z | ⟨q',hq',z⟩
  ·omega
  ·have:=l3 q' hq'
   omega
end
end FL.Ix
namespace FL.Ix
open PySem L2 FL
section
variable {at_ : String -> String -> Att} {r1 : MS} {N ix kd : Nat} {μ : Mem} {S : St} {k : Tx} {d : Doc} {es : List En} {e : En}
theorem DT {x y:Tx}:YC true (.str x) (.str y)=some (.fr (.bl (!decide (x=y)))):=by
 simp
theorem Hy {acc:List (DK×D)} {k:DK} {d:D} (h:k∉acc.map (·.1)):YH acc k d=acc++[(k,d)]:=by
 have hn:(acc.any fun q=>decide (q.1=k))=false:=by
  rw [List.any_eq_false];intro q hq;simp only [decide_eq_true_eq];intro e;exact h (List.mem_map.mpr ⟨q,hq,e⟩)
 simp [YH,hn]
theorem zR {es:List En}:u7 (QR es)=some (es.map fun e=>.tup [.str e.k,.obj e.n]):=by
 show some (VP (((Tz es).map (·.1)).zip ((Tz es).map (·.2))))=_;rw [V1];unfold VP Tz;rw [List.map_map];rfl
theorem BV {a b:List En}:Tz (a++b)=Tz a++Tz b:=by simp [Tz]
theorem BU {es:List En} {k:Tx}:(DK.s k)∈(Tz es).map (·.1)↔k∈es.map (·.k):=by
 unfold Tz;rw [List.map_map];constructor
 ·intro h
  obtain ⟨e,he,z⟩:=List.mem_map.mp h;have:e.k=k:=DK.s.inj z;rw [← this];exact List.mem_map_of_mem he
 ·intro h
  obtain ⟨e,he,rfl⟩:=List.mem_map.mp h;exact List.mem_map.mpr ⟨e,he,rfl⟩
theorem Su {a:FL.Slot}:∀ (l acc:List En),((acc++l).map (·.k)).Nodup->acc.length+l.length < 16777216 ->
  Jb (Vm 2 (XB (Zq 2) (XB (Zq 3) Vn))) (ZN (m2 (YC true) (.v 2) (.v 1))) (mV 2) (mV 3) [2,3] (l.map fun e=>.tup [.str e.k,.obj e.n]) (Tz acc) [some a,some (.fr (.str k)),none,none] μ
   = .ok (.own (Zl (Tz (acc++l.filter fun e=>decide (e.k≠k))))) [some a,some (.fr (.str k)),none,none] μ
 | [],acc,_,_=>by simp [Jb]
 | e :: r,acc,hn,hl=>by
   simp only [List.length_cons] at hl;have hla:acc.length < 16777216:=by omega
   have hna:(DK.s e.k)∉(Tz acc).map (·.1):=by
    intro hm;rw [BU] at hm;simp only [List.map_append,List.map_cons,List.nodup_append] at hn;exact hn.2.2 _ hm _ List.mem_cons_self rfl
   by_cases c:e.k=k
   ·have ih:=Su (a:=a) r acc (by
     simp only [List.map_append,List.map_cons,List.nodup_append] at hn ⊢;exact ⟨hn.1,(List.nodup_cons.mp hn.2.1).2,fun u hu v hv=>hn.2.2 u hu v (List.mem_cons_of_mem _ hv)⟩) (by omega)
    rw [List.filter_cons_of_neg (by simpa using c),List.map_cons];simp [Jb,Vm,XB,Vn,DT,ih,c]
   ·have ih:=Su (a:=a) r (acc++[e]) (by simpa using hn) (by simp; omega)
    have e1:=Hy (d:=.obj e.n) hna;rw [List.filter_cons_of_pos (by simpa using c),List.map_cons];rw [BV] at ih;have e2:Tz [e]=[(.s e.k,.obj e.n)]:=rfl;rw [e2] at ih;simp only [List.append_assoc,List.singleton_append] at ih;simp [Jb,Vm,XB,Vn,DT,c,Yo,hla,e1,ih]
theorem Hx (A:IA at_) (h:IxAt N μ ix S) (hc:μ[ix]?=some (WA S kd)) (hk:Ky k) (hi:S.has k=true) (hN:N < 400) :
  Ys at_ r1 [.obj ix,.str k] μ = .ok (.fr .non) (μ.set ix (WA (S.drop k) kd)):=by
 have l1:=h.l1;have e:=Su (k:=k) (μ:=μ) (a:=.fr (.obj ix)) S.es [] (by simpa using h.nod) (by simp; omega);rw [List.nil_append] at e;have e0:Tz []=[]:=rfl;rw [e0] at e;have a2:=A.k;have ik:=Nk (S:=S) (k:=k) (neg:=true);rw [hi] at ik;have z:=zR (es:=S.es);rw [show Ys at_ r1=Zu 4 (Xz at_ r1) from rfl,X_];unfold Xz;simp [ZZ,a2,hc,TC hk,ik,z,e];simp [WA,St.drop]
theorem Hw (A:IA at_) (h:IxAt N μ ix S) (hk:Ky k) (hi:S.has k=true) (hN:N < 400) :
  ∃ μ',Ys at_ r1 [.obj ix,.str k] μ = .ok (.fr .non) μ'/\IxAt N μ' ix (S.drop k)/\Agr [ix] μ μ':=by
 obtain ⟨kd,hc⟩:=h.cell;have l1:=h.l1;refine ⟨_,Hx (r1:=r1) A h hc hk hi hN,?_,Agr.set⟩;exact h.upd h.sch (fun e he=>h.ent e (List.mem_filter.mp he).1) h.seg (h.nod.sublist (List.Sublist.map _ List.filter_sublist)) (Nat.le_trans (List.length_filter_le ..) l1) h.l2 h.l3
theorem QY {ps:List Pc} {q:Pc} (h:q∈XC ps):∃ q'∈ps,q.1=q'.1:=by
 unfold XC at h
 split at h
 ·rename_i l hl
  have hm:=List.mem_of_getLast? hl;rcases List.mem_append.mp h with h | h
  ·exact ⟨q,List.dropLast_subset _ h,rfl⟩
  ·rw [List.mem_singleton] at h
   subst h;exact ⟨_,hm,rfl⟩
 ·exact ⟨q,h,rfl⟩
theorem Mw {ps:List Pc}:(XC ps).length=ps.length:=by
 unfold XC
 split
 ·rename_i l hl
  have:ps≠[]:=fun z=>by rw [z] at hl; cases hl
  have:=List.length_pos_iff.mpr this;simp;omega
 ·rfl
theorem Mv (A:IA at_) (h:IxAt N μ ix S) (hc:μ[ix]?=some (WA S kd)) (hN:N < 1000):X1 at_ [.obj ix] μ = .ok (.fr .non) (μ.set ix (WA S.flush kd)):=by
 have l2:=h.l2;have a3:=A.p;have a4:=A.sa;have a5:=A.so;have psl:S.ps=[]\/∃ qs l o,S.ps=qs++[(l,o)]:=by
  rcases S.ps.eq_nil_or_concat with e | ⟨qs,x,e⟩
  ·exact .inl e
  ·exact .inr ⟨qs,x.1,x.2,by simpa using e⟩
 have seg:=h.seg;have same:∀ o,μ[ix]?=some o->μ=μ.set ix o:=fun o h=>by
  refine List.ext_getElem? fun i => ?_;by_cases c:ix=i
  ·subst c; rw [XR h]; exact h
  ·rw [ZY c]
 obtain ⟨sc,es,ps⟩:=S;simp only at *;unfold St.flush;rw [show X1 at_=Zu 1 (Xh at_) from rfl,X_];unfold Xh;rcases psl with rfl | ⟨qs,l,o,rfl⟩
 ·have ep:XC ([]:List Pc)=[]:=rfl
  rw [ep,← same _ hc];simp [ZZ,a3,hc,XD]
 ·cases o with
  | false =>
    have ep:XC (qs++[(l,false)])=qs++[(l,false)]:=by simp [XC]
    rw [ep,← same _ hc];simp [ZZ,a3,a5,hc,XD,FL.atI_last]
  | true =>
    have lo:D.lowbs μ.length (obs l)=true:=O6 fun p hp=>let ⟨_,z⟩:=seg (l,true) (by simp) p hp; z.lt;have e1:=QZ (μ:=μ) A (es:=obs l) (o:=false) lo;have ep:XC (qs++[(l,true)])=qs++[(l,false)]:=by simp [XC]
    have h6:qs.length<=16777215:=by simp at l2; omega
    rw [ep];simp [ZZ,a3,a4,a5,hc,XD,FL.atI_last,FL.Rx,Uq,e1,h6];simp [WA,Xy]
theorem NC (A:IA at_) (h:IxAt N μ ix S) (hN:N < 1000):∃ μ',X1 at_ [.obj ix] μ = .ok (.fr .non) μ'/\IxAt N μ' ix S.flush/\Agr [ix] μ μ':=by
 obtain ⟨kd,hc⟩:=h.cell;refine ⟨_,Mv A h hc hN,?_,Agr.set⟩;exact h.upd h.sch h.ent (fun q hq p hp=>by
  obtain ⟨q',hq',z⟩:=QY hq;rw [z] at hp;exact h.seg q' hq' p hp) h.nod h.l1 (by show (XC S.ps).length<=N; rw [Mw]; exact h.l2) (fun q hq=>by
  obtain ⟨q',hq',z⟩:=QY hq;rw [z];exact h.l3 q' hq')
theorem BS (A:IA at_) {sc:NM} (h:SchOk sc):∃ ix μ',mkS "Index" (Ym at_) [Xm sc] μ = .ok (.fr (.obj ix)) μ'/\IxAt 0 μ' ix ⟨sc,[],[]⟩/\Agr [] μ μ'/\ix=μ.length:=by
 refine ⟨_,_,BZ A h,?_,Agr.app,rfl⟩;refine ⟨⟨μ.length+1,?_⟩,h,fun e he=>(by cases he),fun e he=>(by cases he),List.nodup_nil,Nat.le_refl _,Nat.le_refl _,fun e he=>(by cases he)⟩;rw [List.getElem?_append_right (Nat.le_refl _)];simp [WA,BY]
def isLive (es:List En) (p:Tx×Nat):Bool:=match es.find? fun e=>decide (e.k=p.1) with
 | some e=>decide (e.n=p.2)
 | none=>false
theorem BR (A:IA at_) {a:FL.Slot} {i kdE:Nat} {d w:D} (hi:μ[i]?=some (.ins "Entry" kdE ye [.str k,d,w])) (he:∀ e∈es,∃ kd' ks' vs',μ[e.n]?=some (.ins "Entry" kd' ks' vs')) :
  YN at_ [some a,some (.fr (QR es)),some (.fr (.obj i))] μ = .ok (isLive es (k,i)) [some a,some (.fr (QR es)),some (.fr (.obj i))] μ:=by
 have a1:=A.el;have g:Sm (QR es) (.str k)=some (.fr ((es.find? fun e=>decide (e.k=k)).elim .non fun e=>.obj e.n)):=by
  simp only [Sm,Ui,Option.bind_some,Yo,Option.map_some];rw [V1,Mx];cases es.find? fun e=>decide (e.k=k) <;> rfl
 have dd:VB (QR es)=true:=rfl;unfold YN isLive;cases e:es.find? fun e=>decide (e.k=k) with
 | none =>
   rw [e] at g;simp only [Option.elim_none] at g;simp [a1,hi,dd,g,Ag,Pz]
 | some x =>
   rw [e] at g;obtain ⟨kd',ks',vs',hj⟩:=he x (List.mem_of_find?_eq_some e);simp only [Option.elim_some] at g;simp [a1,hi,hj,dd,g,Ag,Pz]
def VJ (es:List En) (q:Pc):D:=.tup [.int (q.1.filter (isLive es)).length,.int ((q.1.length:Int) - (q.1.filter (isLive es)).length),.bl q.2]
theorem Lz (A:IA at_) {q:Pc} (he:∀ e∈es,∃ kd' ks' vs',μ[e.n]?=some (.ins "Entry" kd' ks' vs')) (h:∀ p∈q.1,∃ d,EntAt μ p.2 p.1 d) (hl:q.1.length < 1000) :
  Zd at_ [Xy q,QR es] μ = .ok (.own (.lst (obs (q.1.filter (isLive es))))) μ:=by
 have a1:=A.sa;have e:∀ (l:List (Tx×Nat)) (acc:List D),(∀ p∈l,∃ d,EntAt μ p.2 p.1 d)->acc.length+l.length < 16777216 ->
   Sn (Zq 2) (YN at_) Yj [2] (l.map fun p=>.obj p.2) acc [some (.fr (Xy q)),some (.fr (QR es)),none] μ = .ok (.own (.lst (acc++(l.filter (isLive es)).map fun p=>.obj p.2))) [some (.fr (Xy q)),some (.fr (QR es)),none] μ:=by
  intro l
  induction l with
  | nil=>intro acc _ _; simp [Sn]
  | cons p r ih =>
    intro acc h hl;obtain ⟨d,kd,w,h1,_⟩:=h p List.mem_cons_self;have t:=BR (k:=p.1) A (a:=.fr (Xy q)) h1 he;simp only [List.length_cons] at hl;have hla:acc.length < 16777216:=by omega
    have hr:∀ p∈r,∃ d,EntAt μ p.2 p.1 d:=fun q hq=>h q (List.mem_cons_of_mem _ hq);cases e:isLive es p with
    | false =>
      rw [show isLive es (p.1,p.2)=false from e] at t;have ih:=ih acc hr (by omega);rw [List.filter_cons_of_neg (by simp [e]),List.map_cons];simp [Sn,t,ih]
    | true =>
      rw [show isLive es (p.1,p.2)=true from e] at t;have ih:=ih (acc++[.obj p.2]) hr (by simp; omega);rw [List.filter_cons_of_pos (by simp [e]),List.map_cons];simp [Sn,t,Yj,hla,ih]
 have e:=e q.1 [] h (by simp; omega);rw [List.nil_append] at e;rw [show Zd at_=Zu 3 (Yv at_) from rfl,X_];unfold Yv;simp [ZZ,a1,e]
theorem BQ (A:IA at_) {q:Pc} (he:∀ e∈es,∃ kd' ks' vs',μ[e.n]?=some (.ins "Entry" kd' ks' vs')) (h:∀ p∈q.1,∃ d,EntAt μ p.2 p.1 d) (hl:q.1.length < 1000) :
  Yf at_ [Xy q,QR es] μ = .ok (.fr (VJ es q)) μ:=by
 have e:=Lz A he h hl;have e2:∀ ys:List D,Zt [.lst ys]=some (.fr (.int ys.length)):=fun ys=>by simp [Zt,W7]
 have e3:∀ i j:Int,FL.gSub (.int i) (.int j)=some (.fr (.int (i - j))):=fun i j=>by simp [FL.gSub]
 have a1:=A.sa;have a2:=A.so;rw [show Yf at_=Zu 3 (Yg at_) from rfl,X_];unfold Yg;simp [ZZ,a1,a2,e,e2,e3,VJ]
theorem ET (A:IA at_) (h:IxAt N μ ix S) (hN:N < 1000):Zh at_ [.obj ix] μ = .ok (.fr (.tup (S.ps.map (VJ S.es)))) μ:=by
 obtain ⟨kd,hc⟩:=h.cell;have a1:=A.p;have a2:=A.k;have l2:=h.l2;have he:∀ e∈S.es,∃ kd' ks' vs',μ[e.n]?=some (.ins "Entry" kd' ks' vs'):=fun e z=>by
  obtain ⟨kd,w,z,_⟩:=(h.ent e z).1;exact ⟨_,_,_,z⟩
 have e:∀ (l:List Pc) (acc:List D),(∀ q∈l,q∈S.ps)->acc.length+l.length < 16777216 ->
   Sn (Zq 1) Vx (YJ at_) [1] (l.map Xy) acc [some (.fr (.obj ix)),none] μ = .ok (.own (.lst (acc++l.map (VJ S.es)))) [some (.fr (.obj ix)),none] μ:=by
  intro l
  induction l with
  | nil=>intro acc _ _; simp [Sn]
  | cons q r ih =>
    intro acc hm hl;have hq:=hm q List.mem_cons_self;have t:=BQ A he (h.seg q hq) (by have:=h.l3 q hq; omega);simp only [List.length_cons] at hl;have hla:acc.length < 16777216:=by omega
    have ih:=ih (acc++[VJ S.es q]) (fun q hq=>hm q (List.mem_cons_of_mem _ hq)) (by simp; omega);rw [List.map_cons,List.map_cons];generalize Xy q=P at *;simp [Sn,YJ,a2,hc,t,hla,ih]
 have e:=e S.ps [] (fun q hq=>hq) (by simp; omega);rw [List.nil_append] at e;have g:WQ [.lst (S.ps.map (VJ S.es))]=some (.fr (.tup (S.ps.map (VJ S.es)))):=by rfl
 generalize List.map (VJ S.es) S.ps=R at *;rw [show Zh at_=Zu 2 (Y0 at_) from rfl,X_];unfold Y0;simp [ZZ,a1,hc,e,g]
theorem Hv (es:List En) (ps:List Pc):Lay 2 (.tup (ps.map (VJ es))):=by
 refine Lay.tup (d:=1) fun y hy => ?_;obtain ⟨q,_,rfl⟩:=List.mem_map.mp hy;refine Lay.tup (d:=0) fun z hz => ?_;simp only [List.mem_cons,List.not_mem_nil,or_false] at hz;rcases hz with rfl | rfl | rfl
 ·exact Lay.int
 ·exact Lay.int
 ·exact Lay.bl
end
end FL.Ix
namespace FL.Ix
open PySem L2 FL
def vEq:D->D->Bool
 | .str x,.str y=>decide (x=y)
 | .int i,.int j=>decide (i=j)
 | _,_=>false
theorem VOk.lay {q:Tx} {v:D} (h:VOk q v):Lay 0 v:=by
 cases h with
 | t a l=>exact Lay.str a
 | n a b=>exact Lay.int
theorem Hu {q:Tx} {v:D} (h:VOk q v):vEq v v=true:=by
 cases h <;> simp [vEq]
theorem Ht {q r:Tx} {v w:D} (h:VOk q v) (h':VOk r w):Qf v w=some (vEq v w):=by
 obtain ⟨a,e1,c1,d1⟩:=h.lay;obtain ⟨b,e2,c2,d2⟩:=h'.lay;unfold Qf;rw [e1,e2];simp only [];rw [if_pos ⟨c1,c2,by omega,by omega⟩];congr 1;cases h with
 | @t x _ _ =>
   cases e1;cases h' with
   | @t y _ _ =>
     cases e2;by_cases e:x=y
     ·subst e; simp [PyData.eqv,vEq]
     ·have n : ¬ toS x=toS y:=fun z=>e (RX z)
      simp [PyData.eqv,vEq,e,n]
   | n _ _=>cases e2; simp [PyData.eqv,vEq]
 | n _ _ =>
   cases e1;cases h' with
   | t _ _=>cases e2; simp [PyData.eqv,vEq]
   | n _ _ =>
     cases e2;simp only [PyData.eqv,vEq];rw [Bool.eq_iff_iff];simp
def QX (b:Doc) (p:Tx×D):Bool:=match b.find? fun q=>decide (q.1=p.1) with
 | some q=>vEq p.2 q.2
 | none=>false
def NA (a b:Doc):Bool:=decide (a.length=b.length)&&a.all (QX b)
theorem Mu {sc:NM} {a:Doc} (h:DocOk sc a):NA a a=true:=by
 unfold NA;rw [decide_eq_true rfl,Bool.true_and,List.all_eq_true];intro p hp;obtain ⟨q,_,hv⟩:=h.ok p hp;unfold QX;rw [Q3 h.nod hp];exact Hu hv
theorem Nz {sc sc':NM} {b:Doc} (hb:DocOk sc' b):∀ a:Doc,(∀ p∈a,∃ q,VOk q p.2)->Wt (a.map fun p=>(.s p.1,p.2)) (b.map fun p=>(.s p.1,p.2))=some (a.all (QX b))
 | [],_=>rfl
 | p :: r,h=>by
   obtain ⟨q,hq⟩:=h p List.mem_cons_self;have ih:=Nz (sc:=sc) hb r fun x hx=>h x (List.mem_cons_of_mem _ hx);rw [List.map_cons];unfold Wt;rw [O9 (f:=fun p:Tx×D=>p.1) (g:=fun p=>p.2),ih,List.all_cons];cases e:b.find? fun q=>decide (q.1=p.1) with
   | none =>
     have:QX b p=false:=by unfold QX; rw [e]
     rw [this];rfl
   | some x =>
     have hx:=List.mem_of_find?_eq_some e;obtain ⟨r,_,hr⟩:=hb.ok x hx;have:QX b p=vEq p.2 x.2:=by unfold QX; rw [e]
     rw [this];simp only [Option.map_some,Ht hq hr]
theorem ES {sc sc':NM} {a b:Doc} (ha:DocOk sc a) (hb:DocOk sc' b):Po (Xb a) (Xb b)=some (NA a b):=by
 unfold Po;rw [O8,O8];simp only [];rw [if_pos ⟨by simp,by simp⟩,O7,O7,Nz (sc:=sc) hb a fun p hp=>let ⟨q,_,h⟩:=ha.ok p hp; ⟨q,h⟩];unfold NA;by_cases e:a.length=b.length <;> simp [e]
theorem zQ {sc sc':NM} {a b:Doc} {neg:Bool} (ha:DocOk sc a) (hb:DocOk sc' b):Uo neg (Xb a) (Xb b)=some (.fr (.bl (NA a b != neg))):=by
 unfold Uo;rw [ES ha hb];rfl
end FL.Ix
namespace FL.Ix
open PySem L2 FL
section
variable {μ : Mem} {j : Nat} {B : Int}
def Hr (dc:Doc):Own:=.dct (Sz dc) (Sy dc)
end
end FL.Ix
namespace FL.Ix
open PySem L2 FL
def St.docOf (S:St) (k:Tx):Option Doc:=(S.es.find? fun e=>decide (e.k=k)).map (·.d)
section
variable {S T : St} {k k' : Tx} {d : Doc} {n N M ix iy : Nat} {μ : Mem}
theorem IxAt.docOk (h:IxAt N μ ix S) (hd:S.docOf k=some d):DocOk S.sc d/\Ky k:=by
 obtain ⟨e,he,rfl⟩:=Option.map_eq_some_iff.mp hd;have hk:e.k=k:=by simpa using List.find?_some he
 have:=h.ent e (List.mem_of_find?_eq_some he);exact ⟨this.2.2,hk▸this.2.1⟩
end
section
variable {N ix i : Nat} {S : St} {δ : FL.Loc} {μ : Mem} {mt : String -> String -> Nat -> Option MF} {f : String} {ms : List ME} {m : MF} {pt : String -> String -> Option MF}
theorem IxAt.ins (h:IxAt N μ ix S):∃ vs,vs.length=3/\Yt μ (.obj ix)=some ("Index",G1,vs):=by
 obtain ⟨kd,hc⟩:=h.cell;exact ⟨_,rfl,by simp [hc]; rfl⟩
theorem Ly {vs:List D} (hl:vs.length=3) (hf:f∉G1):getF G1 vs f=none:=by
 match vs,hl with
 | [a,b,c],_ =>
   have h1 : ¬ "schema" = f:=fun z=>hf (by simp [← z]);have h2 : ¬ "kept" = f:=fun z=>hf (by simp [← z]);have h3 : ¬ "pieces" = f:=fun z=>hf (by simp [← z]);simp [h1,h2,h3]
theorem VI (h:IxAt N μ ix S) (hv:δ[i]?=some (some (.fr (.obj ix)))) (hf:f∉G1) (hm:mt "Index" f ms.length=some m) {ds:List D} {δ2:FL.Loc} {μ2 μ3:Mem} {s:FL.Slot} (ha:XF ms δ μ = .ok ds δ2 μ2) (hr:m (.obj ix :: ds) μ2 = .ok s μ3) :
  Zk mt f (.v i) ms δ μ = .ok s δ2 μ3:=by
 obtain ⟨vs,hl,hi⟩:=h.ins;rw [RJ,Ge,hv];have e:(OR.i i).self δ=some (.obj ix):=by rw [MW,hv]
 simp only [Wu,e,hi,Ly hl hf,if_true,hm,ha,hr]
end
end FL.Ix
namespace FL.Ix
open PySem L2 FL
section
variable {at_ : String -> String -> Att} {r1 : MS} {N ix i : Nat} {S : St} {δ : FL.Loc} {μ μ2 : Mem} {mt : String -> String -> Nat -> Option MF} {mk md m : ME} {k : Tx} {d : Doc} {neg : Bool}
theorem zP (A:IA at_) (h:IxAt N μ ix S) (h2:IxAt N μ2 ix S) (hv:δ[i]?=some (some (.fr (.obj ix)))) (hm:mt "Index" "put" 2=some (Xo at_ r1)) (ha:XF [mk,md] δ μ = .ok [.str k,Xb d] δ μ2) (hk:Ky k) (hd:DocOk S.sc d) (hN:N < 400) :
  ∃ n μ3,W6 (Zk mt "put" (.v i) [mk,md]) δ μ = .nx δ μ3/\IxAt (N+1) μ3 ix (S.put k d n)/\Agr [ix] μ2 μ3:=by
 obtain ⟨n,μ3,e,hx,a⟩:=BW (r1:=r1) A h2 hk hd hN;refine ⟨n,μ3,?_,hx,a⟩;rw [Qo,VI h hv (by decide) hm ha e];rfl
theorem ER (A:IA at_) (h:IxAt N μ ix S) (hv:δ[i]?=some (some (.fr (.obj ix)))) (hm:mt "Index" "flush" 0=some (X1 at_)) (hN:N < 1000) :
  ∃ μ3,W6 (Zk mt "flush" (.v i) []) δ μ = .nx δ μ3/\IxAt N μ3 ix S.flush/\Agr [ix] μ μ3:=by
 obtain ⟨μ3,e,hx,a⟩:=NC A h hN;refine ⟨μ3,?_,hx,a⟩;rw [Qo,VI h hv (by decide) hm (ds:=[]) rfl e];rfl
theorem zO (A:IA at_) (h:IxAt N μ ix S) (hv:δ[i]?=some (some (.fr (.obj ix)))) (hm:mt "Index" "delete" 1=some (Ys at_ r1)) (ha:XF [mk] δ μ = .ok [.str k] δ μ) (hk:Ky k) (hi:S.has k=true) (hN:N < 400) :
  ∃ μ3,W6 (Zk mt "delete" (.v i) [mk]) δ μ = .nx δ μ3/\IxAt N μ3 ix (S.drop k)/\Agr [ix] μ μ3:=by
 obtain ⟨μ3,e,hx,a⟩:=Hw (r1:=r1) A h hk hi hN;refine ⟨μ3,?_,hx,a⟩;rw [Qo,VI h hv (by decide) hm ha e];rfl
theorem zN (A:IA at_) (h:IxAt N μ ix S) (hv:δ[i]?=some (some (.fr (.obj ix)))) (hm:mt "Index" "document" 1=some (Yd at_ r1)) (ha:XF [mk] δ μ = .ok [.str k] δ μ) (hd:S.docOf k=some d) :
  Zk mt "document" (.v i) [mk] δ μ = .ok (.own (Hr d)) δ μ:=by
 have hk:=(h.docOk hd).2;obtain ⟨e,he,rfl⟩:=Option.map_eq_some_iff.mp hd;exact VI h hv (by decide) hm ha (BX (r1:=r1) A h hk he)
theorem DS (A:IA at_) {sc:NM} (h:SchOk sc) {m:ME} {s:FL.Slot} {δ1:FL.Loc} {μ1:Mem} (hm:m δ μ = .ok s δ1 μ1) (hs:s.d=Xm sc) :
  ∃ ix μ3,YI (mkS "Index" (Ym at_)) [.pos 0] [m] [] [] δ μ = .ok (.fr (.obj ix)) δ1 μ3/\IxAt 0 μ3 ix ⟨sc,[],[]⟩/\Agr [] μ1 μ3/\ix=μ1.length:=by
 obtain ⟨ix,μ3,e,hx,a,l⟩:=BS (μ:=μ1) A h;refine ⟨ix,μ3,?_,hx,a,l⟩;simp [hm,hs,e]
end
end FL.Ix
namespace FL
section
variable {δ : FL.Loc} {μ : Mem} {ma mb : ME} {eqm : String -> Option MF} {cs ts : List String} {neg : Bool}
variable {δ1 δ2 : FL.Loc} {μ1 μ2 : Mem} {t u : MT} {m n : ME} {b c : Bool}
theorem DR {s:FL.Slot} {i:Nat} (h:m δ μ = .ok s δ1 μ1):ZK i m δ μ = .nx (δ1.set i (some s)) μ1:=by rw [Rv,h]; rfl
end
end FL
namespace FL
section
variable {δ : FL.Loc} {μ : Mem} {o : Opn} {cs ds : List String} {f : String} {isa : String -> String -> Option Bool}
@[simp] theorem uU:QO cs f o δ μ=(o.ev δ μ).bind fun r δ1 μ1=>match r.self δ1 with
 | some (.exn c a d)=>if c∈cs/\a=f then .ok (.fr d) δ1 μ1 else .bad
 | _=>.bad:=rfl
@[simp] theorem x9:TR isa ds o δ μ=(o.ev δ μ).bind fun r δ1 μ1=>match r.self δ1 with
 | some (.exn c _ _)=>(match MV (ds.map fun d=>isa c d) with
   | some b=>.ok (.fr (.bl b)) δ1 μ1
   | none=>.bad)
 | _=>.bad:=rfl
@[simp] theorem xZ {n:Bool} {c a:String} {d:D}:WT n (.exn c a d) .non=some (.fr (.bl (false != n))):=rfl
end
end FL
namespace FL.Ix
open PySem L2 FL
def Xa (δ:FL.Loc) (μ:Mem):Out Bool:=(ZN (mV 6)) δ μ
def W_ (δ:FL.Loc) (μ:Mem):Out FL.Slot:=(mV 5) δ μ
def YU (X7:String->String->Option Bool) (δ:FL.Loc) (μ:Mem):OutS:=(Z4 (ZR (ZN (m2 (WT false) (.v 1) (.e (mD .non)))) (ZF (ZQ [(mV 2)]))
  ZW)
  (Z4 (ZR (ZN (TR X7 ["NoDocument","TooMany"] (.v 1))) (ZF (Tq (ZN (mC (Yq X7) [(.v 1),(.e (mD (.glo "NoDocument")))])) (ZD [(mD (.str (lit "absent"))),(QO ["NoDocument"] "absent" (.v 1))]) (ZD [(mD (.str (lit "many"))),(QO ["TooMany"] "most" (.v 1))])))
  ZW)
  (Z4 (ZR (ZN (TR X7 ["NoField","WrongKind"] (.v 1))) (ZF (Tq (ZN (mC (Yq X7) [(.v 1),(.e (mD (.glo "NoField")))])) (ZD [(mD (.str (lit "field"))),(QO ["NoField"] "missing" (.v 1))]) (ZD [(mD (.str (lit "kind"))),(QO ["WrongKind"] "mistaken" (.v 1))])))
  ZW)
  (Z4 (ZK 4 (ZQ [(ZD [(mD (.str (lit "bad field"))),(mC (Yq X7) [(.v 1),(.e (mD (.glo "BadField")))])]),(ZD [(mD (.str (lit "query"))),(mC (Yq X7) [(.v 1),(.e (mD (.glo "BadQuery")))])])]))
  (Z4 (ZK 4 (m2 ZP (.v 4) (.e (ZQ [(ZD [(mD (.str (lit "key"))),(mC (Yq X7) [(.v 1),(.e (mD (.glo "BadKey")))])]),(ZD [(mD (.str (lit "document"))),(mC (Yq X7) [(.v 1),(.e (mD (.glo "BadDocument")))])])]))))
  (Z4 (ZK 4 (m2 ZP (.v 4) (.e (ZQ [(ZD [(mD (.str (lit "number"))),(mC (Yq X7) [(.v 1),(.e (mD (.glo "BadNumber")))])]),(ZD [(mD (.str (lit "segment"))),(mC (Yq X7) [(.v 1),(.e (mD (.glo "NoSegment")))])])]))))
  (Z4 (ZK 4 (m2 ZP (.v 4) (.e (ZQ [(ZD [(mD (.str (lit "change"))),(mC (Yq X7) [(.v 1),(.e (mD (.glo "BadChange")))])]),(ZD [(mD (.str (lit "schema"))),(mC (Yq X7) [(.v 1),(.e (mD (.glo "BadSchema")))])])]))))
  (Z4 (ZK 2 (Tj (Uc (mV 4)) (Vm 2 (XB (Zq 5) (XB (Zq 6) Vn))) Xa W_ [5,6]))
  (ZF (Tq (ZN (m2 (YC false) (.e (mC Zt [(.v 2)])) (.e (mD (.int 1))))) (ZD [(m2 ZL (.v 2) (.e (mD (.int 0)))),(mD (.str (lit "")))]) (ZD [(mD (.str (lit "other"))),(mD (.str (lit "")))]))))))))))) δ μ
abbrev rl (x:D):FL.Loc:=[some (.fr .unk),some (.fr x),some (.fr .non),none,none,none,none]
section
variable {X7 : String -> String -> Option Bool} {μ : Mem} {at_ : String} {v : D}
theorem DQ {c d:String} {b:Bool} (h:X7 c d=some b):Yq X7 [.exn c at_ v,.glo d]=some (.fr (.bl b)):=by
 show (X7 c d).map _=_;rw [h]; rfl
def wF (d:D):Option D:=match d with
 | .tup [.str w,.bl true]=>some (.str w)
 | _=>none
theorem QW:∀ ws:List (Tx×Bool),(ws.map fun p=>D.tup [.str p.1,.bl p.2]).filterMap wF=(ws.filter (·.2)).map fun p=>.str p.1
 | []=>rfl
 | (w,false) :: r=>by
   rw [List.filter_cons_of_neg (by simp),← QW r];rfl
 | (w,true) :: r=>by
   rw [List.filter_cons_of_pos rfl,List.map_cons,List.map_cons,← QW r];rfl
theorem Hq (ws:List (Tx×Bool)) (hl:ws.length < 1000) {x1 x2 x3:Option FL.Slot} {a0:Option FL.Slot} {x4:Option FL.Slot} :
  Sn (Vm 2 (XB (Zq 5) (XB (Zq 6) Vn))) Xa W_ [5,6] (ws.map fun p=>.tup [.str p.1,.bl p.2]) [] [a0,x1,x2,x3,x4,none,none] μ = .ok (.own (.lst ((ws.filter (·.2)).map fun p=>.str p.1))) [a0,x1,x2,x3,x4,none,none] μ:=by
 have h:=Xr (f:=Vm 2 (XB (Zq 5) (XB (Zq 6) Vn))) (t:=Xa) (m:=W_) (vs:=[5,6]) (δ:=[a0,x1,x2,x3,x4,none,none]) (μ:=μ) wF (ds:=ws.map fun p=>.tup [.str p.1,.bl p.2]) (acc:=[]) (fun d hd=>by
  obtain ⟨⟨w,b⟩,_,rfl⟩:=List.mem_map.mp hd;cases b <;> simp [PL,Xa,W_,wF,Vm,XB,Vn,Zq]) (by simpa using by omega)
 rw [h,List.nil_append];congr 2;congr 1;exact QW ws
end
section
variable {X7 : String -> String -> Option Bool} {μ : Mem} {at_ : String} {v : D}
def zM (b5 b6 b7 b8 b9 b10 b11 b12:Bool):List (Tx×Bool):=[(lit "bad field",b5),(lit "query",b6),(lit "key",b7),(lit "document",b8),(lit "number",b9),(lit "segment",b10),(lit "change",b11),(lit "schema",b12)]
theorem Lx {c:String} {b5 b6 b7 b8 b9 b10 b11 b12:Bool} (a1:X7 c "NoDocument" = some false) (a2:X7 c "TooMany" = some false) (a3:X7 c "NoField" = some false) (a4:X7 c "WrongKind" = some false)
  (g5:X7 c "BadField" = some b5) (g6:X7 c "BadQuery" = some b6) (g7:X7 c "BadKey" = some b7) (g8:X7 c "BadDocument" = some b8) (g9:X7 c "BadNumber" = some b9) (g10:X7 c "NoSegment" = some b10) (g11:X7 c "BadChange" = some b11) (g12:X7 c "BadSchema" = some b12)
  {w:Tx} (hw:(zM b5 b6 b7 b8 b9 b10 b11 b12).filter (·.2)=[(w,true)]):YU X7 (rl (.exn c at_ v)) μ = .rt (.fr (.tup [.str w,.str []])) μ:=by
 have le:lit "" = []:=by decide
 have g5:=DQ (at_:=at_) (v:=v) g5;have g6:=DQ (at_:=at_) (v:=v) g6;have g7:=DQ (at_:=at_) (v:=v) g7;have g8:=DQ (at_:=at_) (v:=v) g8;have g9:=DQ (at_:=at_) (v:=v) g9;have g10:=DQ (at_:=at_) (v:=v) g10;have g11:=DQ (at_:=at_) (v:=v) g11;have g12:=DQ (at_:=at_) (v:=v) g12;have lc:=Hq (μ:=μ) (zM b5 b6 b7 b8 b9 b10 b11 b12) (by simp [zM]) (a0:=some (.fr .unk)) (x1:=some (.fr (.exn c at_ v))) (x2:=some (.fr .non)) (x3:=none) (x4:=some (.fr (.lst ((zM b5 b6 b7 b8 b9 b10 b11 b12).map fun p=>.tup [.str p.1,.bl p.2]))));rw [hw] at lc;have s1:∀ (p:MS),ZR (ZN (m2 (WT false) (.v 1) (.e (mD .non)))) p ZW (rl (.exn c at_ v)) μ = .nx (rl (.exn c at_ v)) μ:=fun p=>by simp [rl]
 have s2:∀ (p:MS),ZR (ZN (TR X7 ["NoDocument","TooMany"] (.v 1))) p ZW (rl (.exn c at_ v)) μ = .nx (rl (.exn c at_ v)) μ:=fun p=>by simp [rl,MV,a1,a2]
 have s3:∀ (p:MS),ZR (ZN (TR X7 ["NoField","WrongKind"] (.v 1))) p ZW (rl (.exn c at_ v)) μ = .nx (rl (.exn c at_ v)) μ:=fun p=>by simp [rl,MV,a3,a4]
 have ix:∀ (d:String) (b:Bool) (x4:Option FL.Slot),Yq X7 [.exn c at_ v,.glo d]=some (.fr (.bl b))->mC (Yq X7) [(.v 1),(.e (mD (.glo d)))] [some (.fr .unk),some (.fr (.exn c at_ v)),some (.fr .non),none,x4,none,none] μ = .ok (.fr (.bl b)) [some (.fr .unk),some (.fr (.exn c at_ v)),some (.fr .non),none,x4,none,none] μ:=fun d b x4 h=>by simp [h]
 let L2:List D:=[.tup [.str (lit "bad field"),.bl b5],.tup [.str (lit "query"),.bl b6]]
 let L4:List D:=L2++[.tup [.str (lit "key"),.bl b7],.tup [.str (lit "document"),.bl b8]]
 let L6:List D:=L4++[.tup [.str (lit "number"),.bl b9],.tup [.str (lit "segment"),.bl b10]]
 let L8:List D:=L6++[.tup [.str (lit "change"),.bl b11],.tup [.str (lit "schema"),.bl b12]]
 have r8:L8=(zM b5 b6 b7 b8 b9 b10 b11 b12).map fun p=>.tup [.str p.1,.bl p.2]:=rfl;have q:∀ (x4:Option FL.Slot) (w1 w2:Tx) (d1 d2:String) (b1 b2:Bool),Yq X7 [.exn c at_ v,.glo d1]=some (.fr (.bl b1))->Yq X7 [.exn c at_ v,.glo d2]=some (.fr (.bl b2)) ->
   ZQ [(ZD [(mD (.str w1)),(mC (Yq X7) [(.v 1),(.e (mD (.glo d1)))])]),(ZD [(mD (.str w2)),(mC (Yq X7) [(.v 1),(.e (mD (.glo d2)))])])] [some (.fr .unk),some (.fr (.exn c at_ v)),some (.fr .non),none,x4,none,none] μ = .ok (.own (.lst [.tup [.str w1,.bl b1],.tup [.str w2,.bl b2]])) [some (.fr .unk),some (.fr (.exn c at_ v)),some (.fr .non),none,x4,none,none] μ:=fun x4 w1 w2 d1 d2 b1 b2 h1 h2=>by
  have e1:=ix d1 b1 x4 h1;have e2:=ix d2 b2 x4 h2;generalize mC (Yq X7) [(.v 1),(.e (mD (.glo d1)))]=Q1 at *;generalize mC (Yq X7) [(.v 1),(.e (mD (.glo d2)))]=Q2 at *;simp [e1,e2]
 have add:∀ (L:List D) (w1 w2:Tx) (d1 d2:String) (b1 b2:Bool),L.length < 1000->Yq X7 [.exn c at_ v,.glo d1]=some (.fr (.bl b1))->Yq X7 [.exn c at_ v,.glo d2]=some (.fr (.bl b2)) ->
   ZK 4 (m2 ZP (.v 4) (.e (ZQ [(ZD [(mD (.str w1)),(mC (Yq X7) [(.v 1),(.e (mD (.glo d1)))])]),(ZD [(mD (.str w2)),(mC (Yq X7) [(.v 1),(.e (mD (.glo d2)))])])]))) [some (.fr .unk),some (.fr (.exn c at_ v)),some (.fr .non),none,some (.own (.lst L)),none,none] μ = .nx [some (.fr .unk),some (.fr (.exn c at_ v)),some (.fr .non),none,some (.own (.lst (L++[.tup [.str w1,.bl b1],.tup [.str w2,.bl b2]]))),none,none] μ:=fun L w1 w2 d1 d2 b1 b2 hL h1 h2=>by
  have e:=q (some (.own (.lst L))) w1 w2 d1 d2 b1 b2 h1 h2;generalize ZQ [(ZD [(mD (.str w1)),(mC (Yq X7) [(.v 1),(.e (mD (.glo d1)))])]),(ZD [(mD (.str w2)),(mC (Yq X7) [(.v 1),(.e (mD (.glo d2)))])])]=Q at *;have l1:L.length+2<=16777216:=by omega
  simp [e,l1]
 have t4:ZK 4 (ZQ [(ZD [(mD (.str (lit "bad field"))),(mC (Yq X7) [(.v 1),(.e (mD (.glo "BadField")))])]),(ZD [(mD (.str (lit "query"))),(mC (Yq X7) [(.v 1),(.e (mD (.glo "BadQuery")))])])]) (rl (.exn c at_ v)) μ = .nx [some (.fr .unk),some (.fr (.exn c at_ v)),some (.fr .non),none,some (.own (.lst L2)),none,none] μ:=DR (q none _ _ _ _ _ _ g5 g6);have t5:=add L2 (lit "key") (lit "document") "BadKey" "BadDocument" b7 b8 (by simp [L2]) g7 g8;have t6:=add L4 (lit "number") (lit "segment") "BadNumber" "NoSegment" b9 b10 (by simp [L4,L2]) g9 g10;have t7:=add L6 (lit "change") (lit "schema") "BadChange" "BadSchema" b11 b12 (by simp [L6,L4,L2]) g11 g12;have t8:ZK 2 (Tj (Uc (mV 4)) (Vm 2 (XB (Zq 5) (XB (Zq 6) Vn))) Xa W_ [5,6]) [some (.fr .unk),some (.fr (.exn c at_ v)),some (.fr .non),none,some (.own (.lst L8)),none,none] μ = .nx [some (.fr .unk),some (.fr (.exn c at_ v)),some (.own (.lst [.str w])),none,some (.fr (.lst L8)),none,none] μ:=by
  refine DR (δ1:=[some (.fr .unk),some (.fr (.exn c at_ v)),some (.fr .non),none,some (.fr (.lst L8)),none,none]) ?_;rw [D3];have it:Uc (mV 4) [some (.fr .unk),some (.fr (.exn c at_ v)),some (.fr .non),none,some (.own (.lst L8)),none,none] μ = .ok L8 [some (.fr .unk),some (.fr (.exn c at_ v)),some (.fr .non),none,some (.fr (.lst L8)),none,none] μ:=by
   generalize L8=Z;simp
  rw [it,Wu,r8];exact lc
 unfold YU;rw [ZS (s1 _),ZS (s2 _),ZS (s3 _),ZS t4,ZS t5,ZS t6,ZS t7,ZS t8,le];have i1:ZL (.lst [.str w]) (.int 0)=some (.fr (.str w)):=by rfl
 have i2:Zt [.lst [.str w]]=some (.fr (.int 1)):=by rfl
 simp [i1,i2]
end
end FL.Ix
namespace FL.Ix
open PySem L2 FL
section
variable {at_ : String -> String -> Att} {X7 : String -> String -> Option Bool} {sub : String -> Option Bool} {δ δ' : FL.Loc} {μ μ' : Mem} {j : Nat} {P : Addr} {q : Str} {m : ME} {c a : String} {v : D} {s : FL.Slot}
theorem EO (h:μ[j]?=some (.tab P q)) (hm:m (hide δ) μ = .exc ⟨c,a,v⟩ δ' μ') (hs:sub c=some true) (hr:YU X7 (rl (.exn c a v)) μ' = .rt s μ'):Wg (VM sub 3 (YU X7)) j P q m δ μ = .ok s δ μ':=by
 unfold Wg;rw [h];simp only [and_self,if_true];have e1:WL m δ μ = .exc ⟨c,a,v⟩ μ':=by
  unfold WL;rw [hm]
 have e2:VM sub 3 (YU X7) (WL m δ) μ = .ok s μ':=by
  unfold VM;rw [e1];simp only [hs];have:([some (FL.Slot.fr .unk),some (FL.Slot.fr (.exn c a v)),some (FL.Slot.fr .non),none]++List.replicate 3 none:FL.Loc)=rl (.exn c a v):=rfl;rw [this,hr];rfl
 rw [e2]
end
end FL.Ix
namespace FL.S
def Y1 (δ:FL.Loc) (μ:Mem):OutS:=(Z4 (ZR (QT (XT (ZN (mC Yc [(.v 0),(.e (mD (.ty "int")))]))) (ZN (mC Yc [(.v 0),(.e (mD (.ty "bool")))]))) (ZF (mD (.bl false)))
  ZW)
  (ZF (X' (ON (m2 (WT false) (.v 1) (.e (mD .non))) (m2 Tv (.v 1) (.v 0))) (ON (m2 (WT false) (.v 2) (.e (mD .non))) (m2 Tv (.v 0) (.v 2)))))) δ μ
def ZO:MF:=Zu 3 (Y1)
end FL.S
namespace FL
open PySem L2
def Si:D->Bool
 | .non | .bl _ | .int _ | .str _ | .lst _ | .tup _ | .dct _ _=>true
 | _=>false
def W9:D->Bool
 | .int _ | .bl _=>true
 | _=>false
def Vy:D->Bool
 | .bl _=>true
 | _=>false
theorem uT:kitB "NoneType" "int" = some false/\kitB "bool" "int" = some true/\kitB "int" "int" = some true/\kitB "list" "int" = some false/\kitB "tuple" "int" = some false/\kitB "dict" "int" = some false/\kitB "str" "int" = some false:=by
 refine ⟨?_,?_,?_,?_,?_,?_,?_⟩ <;> kernel_rfl
theorem uS:kitB "NoneType" "bool" = some false/\kitB "bool" "bool" = some true/\kitB "int" "bool" = some false/\kitB "list" "bool" = some false/\kitB "tuple" "bool" = some false/\kitB "dict" "bool" = some false/\kitB "str" "bool" = some false:=by
 refine ⟨?_,?_,?_,?_,?_,?_,?_⟩ <;> kernel_rfl
theorem EN {d:D} (h:Si d=true):Yc [d,.ty "int"]=some (tb (W9 d)):=by
 obtain ⟨h1,h2,h3,h4,h5,h6,h7⟩:=uT;cases d <;> first | (cases h; done) | simp [Yc,Dm,W9,h1,h2,h3,h4,h5,h6,h7]
theorem BP {d:D} (h:Si d=true):Yc [d,.ty "bool"]=some (tb (Vy d)):=by
 obtain ⟨h1,h2,h3,h4,h5,h6,h7⟩:=uS;cases d <;> first | (cases h; done) | simp [Yc,Dm,Vy,h1,h2,h3,h4,h5,h6,h7]
section
variable {μ : Mem}
def uR (lo hi:Int):D->Bool
 | .int i=>decide (lo<=i/\i<=hi)
 | _=>false
def dF (at_:String->String->Att) (f:String):D->Option D
 | .ins c ks vs=>(match at_ c f with
   | .fld=>getF ks vs f
   | _=>none)
 | _=>none
end
end FL
namespace FL
open PySem L2
def sR (f:Tx) (ws:List Tx) (g:Int):Tx:=if g=0 then f++lit ":\"" ++ Qx (lit " ") ws++lit "\"" else f++lit ":\"" ++ Qx (lit " ") ws++lit "\"" ++ lit "~" ++ Sa g
def tQ:Option Int->Tx
 | none=>[]
 | some i=>Sa i
end FL
namespace FL
open PySem L2
def XQ (at_:String->String->Att) (d:D):Int:=match dF at_ "own_levels" d with
 | some (.int s)=>s
 | _=>0
end FL
namespace FL
open PySem L2
def sQ (xs:List Tx) (t0:Tx) (m:Int) (po:Bool):Tx :=
 if 1 < xs.length then (if m=1 then Qx (lit " | ") xs else lit "(" ++ Qx (lit " | ") xs++lit ")@" ++ Sa m)
 else if m=1 then lit "|(" ++ t0++lit ")" else if po=true then lit "((" ++ t0++lit "))@" ++ Sa m else lit "(" ++ t0++lit ")@" ++ Sa m
section
variable {at_ : String -> String -> Att} {isa isb : String -> String -> Option Bool} {d : D} {μ : Mem} {k kd : Nat}
theorem EM {d:D} (h:Si d=true):S.ZO [d,.non,.non] μ = .ok (.fr (.bl (W9 d && !Vy d))) μ:=by
 have e1:=EN h;have e2:=BP h;cases d <;> first | (cases h; done) | simp [S.ZO,S.Y1,ZZ,e1,e2,W9,Vy]
def uQ (a b:Int):Tx:=if b=1 then lit "^" ++ Sa a else lit "^" ++ Sa a++lit "/" ++ Sa b
end
end FL
namespace FL
open PySem L2
section
variable {at_ : String -> String -> Att} {isa isb : String -> String -> Option Bool} {d : D} {μ : Mem} {k kd : Nat}
def Bd:Option Int->Prop
 | none=>True
 | some i => -1000000000<=i/\i<=1000000000
end
end FL
namespace FL
open PySem L2
inductive Frm where
 | term (f w:Tx)
 | phra (f:Tx) (ws:List Tx) (g:Int)
 | pref (f w:Tx)
 | rang (f:Tx) (a b:Option Int)
 | ever
 | all (ps:List Frm)
 | some (ps:List Frm) (m:Int)
 | weig (b:Frm) (x y:Int)
 | wout (b e:Frm)
end FL
namespace FL
open PySem L2
def DP:Frm->Bool
 | .some ps m=>decide (m=1)&&decide (ps.length≠1)
 | _=>false
def BC (b:Bool):Frm->Bool
 | .all ps=>decide (ps.length≠1)
 | .some ps m=>decide (m=1)&&decide (ps.length≠1)
 | .wout _ _=>true
 | .weig _ _ _=>b
 | _=>false
def par (b:Bool) (x:Tx):Tx:=if b=true then lit "(" ++ x++lit ")" else x
def tO (ps:List Frm) (xs:List Tx):List Tx:=List.zipWith (fun p x=>par (BC false p) x) ps xs
def uP (xs ys:List Tx):Tx:=match xs with
 | [x]=>lit "&(" ++ x++lit ")"
 | _=>Qx (lit " & ") ys
mutual
/-- the notation -/
def nt:Frm->Tx
 | .term f w=>f++lit ":" ++ w
 | .phra f ws g=>sR f ws g
 | .pref f w=>f++lit ":" ++ w++lit "*"
 | .rang f a b=>f++lit ":[" ++ tQ a++lit "," ++ tQ b++lit "]"
 | .ever=>lit "#"
 | .all ps=>uP (zL ps) (tO ps (zL ps))
 | .some ps m=>sQ (tO ps (zL ps)) ((zL ps).headD []) m (DP (ps.headD .ever))
 | .weig b x y=>par (BC true b) (nt b)++uQ x y
 | .wout b e=>par (BC false b) (nt b)++lit " ! " ++ par (BC false e) (nt e)
def zL:List Frm->List Tx
 | []=>[]
 | p :: ps=>nt p :: zL ps
end
def np (b:Bool) (F:Frm):Tx:=par (BC b F) (nt F)
end FL
namespace FL
open PySem L2
def Ss (c:Nat):Bool:=decide (c=45)||(decide (48<=c)&&decide (c<=57))
def Kj (t:Tx):Int:=Classical.epsilon fun i=>Sa i=t
def tM (t:Tx):Option Int:=if t=[] then none else some (Kj t)
def EL (c:Nat):Bool:=decide (c∈WS)
def zK (t:Tx):Option (Frm×Tx) :=
 match t.dropWhile EL with
 | 58 :: 91 :: r1=>(match r1.dropWhile Ss with
   | 44 :: r2=>(match r2.dropWhile Ss with
     | 93 :: r3=>some (.rang (t.takeWhile EL) (tM (r1.takeWhile Ss)) (tM (r2.takeWhile Ss)),r3)
     | _=>none)
   | _=>none)
 | 58 :: 34 :: r1=>(match r1.dropWhile (fun c=>decide (c≠34)) with
   | 34 :: 126 :: r2=>some (.phra (t.takeWhile EL) (PM (r1.takeWhile (fun c=>decide (c≠34)))) (Kj (r2.takeWhile Ss)),r2.dropWhile Ss)
   | 34 :: r2=>some (.phra (t.takeWhile EL) (PM (r1.takeWhile (fun c=>decide (c≠34)))) 0,r2)
   | _=>none)
 | 58 :: r1=>(match r1.dropWhile EL with
   | 42 :: r2=>some (.pref (t.takeWhile EL) (r1.takeWhile EL),r2)
   | r2=>some (.term (t.takeWhile EL) (r1.takeWhile EL),r2))
 | _=>none
abbrev RT:=Tx->Option (Frm×Bool×Tx)
abbrev RP:=Tx->Option (Frm×Tx)
def uO (F:Frm) (b:Bool) (m:Int):Frm:=match b,F with
 | true,.some ps _=>.some ps m
 | _,F=>.some [F] m
def uN (pT:RT):RP
 | 35 :: r=>some (.ever,r)
 | 38 :: 40 :: r=>(match pT r with
   | some (F,_,41 :: s)=>some (.all [F],s)
   | _=>none)
 | 124 :: 40 :: r=>(match pT r with
   | some (F,_,41 :: s)=>some (.some [F] 1,s)
   | _=>none)
 | 40 :: r=>(match pT r with
   | some (F,b,41 :: 64 :: s)=>some (uO F b (Kj (s.takeWhile Ss)),s.dropWhile Ss)
   | some (F,b,41 :: s)=>some (F,s)
   | _=>none)
 | t=>zK t
def wP (pT:RT) (t:Tx):Option (Frm×Tx):=match uN pT t with
 | some (F,94 :: r)=>(match r.dropWhile Ss with
   | 47 :: s=>some (.weig F (Kj (r.takeWhile Ss)) (Kj (s.takeWhile Ss)),s.dropWhile Ss)
   | s=>some (.weig F (Kj (r.takeWhile Ss)) 1,s))
 | o=>o
def eP (pT:RT) (t:Tx):Option (Frm×Tx):=match wP pT t with
 | some (F,32 :: 33 :: 32 :: r)=>(match wP pT r with
   | some (G,s)=>some (.wout F G,s)
   | none=>none)
 | o=>o
def lp (sep:Nat) (p:RP):Nat->Tx->Option (List Frm×Tx)
 | k+1,32 :: c :: 32 :: r=>if c=sep then (match p r with
   | some (F,s)=>(match lp sep p k s with
     | some (Fs,u)=>some (F :: Fs,u)
     | none=>none)
   | none=>none) else some ([],32 :: c :: 32 :: r)
 | _,t=>some ([],t)
def aP (pT:RT) (t:Tx):Option (Frm×Tx):=match eP pT t with
 | some (F,r)=>(match lp 38 (eP pT) 8 r with
   | some ([],s)=>some (F,s)
   | some (Fs,s)=>some (.all (F :: Fs),s)
   | none=>none)
 | none=>none
def tP (pT:RT) (t:Tx):Option (Frm×Bool×Tx):=match aP pT t with
 | some (F,r)=>(match lp 124 (aP pT) 8 r with
   | some ([],s)=>some (F,false,s)
   | some (Fs,s)=>some (.some (F :: Fs) 1,true,s)
   | none=>none)
 | none=>none
def tN:Nat->RT
 | 0=>fun _=>none
 | n+1=>tP (tN n)
def F3 (r:Tx):Prop:=r=[]\/∃ s,r=41 :: s
def F1 (r:Tx):Prop:=r=[]\/∃ c s,r=c :: s/\(c=41\/c=32\/c=94)
end FL
namespace FL
open PySem L2
def Good (pT:RT) (F:Frm):Prop:=∀ r,F3 r->pT (nt F++r)=some (F,DP F,r)
def zJ (pT:RT) (F:Frm):Prop:=∀ r,F1 r->uN pT (nt F++r)=some (F,r)
variable {pT : RT} {F G : Frm}
end FL
namespace FL
open PySem L2
variable {W : Nat}
def Rd (n:Nat) (F:Frm):Prop:=(∀ k,2 * n+1<=k->Good (tN k) F)/\(BC true F=false->∀ k,2 * n<=k->zJ (tN k) F)/\∀ b x y,F = .weig b x y->∀ k,2 * n<=k->∀ s,F1 s->uN (tN k) (np true b++s)=some (b,s)
end FL
namespace FL
open PySem L2
section
variable {at_ : String -> String -> Att} {isa isb : String -> String -> Option Bool} {pp pl pn : String -> String -> Option MF} {μ : Mem}
theorem Ny {α:Type} (xs:List α) (j:Nat):cutD xs none (some (j:Int))=xs.take j:=by
 have h1:HT.sIx xs.length 0 none=0:=rfl;have h2:=HT.sIx_nat xs.length xs.length j;unfold cutD;rw [h1,h2];simp only [List.drop_zero,Nat.sub_zero];by_cases h:j<=xs.length
 ·rw [Nat.min_eq_left h]
 ·rw [Nat.min_eq_right (by omega),List.take_of_length_le (by omega),List.take_of_length_le (by omega)]
theorem Nw {α:Type} (xs:List α) (j:Nat):cutD xs (some ((j:Int)+1)) none=xs.drop (j+1):=by
 have h1:HT.sIx xs.length 0 (some ((j:Int)+1))=min (j+1) xs.length:=by
  have:=HT.sIx_nat xs.length 0 (j+1);rwa [show (((j+1:Nat):Int))=(j:Int)+1 by push_cast; rfl] at this
 have h2:HT.sIx xs.length xs.length none=xs.length:=rfl;unfold cutD;rw [h1,h2];by_cases h:j+1<=xs.length
 ·rw [Nat.min_eq_left h,List.take_of_length_le (by rw [List.length_drop]; omega)]
 ·rw [Nat.min_eq_right (by omega),List.drop_of_length_le (by omega),List.drop_of_length_le (by omega)]; simp
theorem Ms {α:Type} {xs:List α} {j:Nat} {x:α} (h:xs[j]?=some x):L2.atI xs (j:Int)=some x:=by
 have hl:=(List.getElem?_eq_some_iff.mp h).1;unfold L2.atI ixN;rw [if_pos (by omega),if_pos (by omega)];simpa using h
@[simp] theorem xY {xs ys:List D}:ZP (.tup xs) (.tup ys)=if xs.length+ys.length<=16777216 then some (.fr (.tup (xs++ys))) else none:=by
 by_cases h:xs.length+ys.length<=16777216 <;> simp [ZP,gInt,Wh,Sq,RE,h]
end
end FL
namespace FL
open PySem L2
section
variable {at_ : String -> String -> Att} {isa isb : String -> String -> Option Bool} {pp pl pn : String -> String -> Option MF} {μ : Mem}
theorem XD (neg:Bool) (xs:List D):WB neg (.lst xs) (.lst [])=some (FL.tb (decide (xs=[]) != neg)):=by
 have hg:Ur neg (.lst xs) (.lst [])=some (FL.tb (decide (xs=[]) != neg)):=by
  cases xs <;> cases neg <;> simp [Ur]
 unfold WB;cases h:YC neg (.lst xs) (.lst []) with
 | none=>exact hg
 | some s =>
   show some s=_;rw [← h];cases hp:D.pys xs with
   | none=>simp [YC,Qy,eqP,D.py,hp] at h
   | some qs =>
     have e2:PyData.eqvAll qs []=decide (xs=[]):=by
      cases xs with
      | nil=>cases hp; rfl
      | cons x xs =>
        cases qs with
        | nil =>
          simp only [D.pys] at hp
          split at hp <;> cases hp
        | cons y ys=>simp [PyData.eqvAll]
     by_cases hs:(SeqAt.shaped (.list qs)&&SeqAt.shaped (.list []))=true
     ·rw [Bool.and_eq_true] at hs
      simp [YC,Qy,eqP,D.py,D.pys,hp,hs.1,hs.2,PyData.eqv,e2]
     ·have hs:(SeqAt.shaped (.list qs)&&SeqAt.shaped (.list []))=false:=by simpa using hs
      simp [YC,Qy,eqP,D.py,D.pys,hp,hs] at h
end
end FL
namespace FL.Ix
open PySem L2 FL
section
variable {N ix i t : Nat} {S : St} {δ δ2 : FL.Loc} {μ μ2 : Mem} {mt : String -> String -> Nat -> Option MF} {f : String} {ms : List ME} {m : MF} {ds : List D} {x : FL.Exc} {c a : String} {v : D} {X7 : String -> String -> Option Bool} {sub : String -> Option Bool} {P : Addr} {q : Str} {s : FL.Slot}
theorem Ho (h:IxAt N μ ix S) (hv:δ[i]?=some (some (.fr (.obj ix)))) (hf:f∉G1) (hm:mt "Index" f ms.length=some m) (ha:XF ms δ μ = .ok ds δ2 μ2) {μ3:Mem} (hr:m (.obj ix :: ds) μ2 = .exc x μ3) :
  Zk mt f (.v i) ms δ μ = .exc x δ2 μ3:=by
 obtain ⟨vs,hl,hi⟩:=h.ins;rw [RJ,Ge,hv];have e:(OR.i i).self δ=some (.obj ix):=by rw [MW,hv]
 simp only [Wu,e,hi,Ly hl hf,if_true,hm,ha,hr]
end
end FL.Ix
namespace FL.Sx
open PySem L2 FL FL.Ix
section
variable {at_ : String -> String -> Att} {mw mn : String -> String -> Nat -> Option MF} {pp : String -> String -> Option MF} {μ : Mem} {N ix : Nat} {S : Ix.St} {k f x : Tx} {nfm : MF} {X K F : D} {e : FL.Exc}
theorem DO {m n:MS} {δ δ1:FL.Loc} {μ1:Mem} (h:m δ μ = .exc e δ1 μ1):Z4 m n δ μ = .exc e δ1 μ1:=by rw [CD,h]; rfl
end
end FL.Sx
namespace FL.Ix
open PySem L2 FL
def Zs (δ:FL.Loc) (μ:Mem):OutS:=(ZR (XT (ZN (ZX ZO [(mV 3),(mD .non),(mD .non)] []))) (Y9 "BadNumber" "reason" (mD (.str (lit "not an integer"))))
  ZW) δ μ
def Yr (at_:String->String->Att) (δ:FL.Loc) (μ:Mem):OutS:=(W6 (VS "list" Rn (.v 4) [(ZX (Zd at_) [(mV 5),(Yu at_ "kept" (.v 0))] [])])) δ μ
def YD (at_:String->String->Att) (δ:FL.Loc) (μ:Mem):OutS:=(Z4 (WD (Uc (ZD [(mV 1),(mV 2)])) (Zq 3) Zs)
  (Z4 (ZR (QT (XT (ZN (UW Tv Tv Nl (.e (mD (.int 0))) (.v 1) (.v 2) (.e (mC Zt [(.e (Yu at_ "pieces" (.v 0)))]))))) (ZN (Yu at_ "is_open" (.e (m2 ZL (.e (Yu at_ "pieces" (.v 0))) (.v 2)))))) (Y9 "NoSegment" "reason" (mD (.str (lit "not the numbers of closed segments in order"))))
  ZW)
  (Z4 (ZK 4 (ZQ []))
  (Z4 (WD (Uc (QP UE (.e (Yu at_ "pieces" (.v 0))) (mP (mV 1)) (mP (m2 ZP (.v 2) (.e (mD (.int 1))))))) (Zq 5) (Yr at_))
  (Z4 (ZK 6 (Tq (ZN (m2 (WB true) (.v 4) (.e (ZQ [])))) (ZQ [(YI (mkF "Segment" (Y8 at_)) [.pos 0,.pos 1] [(mV 4),(mD (.bl false))] [] [])]) (ZQ [])))
  (Xt at_ "pieces" (.v 0) (m2 ZP (.e (m2 ZP (.e (QP UE (.e (Yu at_ "pieces" (.v 0))) UM (mP (mV 1)))) (.v 6))) (.e (QP UE (.e (Yu at_ "pieces" (.v 0))) (mP (m2 ZP (.v 2) (.e (mD (.int 1))))) UM))))))))) δ μ
def Y7 (at_:String->String->Att):MF:=Zu 7 (YD at_)
def liveP (es:List En) (ps:List Pc):List (Tx×Nat):=ps.flatMap fun q=>q.1.filter (isLive es)
def VH (es:List En) (ps:List Pc) (a b:Nat):List Pc:=ps.take a++(if liveP es ((ps.drop a).take (b+1 - a))=[] then [] else [(liveP es ((ps.drop a).take (b+1 - a)),false)])++ps.drop (b+1)
def St.merge (S:St) (a b:Nat):St:={ S with ps:=VH S.es S.ps a b }
def XI (ps:List Pc) (a b:Int):Bool:=decide (0<=a)&&decide (a<=b)&&decide (b < ps.length) && !((ps[b.toNat]?.map (·.2)).getD true)
section
variable {at_ : String -> String -> Att} {N ix kd : Nat} {μ : Mem} {S : St}
theorem Hn {d:D} (h:Si d=true):ZO [d,.non,.non] μ = .ok (.fr (.bl (W9 d && !Vy d))) μ:=by
 rw [show (ZO:MF)=FL.S.ZO from rfl];exact EM h
theorem UR {g g' g2:D->D->Option FL.Slot} {oa ob oc od:Opn} {δ:FL.Loc}:UW g g' g2 oa ob oc od δ μ=(oa.ev δ μ).bind fun ra δ1 μ1=>(ob.ev δ1 μ1).bind fun rb δ2 μ2=>match ra.at δ2 μ2,rb.at δ2 μ2 with
  | some da,some db=>match g da db with
    | some (.fr (.bl true))=>(oc.ev δ2 μ2).bind fun rc δ3 μ3=>match rb.at δ3 μ3,rc.at δ3 μ3 with
      | some db',some dc=>match g' db' dc with
        | some (.fr (.bl true))=>(od.ev δ3 μ3).bind fun rd δ4 μ4=>match rc.at δ4 μ4,rd.at δ4 μ4 with
          | some dc',some dd=>lift (g2 dc' dd) δ4 μ4
          | _,_=>.bad
        | some (.fr (.bl false))=>.ok (.fr (.bl false)) δ3 μ3
        | _=>.bad
      | _,_=>.bad
    | some (.fr (.bl false))=>.ok (.fr (.bl false)) δ2 μ2
    | _=>.bad
  | _,_=>.bad:=rfl
abbrev ml (ix:Nat) (a b:D) (x3 x4 x5 x6:Option FL.Slot):FL.Loc:=[some (.fr (.obj ix)),some (.fr a),some (.fr b),x3,x4,x5,x6]
abbrev O5:FL.Exc:=⟨"BadNumber","reason",.str (lit "not an integer")⟩
abbrev BO:FL.Exc:=⟨"NoSegment","reason",.str (lit "not the numbers of closed segments in order")⟩
theorem Nv {a b d:D} {x3 x4 x5 x6:Option FL.Slot} (h:Si d=true):Zv (Zq 3) Zs d (ml ix a b x3 x4 x5 x6) μ=if (W9 d && !Vy d)=true then .nx (ml ix a b (some (.fr d)) x4 x5 x6) μ else .exc O5 (ml ix a b (some (.fr d)) x4 x5 x6) μ:=by
 have e:=Hn (μ:=μ) h;rw [U0]
 show Zs (ml ix a b (some (.fr d)) x4 x5 x6) μ=_;unfold Zs O5;generalize lit "not an integer" = w at *;cases c:(W9 d && !Vy d) <;> rw [c] at e <;> simp [e]
theorem Lw {a b:D} {x3 x4 x5 x6:Option FL.Slot} (ha:Si a=true) (hb:Si b=true):WD (Uc (ZD [(mV 1),(mV 2)])) (Zq 3) Zs (ml ix a b x3 x4 x5 x6) μ=if (W9 a && !Vy a)=true then (if (W9 b && !Vy b)=true then .nx (ml ix a b (some (.fr b)) x4 x5 x6) μ else .exc O5 (ml ix a b (some (.fr b)) x4 x5 x6) μ) else .exc O5 (ml ix a b (some (.fr a)) x4 x5 x6) μ:=by
 have it:Uc (ZD [(mV 1),(mV 2)]) (ml ix a b x3 x4 x5 x6) μ = .ok [a,b] (ml ix a b x3 x4 x5 x6) μ:=by simp
 rw [Tc,it,Qp,Xj,Nv ha];by_cases c:(W9 a && !Vy a)=true
 ·rw [if_pos c,if_pos c,LY,Xj,Nv hb]
  by_cases c2:(W9 b && !Vy b)=true
  ·rw [if_pos c2]; rfl
  ·rw [if_neg c2]; rfl
 ·rw [if_neg c,if_neg c]; rfl
theorem Lv (A:IA at_) (h:IxAt N μ ix S) (hN:N < 1000) {a b:Int} {x3 x4 x5 x6:Option FL.Slot} :
  ZR (QT (XT (ZN (UW Tv Tv Nl (.e (mD (.int 0))) (.v 1) (.v 2) (.e (mC Zt [(.e (Yu at_ "pieces" (.v 0)))]))))) (ZN (Yu at_ "is_open" (.e (m2 ZL (.e (Yu at_ "pieces" (.v 0))) (.v 2)))))) (Y9 "NoSegment" "reason" (mD (.str (lit "not the numbers of closed segments in order"))))
  ZW (ml ix (.int a) (.int b) x3 x4 x5 x6) μ=if XI S.ps a b=true then .nx (ml ix (.int a) (.int b) x3 x4 x5 x6) μ else .exc BO (ml ix (.int a) (.int b) x3 x4 x5 x6) μ:=by
 obtain ⟨kd,hc⟩:=h.cell;have a3:=A.p;have a5:=A.so;have l2:=h.l2;unfold XI BO;generalize lit "not the numbers of closed segments in order" = w at *;by_cases c1:0<=a
 ·by_cases c2:a<=b
  ·by_cases c3:b < S.ps.length
   ·obtain ⟨n,rfl⟩:∃ n:Nat,b=n:=⟨b.toNat,by omega⟩
    have hn:n < S.ps.length:=by omega
    have gi:S.ps[n]?=some S.ps[n]:=List.getElem?_eq_getElem hn;have ix:ZL (.lst (S.ps.map Xy)) (.int n)=some (.fr (Xy S.ps[n])):=by
     have:L2.atI (S.ps.map Xy) (n:Int)=some (Xy S.ps[n]):=by
      exact Ms (by rw [List.getElem?_map,gi]; rfl)
     simp [ZL,this]
    simp [UR,a3,a5,hc,ix,gi,c1,c2,c3];cases S.ps[n].2 <;> simp
   ·simp [UR,a3,a5,hc,c1,c2,c3]
  ·simp [UR,a3,a5,hc,c1,c2]
 ·simp [UR,a3,a5,hc,c1]
theorem uM {α:Type} {xs:List α} {a b:Nat} (h:a<=b) (hb:b < xs.length):cutD xs (some (a:Int)) (some ((b:Int)+1))=(xs.drop a).take (b+1 - a):=by
 have h1:HT.sIx xs.length 0 (some (a:Int))=a:=by
  have:=HT.sIx_nat xs.length 0 a;rw [this]; omega
 have h2:HT.sIx xs.length xs.length (some ((b:Int)+1))=b+1:=by
  have:=HT.sIx_nat xs.length xs.length (b+1);rw [show (((b+1:Nat):Int))=(b:Int)+1 by push_cast; rfl] at this;rw [this]; omega
 unfold cutD;rw [h1,h2]
theorem Ug {x y:List D} (h:x.length+y.length<=16777216):ZP (.lst x) (.lst y)=some (.own (.lst (x++y))):=by
 simp [ZP,gInt,Wh,Sq,h]
theorem EK {l m:List (Tx×Nat)}:obs (l++m)=obs l++obs m:=List.map_append
theorem WI (A:IA at_) (hc:μ[ix]?=some (WA S kd)) (he:∀ e∈S.es,∃ kd' ks' vs',μ[e.n]?=some (.ins "Entry" kd' ks' vs')) {a b:D} {x3 x6:Option FL.Slot}:∀ (qs:List Pc) (acc:List (Tx×Nat)) (x5:Option FL.Slot),(∀ q∈qs,(∀ p∈q.1,∃ d,EntAt μ p.2 p.1 d)/\q.1.length < 1000)->acc.length+1000 * qs.length<=16777216 ->
  ∃ x5',Wn (Zv (Zq 5) (Yr at_)) (qs.map Xy) (ml ix a b x3 (some (.own (.lst (obs acc)))) x5 x6) μ = .nx (ml ix a b x3 (some (.own (.lst (obs (acc++liveP S.es qs))))) x5' x6) μ
 | [],acc,x5,_,_=>⟨x5,by simp [Wn,liveP]⟩
 | q :: qs,acc,x5,h,hl=>by
   have a2:=A.k;obtain ⟨h1,h2⟩:=h q List.mem_cons_self;have e:=Lz A he h1 h2;have fl:(q.1.filter (isLive S.es)).length<=q.1.length:=List.length_filter_le _ _;rw [List.length_cons] at hl;obtain ⟨x5',ih⟩:=WI A hc he qs (acc++q.1.filter (isLive S.es)) (some (.fr (Xy q))) (fun q hq=>h q (List.mem_cons_of_mem _ hq)) (by rw [List.length_append]; omega) (a:=a) (b:=b) (x3:=x3) (x6:=x6);refine ⟨x5',?_⟩;have t:Zv (Zq 5) (Yr at_) (Xy q) (ml ix a b x3 (some (.own (.lst (obs acc)))) x5 x6) μ = .nx (ml ix a b x3 (some (.own (.lst (obs (acc++q.1.filter (isLive S.es)))))) (some (.fr (Xy q))) x6) μ:=by
    rw [U0]
    show Yr at_ (ml ix a b x3 (some (.own (.lst (obs acc)))) (some (.fr (Xy q))) x6) μ=_;unfold Yr;have g:Rn (.lst (obs acc)) [.lst (obs (q.1.filter (isLive S.es)))]=some (.non,.lst (obs (acc++q.1.filter (isLive S.es)))):=by
     rw [EK];have:(obs acc).length+(obs (q.1.filter (isLive S.es))).length<=16777216:=by
      rw [List.length_map,List.length_map]; omega
     simp only [Rn,this,if_true]
    generalize obs (acc++q.1.filter (isLive S.es))=O1 at *;generalize obs (q.1.filter (isLive S.es))=O2 at *;generalize obs acc=O3 at *;generalize Xy q=PQ at *;simp [a2,hc,e,g]
   rw [List.map_cons,Xj,t,LY,ih];rw [show acc++q.1.filter (isLive S.es)++liveP S.es qs=acc++liveP S.es (q :: qs) by rw [List.append_assoc]; rfl]
theorem Mr (A:IA at_) (h:IxAt N μ ix S) (hc:μ[ix]?=some (WA S kd)) (hN:N < 1000) {a b:Nat} (hm:XI S.ps a b=true):Y7 at_ [.obj ix,.int a,.int b] μ = .ok (.fr .non) (μ.set ix (WA (S.merge a b) kd)):=by
 have l2:=h.l2;have a3:=A.p;have hm':=hm;unfold XI at hm';simp only [Bool.and_eq_true,decide_eq_true_eq] at hm';have hab:a<=b:=by omega
 have hb:b < S.ps.length:=by omega
 have ent:∀ e∈S.es,∃ kd' ks' vs',μ[e.n]?=some (.ins "Entry" kd' ks' vs'):=fun e he=>let ⟨kd,w,z,_⟩:=(h.ent e he).1; ⟨kd,_,_,z⟩;have sub:∀ q∈(S.ps.drop a).take (b+1 - a),q∈S.ps:=fun q hq=>List.mem_of_mem_drop (List.mem_of_mem_take hq);have ql:((S.ps.drop a).take (b+1 - a)).length<=1000:=by
  rw [List.length_take,List.length_drop]; omega
 rw [show Y7 at_=Zu 7 (YD at_) from rfl,X_];unfold YD;rw [show ZZ 7 [D.obj ix,.int a,.int b]=ml ix (.int a) (.int b) none none none none from rfl];have q1:WD (Uc (ZD [(mV 1),(mV 2)])) (Zq 3) Zs (ml ix (.int a) (.int b) none none none none) μ = .nx (ml ix (.int a) (.int b) (some (.fr (.int b))) none none none) μ:=Lw (ix:=ix) (μ:=μ) (a:=.int a) (b:=.int b) (x3:=none) (x4:=none) (x5:=none) (x6:=none) rfl rfl;have q2:=Lv (a:=a) (b:=b) (x3:=some (.fr (.int b))) (x4:=none) (x5:=none) (x6:=none) A h hN;rw [if_pos hm] at q2;rw [ZS q1,ZS q2];have q3:ZK 4 (ZQ []) (ml ix (.int a) (.int b) (some (.fr (.int b))) none none none) μ = .nx (ml ix (.int a) (.int b) (some (.fr (.int b))) (some (.own (.lst (obs [])))) none none) μ:=rfl;rw [ZS q3];obtain ⟨x5,lp⟩:=WI (a:=.int a) (b:=.int b) (x3:=some (.fr (.int b))) (x6:=none) A hc ent ((S.ps.drop a).take (b+1 - a)) [] none (fun q hq=>⟨h.seg q (sub q hq),by have:=h.l3 q (sub q hq); omega⟩) (by show 0+_<=_; omega);rw [List.nil_append] at lp;have cr:=uM (xs:=S.ps.map Xy) hab (by rw [List.length_map]; exact hb);rw [← List.map_drop,← List.map_take] at cr;have q4:WD (Uc (QP UE (.e (Yu at_ "pieces" (.v 0))) (mP (mV 1)) (mP (m2 ZP (.v 2) (.e (mD (.int 1))))))) (Zq 5) (Yr at_) (ml ix (.int a) (.int b) (some (.fr (.int b))) (some (.own (.lst (obs [])))) none none) μ = .nx (ml ix (.int a) (.int b) (some (.fr (.int b))) (some (.own (.lst (obs (liveP S.es ((S.ps.drop a).take (b+1 - a))))))) x5 none) μ:=by
  have it:Uc (QP UE (.e (Yu at_ "pieces" (.v 0))) (mP (mV 1)) (mP (m2 ZP (.v 2) (.e (mD (.int 1)))))) (ml ix (.int a) (.int b) (some (.fr (.int b))) (some (.own (.lst (obs [])))) none none) μ = .ok (((S.ps.drop a).take (b+1 - a)).map Xy) (ml ix (.int a) (.int b) (some (.fr (.int b))) (some (.own (.lst (obs [])))) none none) μ:=by
   generalize ((S.ps.drop a).take (b+1 - a)).map Xy=O at *;simp [a3,hc,UE,cr]
  rw [Tc,it,Qp];exact lp
 rw [ZS q4];have lo:∀ p∈liveP S.es ((S.ps.drop a).take (b+1 - a)),p.2 < μ.length:=fun p hp=>by
  obtain ⟨q,hq,hp⟩:=List.mem_flatMap.mp hp;obtain ⟨d,z⟩:=h.seg q (sub q hq) p (List.mem_filter.mp hp).1;exact z.lt
 have e1:=QZ (μ:=μ) A (es:=obs (liveP S.es ((S.ps.drop a).take (b+1 - a)))) (o:=false) (O6 lo);have ct:=Ny (S.ps.map Xy) a;have cd:=Nw (S.ps.map Xy) b;have fin:∀ (M:List Pc) (x4:Option FL.Slot),M.length<=1->Xt at_ "pieces" (.v 0) (m2 ZP (.e (m2 ZP (.e (QP UE (.e (Yu at_ "pieces" (.v 0))) UM (mP (mV 1)))) (.v 6))) (.e (QP UE (.e (Yu at_ "pieces" (.v 0))) (mP (m2 ZP (.v 2) (.e (mD (.int 1))))) UM))) (ml ix (.int a) (.int b) (some (.fr (.int b))) x4 x5 (some (.own (.lst (M.map Xy))))) μ = .nx (ml ix (.int a) (.int b) (some (.fr (.int b))) x4 x5 (some (.own (.lst (M.map Xy))))) (μ.set ix (WA { S with ps:=S.ps.take a++M++S.ps.drop (b+1) } kd)):=fun M x4 hM=>by
  have tk:((S.ps.map Xy).take a).length<=1000:=by rw [List.length_take,List.length_map]; omega
  have dk:((S.ps.map Xy).drop (b+1)).length<=1000:=by rw [List.length_drop,List.length_map]; omega
  have ml:(M.map Xy).length<=1:=by rw [List.length_map]; exact hM
  have s1:((S.ps.map Xy).take a).length+(M.map Xy).length<=16777216:=by omega
  have s2:((S.ps.map Xy).take a++M.map Xy).length+((S.ps.map Xy).drop (b+1)).length<=16777216:=by rw [List.length_append]; omega
  have em:(S.ps.take a++M++S.ps.drop (b+1)).map Xy=(S.ps.map Xy).take a++M.map Xy++(S.ps.map Xy).drop (b+1):=by
   rw [List.map_append,List.map_append,List.map_take,List.map_drop]
  have io:WA { S with ps:=S.ps.take a++M++S.ps.drop (b+1) } kd = .ins "Index" kd G1 [Xm S.sc,QR S.es,.lst ((S.ps.map Xy).take a++M.map Xy++(S.ps.map Xy).drop (b+1))]:=by
   show Own.ins "Index" kd G1 [Xm S.sc,QR S.es,.lst _]=_;rw [em]
  rw [io];have hc':μ[ix]?=some (.ins "Index" kd G1 [Xm S.sc,QR S.es,.lst (S.ps.map Xy)]):=hc;have g1:ZP (.lst ((S.ps.map Xy).take a)) (.lst (M.map Xy))=some (.own (.lst ((S.ps.map Xy).take a++M.map Xy))):=by
   exact Ug s1
  have g2:ZP (.lst ((S.ps.map Xy).take a++M.map Xy)) (.lst ((S.ps.map Xy).drop (b+1)))=some (.own (.lst ((S.ps.map Xy).take a++M.map Xy++(S.ps.map Xy).drop (b+1)))):=by
   exact Ug s2
  generalize (S.ps.map Xy).take a=TK at *;generalize (S.ps.map Xy).drop (b+1)=DK at *;generalize S.ps.map Xy=PS at *;generalize M.map Xy=MM at *;generalize Xm S.sc=SD at *;generalize QR S.es=KD at *;simp [a3,hc',UE,ct,cd,g1,g2]
 unfold St.merge VH;have gn:=XD true (obs (liveP S.es ((S.ps.drop a).take (b+1 - a))));by_cases c:liveP S.es ((S.ps.drop a).take (b+1 - a))=[]
 ·rw [if_pos c,c]
  have q6:ZK 6 (Tq (ZN (m2 (WB true) (.v 4) (.e (ZQ [])))) (ZQ [(YI (mkF "Segment" (Y8 at_)) [.pos 0,.pos 1] [(mV 4),(mD (.bl false))] [] [])]) (ZQ [])) (ml ix (.int a) (.int b) (some (.fr (.int b))) (some (.own (.lst (obs [])))) x5 none) μ = .nx (ml ix (.int a) (.int b) (some (.fr (.int b))) (some (.own (.lst (obs [])))) x5 (some (.own (.lst (([]:List Pc).map Xy))))) μ:=by
   rw [c] at gn;simp at gn;simp [gn]
  rw [ZS q6,fin [] _ (by decide)];rfl
 ·rw [if_neg c]
  have ce:(decide (obs (liveP S.es ((S.ps.drop a).take (b+1 - a)))=[]) != true)=true:=by simp [c]
  rw [ce] at gn;have q6:ZK 6 (Tq (ZN (m2 (WB true) (.v 4) (.e (ZQ [])))) (ZQ [(YI (mkF "Segment" (Y8 at_)) [.pos 0,.pos 1] [(mV 4),(mD (.bl false))] [] [])]) (ZQ [])) (ml ix (.int a) (.int b) (some (.fr (.int b))) (some (.own (.lst (obs (liveP S.es ((S.ps.drop a).take (b+1 - a))))))) x5 none) μ = .nx (ml ix (.int a) (.int b) (some (.fr (.int b))) (some (.fr (.lst (obs (liveP S.es ((S.ps.drop a).take (b+1 - a))))))) x5 (some (.own (.lst ([((liveP S.es ((S.ps.drop a).take (b+1 - a)),false):Pc)].map Xy))))) μ:=by
   rw [show ([((liveP S.es ((S.ps.drop a).take (b+1 - a)),false):Pc)].map Xy)=[yd (obs (liveP S.es ((S.ps.drop a).take (b+1 - a)))) false] from rfl];generalize yd (obs (liveP S.es ((S.ps.drop a).take (b+1 - a)))) false=SG at *;generalize obs (liveP S.es ((S.ps.drop a).take (b+1 - a)))=O at *;simp [gn,e1,YX,Sel.get]
  rw [ZS q6,fin [(liveP S.es ((S.ps.drop a).take (b+1 - a)),false)] _ (by simp)];rfl
def St.tot (S:St):Nat:=(S.ps.map fun q=>q.1.length).sum
theorem BN {ps:List Pc} {q:Pc} (h:q∈ps):q.1.length<=(ps.map fun q=>q.1.length).sum:=by
 induction ps with
 | nil=>cases h
 | cons p r ih =>
   rw [List.map_cons,List.sum_cons];rcases List.mem_cons.mp h with rfl | h
   ·omega
   ·have:=ih h; omega
theorem Nu {es:List En}:∀ {ps:List Pc},(liveP es ps).length<=(ps.map fun q=>q.1.length).sum
 | []=>Nat.le_refl _
 | q :: ps=>by
   have ih:=Nu (es:=es) (ps:=ps);have f:(q.1.filter (isLive es)).length<=q.1.length:=List.length_filter_le _ _
   show (q.1.filter (isLive es)++liveP es ps).length<=_;rw [List.length_append,List.map_cons,List.sum_cons];omega
theorem Ki {a b:Nat} (hab:a<=b):(S.merge a b).tot<=S.tot:=by
 have sp:S.ps=S.ps.take a++((S.ps.drop a).take (b+1 - a)++S.ps.drop (b+1)):=by
  have:S.ps.drop (b+1)=(S.ps.drop a).drop (b+1 - a):=by
   rw [List.drop_drop]; congr 1; omega
  rw [this,List.take_append_drop,List.take_append_drop]
 have e:S.tot=((S.ps.take a).map fun q=>q.1.length).sum+((((S.ps.drop a).take (b+1 - a)).map fun q=>q.1.length).sum+((S.ps.drop (b+1)).map fun q=>q.1.length).sum):=by
  unfold St.tot
  conv=>lhs; rw [sp]
  rw [List.map_append,List.map_append,List.sum_append,List.sum_append]
 have l:=Nu (es:=S.es) (ps:=(S.ps.drop a).take (b+1 - a));rw [e];unfold St.merge St.tot VH
 split
 ·simp only [List.append_nil,List.map_append,List.sum_append]
  omega
 ·simp only [List.map_append,List.sum_append,List.map_cons,List.map_nil,List.sum_cons,List.sum_nil]
  omega
theorem Qc {a b:Nat} {q:Pc} (h:q∈VH S.es S.ps a b):(q∈S.ps\/q=(liveP S.es ((S.ps.drop a).take (b+1 - a)),false)):=by
 unfold VH at h;rcases List.mem_append.mp h with h | h
 ·rcases List.mem_append.mp h with h | h
  ·exact .inl (List.mem_of_mem_take h)
  ·split at h
   ·cases h
   ·exact .inr (List.mem_singleton.mp h)
 ·exact .inl (List.mem_of_mem_drop h)
theorem Kh {a b:Nat} (hab:a<=b) (hb:b < S.ps.length):(VH S.es S.ps a b).length<=S.ps.length:=by
 unfold VH;rw [List.length_append,List.length_append,List.length_take,List.length_drop]
 split <;> simp <;> omega
theorem Sh {ps:List Pc} {a b:Int} (h:XI ps a b=true):∃ n m:Nat,a=n/\b=m/\n<=m/\m < ps.length:=by
 unfold XI at h;simp only [Bool.and_eq_true,decide_eq_true_eq] at h;exact ⟨a.toNat,b.toNat,by omega,by omega,by omega,by omega⟩
theorem Kg (h:IxAt N μ ix S) (hc:μ[ix]?=some (WA S kd)) (ht:S.tot<=N) {a b:Nat} (hm:XI S.ps a b=true):IxAt N (μ.set ix (WA (S.merge a b) kd)) ix (S.merge a b):=by
 obtain ⟨n,m,e1,e2,hab,hb⟩:=Sh hm;obtain rfl:a=n:=by omega
 obtain rfl:b=m:=by omega
 have sub:∀ q∈(S.ps.drop a).take (b+1 - a),q∈S.ps:=fun q hq=>List.mem_of_mem_drop (List.mem_of_mem_take hq);refine h.upd h.sch h.ent (fun q hq p hp => ?_) h.nod h.l1 (Nat.le_trans (Kh hab hb) h.l2) (fun q hq => ?_)
 ·rcases Qc hq with hq | rfl
  ·exact h.seg q hq p hp
  ·obtain ⟨q',hq',hp⟩:=List.mem_flatMap.mp hp
   exact h.seg q' (sub q' hq') p (List.mem_filter.mp hp).1
 ·have:=BN (ps:=(S.merge a b).ps) hq
  have:=Ki (S:=S) hab;unfold St.tot at *;omega
theorem Nt (A:IA at_) (h:IxAt N μ ix S) (hN:N < 1000) (ht:S.tot<=N) {a b:Nat} (hm:XI S.ps a b=true):∃ μ',Y7 at_ [.obj ix,.int a,.int b] μ = .ok (.fr .non) μ'/\IxAt N μ' ix (S.merge a b)/\Agr [ix] μ μ':=by
 obtain ⟨kd,hc⟩:=h.cell;exact ⟨_,Mr A h hc hN hm,Kg h hc ht hm,Agr.set⟩
theorem Kf (A:IA at_) (h:IxAt N μ ix S) (hN:N < 1000) {a b:Int} (hm:XI S.ps a b=false):Y7 at_ [.obj ix,.int a,.int b] μ = .exc BO μ:=by
 rw [show Y7 at_=Zu 7 (YD at_) from rfl,X_];unfold YD;rw [show ZZ 7 [D.obj ix,.int a,.int b]=ml ix (.int a) (.int b) none none none none from rfl];have q1:WD (Uc (ZD [(mV 1),(mV 2)])) (Zq 3) Zs (ml ix (.int a) (.int b) none none none none) μ = .nx (ml ix (.int a) (.int b) (some (.fr (.int b))) none none none) μ:=Lw (ix:=ix) (μ:=μ) (a:=.int a) (b:=.int b) (x3:=none) (x4:=none) (x5:=none) (x6:=none) rfl rfl;have q2:=Lv (a:=a) (b:=b) (x3:=some (.fr (.int b))) (x4:=none) (x5:=none) (x6:=none) A h hN;rw [if_neg (by rw [hm]; exact Bool.false_ne_true)] at q2;rw [ZS q1,FL.Sx.DO q2];rfl
end
end FL.Ix
namespace L36
open PySem L2 FL
theorem es:XM=U2:=rfl
theorem en:Y2=Oi:=rfl
theorem ep:YQ=Oh:=rfl
def isNum (lv:List (DK×D)) (c:Nat) (n:Int):Bool:=match YA lv (.s [c]) with
 | some (.int m)=>decide (m=n)
 | _=>decide (-1=n)
theorem Lu {a b:Int}:YC false (.int a) (.int b)=some (.fr (.bl (decide (a=b)))):=by
 by_cases e:a=b <;> simp [YC,Qy,eqP,e]
theorem zI {l c:Nat} {n:Int} {lv:List (DK×D)} {μ:Mem} {x0 x2 x3 x4 x5:Option FL.Slot} (hl:μ[l]?=some (.dct (lv.map (·.1)) (lv.map (·.2)))) (hg:YA lv (.s [c])=none\/∃ m,YA lv (.s [c])=some (.int m)) :
  X9 [x0,some (.fr (.obj l)),x2,x3,x4,x5,some (.fr (.str [c])),some (.fr (.int n))] μ = .ok (isNum lv c n) [x0,some (.fr (.obj l)),x2,x3,x4,x5,some (.fr (.str [c])),some (.fr (.int n))] μ:=by
 unfold X9 isNum;rcases hg with h | ⟨m,h⟩
 ·simp [Sl,hl,VB,YB,Yo,V1,h,Lu]
 ·simp [Sl,hl,VB,YB,Yo,V1,h,Lu]
structure Sg where
 r:Nat
 rows:List (Nat×Nat)
 o:Bool
abbrev Wi (p:Nat×Nat):D:=.tup [.str [p.1],.int p.2]
abbrev XH (q:Sg):D:=.tup [.obj q.r,.bl q.o]
abbrev EJ (lv:List (DK×D)) (q:Sg):Nat:=(q.rows.filter fun p=>isNum lv p.1 p.2).length
def O4 (lv:List (DK×D)) (q:Sg):D:=.tup [.int (EJ lv q),.int ((q.rows.length:Int) - EJ lv q),.bl q.o]
theorem UQ {α β:Type} (p:α->Bool) (g:α->β):∀ l:List α,l.filterMap (fun a=>if p a=true then some (g a) else none)=(l.filter p).map g
 | []=>rfl
 | a :: l=>by cases h:p a <;> simp [h,UQ p g l]
theorem Hm {l:Nat} {lv:List (DK×D)} {μ:Mem} {x0 x3 x4 x5:Option FL.Slot} {acc:List D} {q:Sg} (hl:μ[l]?=some (.dct (lv.map (·.1)) (lv.map (·.2)))) (hq:μ[q.r]?=some (.lst (q.rows.map Wi))) (hn:q.rows.length < 1000) (ha:acc.length < 1000)
  (h:∀ p∈q.rows,YA lv (.s [p.1])=none\/∃ m,YA lv (.s [p.1])=some (.int m)) :
  ∃ y3 y4 y5,(Zv (Vm 2 (XB (Zq 3) (XB (Zq 4) Vn))) X8) (XH q) [x0,some (.fr (.obj l)),some (.own (.lst acc)),x3,x4,x5,none,none] μ
   = .nx [x0,some (.fr (.obj l)),some (.own (.lst (acc++[O4 lv q]))),y3,y4,y5,none,none] μ:=by
 let δ0:FL.Loc:=[x0,some (.fr (.obj l)),some (.own (.lst acc)),some (.fr (.obj q.r)),some (.fr (.bl q.o)),x5,none,none]
 let g:D->Option D:=fun d=>match d with
  | .tup [.str [c],.int n]=>if isNum lv c n=true then some (.int 1) else none
  | _=>none
 have e:=FL.NY (f:=Vm 2 (XB (Zq 6) (XB (Zq 7) Vn))) (t:=X9) (m:=Xn) (vs:=[6,7]) (δ:=δ0) g (Wa hq) (fun d hd=>by
  obtain ⟨p,hp,rfl⟩:=List.mem_map.mp hd;have t:=zI (x0:=x0) (x2:=some (.own (.lst acc))) (x3:=some (.fr (.obj q.r))) (x4:=some (.fr (.bl q.o))) (x5:=x5) (n:=p.2) hl (h p hp);cases e1:isNum lv p.1 p.2 with
  | false=>rw [e1] at t; simp [PL,δ0,t,g,e1]
  | true=>rw [e1] at t; simp [PL,δ0,t,g,e1,Xn]) (by simp; omega)
 have e1:(q.rows.map Wi).filterMap g=(q.rows.filter fun p=>isNum lv p.1 p.2).map fun _=>.int 1:=by
  rw [List.filterMap_map,← UQ];rfl
 rw [e1] at e;have e2:∀ ys:List D,Zt [.lst ys]=some (.fr (.int ys.length)):=fun ys=>by simp [Zt,W7]
 have e3:∀ i j:Int,FL.gSub (.int i) (.int j)=some (.fr (.int (i - j))):=fun i j=>by simp [FL.gSub]
 have ha':acc.length < 16777216:=by omega
 have hq':=Wa hq;refine ⟨some (.fr (.obj q.r)),some (.fr (.bl q.o)),some (.fr (.int (EJ lv q))),?_⟩;unfold X8;simp only [List.length_map] at e;simp [Zv,Vm,XB,Vn,hq,hq',e,e2,e3,O4,EJ,Zp,recv,Vl,ha',δ0]
theorem O0 {p l:Nat} {lv:List (DK×D)} {μ:Mem} {segs:List Sg} (hl:μ[l]?=some (.dct (lv.map (·.1)) (lv.map (·.2)))) (hp:μ[p]?=some (.lst (segs.map XH))) (hq:∀ q∈segs,μ[q.r]?=some (.lst (q.rows.map Wi)))
  (hn:∀ q∈segs,q.rows.length < 1000) (hs:segs.length < 1000) (h:∀ q∈segs,∀ p∈q.rows,YA lv (.s [p.1])=none\/∃ m,YA lv (.s [p.1])=some (.int m)) :
  YZ [.obj p,.obj l] μ = .ok (.fr (.tup (segs.map (O4 lv)))) μ:=by
 have hk:=Wa hp;obtain ⟨δ',μ',e,⟨x3,x4,x5,rfl⟩,rfl⟩:=NZ (g:=Zv (Vm 2 (XB (Zq 3) (XB (Zq 4) Vn))) X8) (k:=p) (xs:=segs.map XH)
  (J:=fun i δ μ' => (∃ x3 x4 x5,δ=[some (.fr (.obj p)),some (.fr (.obj l)),some (.own (.lst ((segs.take i).map (O4 lv)))),x3,x4,x5,none,none])/\μ'=μ) (fun i δ μ' h=>by rw [h.2]; exact hk)
  (fun i d δ μ' hd ⟨⟨x3,x4,x5,e1⟩,e2⟩=>by
   subst e1 e2;rw [List.getElem?_map] at hd;cases hq':segs[i]? with
   | none=>rw [hq'] at hd; cases hd
   | some q =>
     rw [hq'] at hd;cases hd;have hm:q∈segs:=List.mem_of_getElem? hq';obtain ⟨y3,y4,y5,e⟩:=Hm (x0:=some (.fr (.obj p))) (x3:=x3) (x4:=x4) (x5:=x5) (acc:=(segs.take i).map (O4 lv)) hl (hq q hm) (hn q hm) (by simp; omega) (h q hm);refine ⟨_,_,e,⟨y3,y4,y5,?_⟩,rfl⟩;rw [List.take_succ,hq'];simp) segs.length 0 [some (.fr (.obj p)),some (.fr (.obj l)),some (.own (.lst [])),none,none,none,none,none] μ (by simp) ⟨⟨none,none,none,by simp⟩,rfl⟩
 rw [show YZ=Zu 8 XX from rfl,X_];unfold XX;simp only [List.length_map,List.drop_zero,List.take_length] at e;simp [ZZ,hk,e,List.replicate]
abbrev XQ (live:List (Nat×Nat)):List (DK×D):=live.map fun q=>(.s [q.1],.int (q.2:Nat))
abbrev Nr:List DK:=[.s (lit "pieces"),.s (lit "live"),.s (lit "many")]
def putL (live:List (Nat×Nat)) (c n:Nat):List (Nat×Nat):=if (live.any fun q=>decide (q.1=c))=true then live.map (fun q=>if q.1=c then (c,n) else q) else live++[(c,n)]
def WH (live:List (Nat×Nat)) (c:Nat):List (Nat×Nat):=live.filter fun q=>decide (q.1≠c)
section
variable {live : List (Nat × Nat)} {c n : Nat} {f : Nat × Nat -> D}
theorem Hl {a b:Nat}:(decide ((DK.s [a])=DK.s [b]))=decide (a=b):=by
 by_cases h:a=b
 ·subst h; simp
 ·have : ¬ (DK.s [a])=DK.s [b]:=fun z=>h (by cases z; rfl)
  simp [h]
theorem RI:YA (live.map fun q=>((.s [q.1]:DK),f q)) (.s [c])=(live.find? fun q=>decide (q.1=c)).map f:=by
 unfold YA;rw [List.find?_map];have:((fun p:DK×D=>decide (p.1 = .s [c]))∘fun q:Nat×Nat=>((.s [q.1]:DK),f q))=fun q=>decide (q.1=c):=by
  funext q;exact Hl
 rw [this,Option.map_map];rfl
theorem Hk:Qr (live.map fun q=>((.s [q.1]:DK),f q)) (.s [c])=(WH live c).map fun q=>((.s [q.1]:DK),f q):=by
 unfold Qr WH;rw [List.filter_map];congr 1
 apply List.filter_congr
 intro q _
 show decide ((DK.s [q.1]) ≠ .s [c])=decide (q.1≠c);have:=Hl (a:=q.1) (b:=c);by_cases h:q.1=c
 ·simp [h]
 ·simp [h]
theorem EI {d:D} (hd:f (c,n)=d):YH (live.map fun q=>((.s [q.1]:DK),f q)) (.s [c]) d=(putL live c n).map fun q=>((.s [q.1]:DK),f q):=by
 unfold YH putL;have e1:((live.map fun q=>((.s [q.1]:DK),f q)).any fun p=>decide (p.1 = .s [c]))=live.any fun q=>decide (q.1=c):=by
  rw [List.any_map];congr 1;funext q;exact Hl
 rw [e1];by_cases h:(live.any fun q=>decide (q.1=c))=true
 ·rw [if_pos h,if_pos h,List.map_map,List.map_map]
  apply List.map_congr_left
  intro q _;by_cases hq:q.1=c
  ·simp [hq,hd]
  ·have : ¬ (DK.s [q.1])=DK.s [c]:=fun z=>hq (by cases z; rfl)
   simp [hq,this]
 ·rw [if_neg h,if_neg h,List.map_append]
  simp [hd]
theorem Hj {q:Nat×Nat} (h:q∈putL live c n):q=(c,n)\/q∈live:=by
 unfold putL at h
 split at h
 ·obtain ⟨p,hp,e⟩:=List.mem_map.mp h
  by_cases hc:p.1=c
  ·rw [if_pos hc] at e; exact .inl e.symm
  ·rw [if_neg hc] at e; subst e; exact .inr hp
 ·rcases List.mem_append.mp h with h | h
  ·exact .inr h
  ·exact .inl (by simpa using h)
theorem Ke (h:(live.any fun q=>decide (q.1=c))=true):(putL live c n).map (·.1)=live.map (·.1):=by
 unfold putL;rw [if_pos h,List.map_map]
 apply List.map_congr_left
 intro q _;by_cases hc:q.1=c <;> simp [hc]
theorem Nq (h:(live.map (·.1)).Nodup):((putL live c n).map (·.1)).Nodup:=by
 by_cases ha:(live.any fun q=>decide (q.1=c))=true
 ·rw [Ke ha]; exact h
 ·unfold putL
  rw [if_neg ha,List.map_append,List.nodup_append];refine ⟨h,by simp,fun a h1 b h2 e => ?_⟩;have:b=c:=by simpa using h2
  subst this;subst e;obtain ⟨q,hq,rfl⟩:=List.mem_map.mp h1;exact ha (List.any_eq_true.mpr ⟨q,hq,by simp⟩)
theorem Hi:(putL live c n).length<=live.length+1:=by
 unfold putL
 split <;> simp
theorem Kd (h:(live.map (·.1)).Nodup):((WH live c).map (·.1)).Nodup:=h.sublist (List.Sublist.map _ List.filter_sublist)
end
theorem zH {x y:D}:L2.atI [x,y] 0=some x:=rfl
theorem zG {x:D}:L2.atI [x] (-1)=some x:=rfl
theorem zF {x y:D}:L2.atI [x,y] 1=some y:=rfl
section
variable {b p l r m : Nat} {segs ps : List Sg} {xs rows : List D} {lv : List (DK × D)} {μ : Mem} {c : Nat}
abbrev box (p l:Nat) (m:Nat):Own:=.dct Nr [.obj p,.obj l,.int m]
theorem Ue {x:D}:ZA (.dct Nr [.obj p,.obj l,x]) (.str (lit "pieces"))=some (.fr (.obj p)):=by rfl
theorem getL {x:D}:ZA (.dct Nr [.obj p,.obj l,x]) (.str (lit "live"))=some (.fr (.obj l)):=by rfl
theorem Hh {x:D}:ZA (.dct Nr [.obj p,.obj l,x]) (.str (lit "many"))=some (.fr x):=by rfl
theorem Hg {x:D}:Xs (.dct Nr [.obj p,.obj l,.int m]) (.str (lit "many")) x=some (.dct Nr [.obj p,.obj l,x]):=by rfl
theorem Ls {x:D} (h:lv.length < 16777216):Xs (.dct (lv.map (·.1)) (lv.map (·.2))) (.str [c]) x=some (Zl (YH lv (.s [c]) x)):=by
 simp [Xs,Yo,V1,h]
theorem EH (hb:μ[b]?=some (box p l m)) (hp:μ[p]?=some (.lst [])):ZV [.obj b] μ = .ok (.fr .non) μ:=by
 rw [show ZV=Zu 1 ZI from rfl,X_];unfold ZI;simp [ZZ,hb,hp,Ue,FL.XD]
theorem EG (hb:μ[b]?=some (box p l m)) (hp:μ[p]?=some (.lst (xs++[.tup [.obj r,.bl false]]))):ZV [.obj b] μ = .ok (.fr .non) μ:=by
 rw [show ZV=Zu 1 ZI from rfl,X_];unfold ZI;simp [ZZ,hb,hp,Ue,FL.XD,FL.atI_last,box,zG,zH,zF,Int.natCast_add]
theorem EF (hb:μ[b]?=some (box p l m)) (hp:μ[p]?=some (.lst (xs++[.tup [.obj r,.bl true]]))) (hl:xs.length < 1000):ZV [.obj b] μ = .ok (.fr .non) (μ.set p (.lst (xs++[.tup [.obj r,.bl false]]))):=by
 have e:=KI (xs:=xs) (a:=.tup [.obj r,.bl true]) (d:=.tup [.obj r,.bl false]);rw [show ZV=Zu 1 ZI from rfl,X_];unfold ZI;simp [ZZ,hb,hp,Ue,FL.XD,FL.atI_last,box,zG,zH,zF,Int.natCast_add,e]
theorem zE (hb:μ[b]?=some (box p l m)) (hp:μ[p]?=some (.lst (xs++[.tup [.obj r,.bl true]]))) (hr:μ[r]?=some (.lst rows)) (hl:μ[l]?=some (.dct (lv.map (·.1)) (lv.map (·.2)))) (hn:rows.length < 1000) (hv:lv.length < 1000)
  (e1:b≠p) (e2:b≠r) (e3:b≠l) (e4:r≠p) (e5:r≠l) (e6:p≠l) :
  ZH [.obj b,.str [c]] μ = .ok (.fr .non) (((μ.set b (box p l (m+1))).set r (.lst (rows++[.tup [.str [c],.int (m+1:Nat)]]))).set l (Zl (YH lv (.s [c]) (.int (m+1:Nat))))):=by
 have h1:rows.length < 16777216:=by omega
 have h2:lv.length < 16777216:=by omega
 rw [show ZH=Zu 2 Zi from rfl,X_];unfold Zi;simp [ZZ,hb,hp,hr,hl,Ue,getL,Hh,Hg,FL.XD,FL.atI_last,box,zG,zH,zF,Int.natCast_add,UY,ZY,e1,e2,e3,e4,e5,e6,Ne.symm e1,Ne.symm e2,Ne.symm e3,Ne.symm e4,Ne.symm e5,Ne.symm e6,Zp,h1,h2,Ls h2]
theorem zD (hb:μ[b]?=some (box p l m)) (hp:μ[p]?=some (.lst xs)) (hx:xs=[]\/∃ ys r,xs=ys++[.tup [.obj r,.bl false]]) (hl:μ[l]?=some (.dct (lv.map (·.1)) (lv.map (·.2)))) (hn:xs.length < 1000) (hv:lv.length < 1000)
  (e1:b≠p) (e3:b≠l) (e6:p≠l) :
  ZH [.obj b,.str [c]] μ = .ok (.fr .non) (((((μ++[Own.lst []]).set p (Own.lst (xs++[D.tup [.obj μ.length,.bl true]]))).set b (box p l (m+1))).set μ.length (.lst [.tup [.str [c],.int (m+1:Nat)]])).set l (Zl (YH lv (.s [c]) (.int (m+1:Nat))))):=by
 have h1:xs.length < 16777216:=by omega
 have h2:lv.length < 16777216:=by omega
 have l1:∀ {i:Nat} {o:Own},μ[i]?=some o->i≠μ.length:=fun h=>Nat.ne_of_lt (List.getElem?_eq_some_iff.mp h).1;have n1:=l1 hb;have n2:=l1 hp;have n3:=l1 hl;have n4:(μ++[Own.lst []])[μ.length]?=some (.lst []):=by simp
 rw [show ZH=Zu 2 Zi from rfl,X_];unfold Zi;generalize hM:μ++[Own.lst []]=M at *;have hb':M[b]?=some (box p l m):=by rw [← hM,Vf (by simp [hb])]; exact hb
 have hp':M[p]?=some (.lst xs):=by rw [← hM,Vf (by simp [hp])]; exact hp
 have hl':M[l]?=some (.dct (lv.map (·.1)) (lv.map (·.2))):=by rw [← hM,Vf (by simp [hl])]; exact hl
 rcases hx with rfl | ⟨ys,r,rfl⟩
 ·simp [ZZ,hb,hp,hl,hb',hp',hl',hM,n4,Ue,getL,Hh,Hg,FL.XD,FL.atI_last,box,zG,zH,zF,Int.natCast_add,UY,ZY,e1,e3,e6,n1,n2,n3,Ne.symm n1,Ne.symm n2,Ne.symm n3,Ne.symm e1,Ne.symm e3,Ne.symm e6,Zp,h1,h2,Ls h2]
 ·have h3:ys.length+1 < 16777216:=by simpa using h1
  have h4:ys.length<=16777214:=by omega
  have h5:=FL.atI_last (ys++[D.tup [.obj r,.bl false]]) (D.tup [.obj μ.length,.bl true]);have h5':L2.atI (ys++[D.tup [.obj r,.bl false],.tup [.obj μ.length,.bl true]]) (-1)=some (.tup [.obj μ.length,.bl true]):=by simpa using h5
  simp [ZZ,hb,hp,hl,hb',hp',hl',hM,n4,Ue,getL,Hh,Hg,FL.XD,FL.atI_last,box,zG,zH,zF,Int.natCast_add,UY,ZY,e1,e3,e6,n1,n2,n3,Ne.symm n1,Ne.symm n2,Ne.symm n3,Ne.symm e1,Ne.symm e3,Ne.symm e6,Zp,h1,h2,h3,h4,h5',Ls h2]
end
end L36
namespace L36
open PySem L2 FL
theorem UP {α:Type} (l:List α):l=[]\/∃ xs x,l=xs++[x]:=by
 rcases l.eq_nil_or_concat with h | ⟨xs,x,h⟩
 ·exact .inl h
 ·exact .inr ⟨xs,x,by simpa using h⟩
structure Bx where
 dr:Nat
 b:Nat
 p:Nat
 l:Nat
 x:Nat
 segs:List Sg
 live:List (Nat×Nat)
 many:Nat
 T:List (DK×D)
abbrev X0 (segs:List Sg):Nat:=(segs.map fun s=>s.rows.length).sum
structure Bo (t:Nat) (B:Bx) (μ:Mem):Prop where
 hb:μ[B.b]?=some (box B.p B.l B.many)
 hp:μ[B.p]?=some (.lst (B.segs.map XH))
 hl:μ[B.l]?=some (.dct ((XQ B.live).map (·.1)) ((XQ B.live).map (·.2)))
 hx:μ[B.x]?=some (.dct (B.T.map (·.1)) (B.T.map (·.2)))
 hr:∀ s∈B.segs,μ[s.r]?=some (.lst (s.rows.map Wi))
 hd:∃ xs,μ[B.dr]?=some (.lst xs)
 num:∀ s∈B.segs,∀ q∈s.rows,1<=q.2/\q.2<=B.many
 lv:∀ q∈B.live,1<=q.2/\q.2<=B.many
 nod:(B.live.map (·.1)).Nodup
 nr:(B.p :: B.dr :: B.segs.map (·.r)).Nodup
 cl:∀ s∈B.segs.dropLast,s.o=false
 tv:∀ q∈B.T,∃ v,q.2 = .str v
 bl:B.b≠B.l
 xb:B.x≠B.b
 xl:B.x≠B.l
 n1:B.segs.length<=t
 n2:X0 B.segs<=t
 n3:B.live.length<=t
 n4:B.many<=t
 n5:B.T.length<=t
theorem Lr {segs:List Sg} {s:Sg} (h:s∈segs):s.rows.length<=X0 segs:=by
 induction segs with
 | nil=>cases h
 | cons a r ih =>
   simp only [X0,List.map_cons,List.sum_cons] at *;rcases List.mem_cons.mp h with rfl | h
   ·omega
   ·have:=ih h; omega
section
variable {B : Bx} {t : Nat} {μ μ' : Mem} {A : List Nat} {c : Nat}
theorem Bo.r_ne (h:Bo t B μ) {s:Sg} (hs:s∈B.segs):s.r≠B.p/\s.r≠B.dr:=by
 have:=h.nr;simp only [List.nodup_cons,List.mem_cons,List.mem_map] at this;exact ⟨fun e=>this.1 (.inr ⟨s,hs,e⟩),fun e=>this.2.1 ⟨s,hs,e⟩⟩
theorem Bo.p_dr (h:Bo t B μ):B.p≠B.dr:=by
 have:=h.nr;simp only [List.nodup_cons,List.mem_cons] at this;exact fun e=>this.1 (.inl e)
theorem Bo.mono (h:Bo t B μ) {u:Nat} (hu:t<=u):Bo u B μ :=
 { h with n1:=Nat.le_trans h.n1 hu,n2:=Nat.le_trans h.n2 hu,n3:=Nat.le_trans h.n3 hu,n4:=Nat.le_trans h.n4 hu,n5:=Nat.le_trans h.n5 hu }
theorem Bo.agr (h:Bo t B μ) (a:Agr A μ μ') (hA:∀ i∈A,∃ c kd ks vs,μ[i]?=some (.ins c kd ks vs)):Bo t B μ':=by
 have nl:∀ {i:Nat} {xs:List D},μ[i]?=some (.lst xs)->i∉A:=fun e z=>let ⟨_,_,_,_,e2⟩:=hA _ z; by rw [e] at e2; cases e2
 have nd:∀ {i:Nat} {ks:List DK} {xs:List D},μ[i]?=some (.dct ks xs)->i∉A:=fun e z=>let ⟨_,_,_,_,e2⟩:=hA _ z; by rw [e] at e2; cases e2
 exact { h with hb:=a.at_ _ _ h.hb (nd h.hb),hp:=a.at_ _ _ h.hp (nl h.hp),hl:=a.at_ _ _ h.hl (nd h.hl),hx:=a.at_ _ _ h.hx (nd h.hx),hr:=fun s z=>a.at_ _ _ (h.hr s z) (nl (h.hr s z)),hd:=let ⟨xs,e⟩:=h.hd; ⟨xs,a.at_ _ _ e (nl e)⟩ }
theorem Bo.fr (h:Bo t B μ) (f:Fr B.dr μ μ') (hs:∃ xs,μ'[B.dr]?=some (.lst xs)):Bo t B μ':=by
 obtain ⟨xs,hxs⟩:=h.hd;have a:=Agr.fr f;exact { h with
  hb:=a.at_ _ _ h.hb (by simpa using ne_of h.hb hxs (by simp))
  hp:=a.at_ _ _ h.hp (by simpa using h.p_dr)
  hl:=a.at_ _ _ h.hl (by simpa using ne_of h.hl hxs (by simp))
  hx:=a.at_ _ _ h.hx (by simpa using ne_of h.hx hxs (by simp))
  hd:=hs
  hr:=fun s z=>a.at_ _ _ (h.hr s z) (by simpa using (h.r_ne z).2) }
theorem Bo.numb (h:Bo t B μ) (c:Nat):YA (XQ B.live) (.s [c])=none\/∃ m,YA (XQ B.live) (.s [c])=some (.int m):=by
 rw [RI];cases e:B.live.find? fun q=>decide (q.1=c) with
 | none=>exact .inl rfl
 | some q=>exact .inr ⟨_,rfl⟩
theorem Bo.told (h:Bo t B μ) (ht:t < 1000):YZ [.obj B.p,.obj B.l] μ = .ok (.fr (.tup (B.segs.map (O4 (XQ B.live))))) μ :=
 O0 h.hl h.hp h.hr (fun q hq=>Nat.lt_of_le_of_lt (Nat.le_trans (Lr hq) h.n2) ht) (Nat.lt_of_le_of_lt h.n1 ht) (fun q hq p hp=>h.numb p.1)
def VG (segs:List Sg):List Sg:=match segs.getLast? with
 | some ⟨r,rows,true⟩=>segs.dropLast++[⟨r,rows,false⟩]
 | _=>segs
theorem Bo.flush (h:Bo t B μ) (ht:t < 900):∃ μ2,ZV [.obj B.b] μ = .ok (.fr .non) μ2/\Bo t { B with segs:=VG B.segs } μ2/\Agr [B.p] μ μ2:=by
 obtain ⟨dr,b,p,l,x,segs,live,many,T⟩:=B;rcases UP segs with rfl | ⟨ini,s,rfl⟩
 ·exact ⟨μ,EH h.hb h.hp,h,Agr.refl⟩
 ·obtain ⟨r,rows,o⟩:=s
  have hp:=h.hp;simp only [List.map_append,List.map_cons,List.map_nil] at hp;cases o with
  | false =>
    have e:VG (ini++[⟨r,rows,false⟩])=ini++[⟨r,rows,false⟩]:=by simp [VG]
    rw [e];exact ⟨μ,EG h.hb hp,h,Agr.refl⟩
  | true =>
    have e:VG (ini++[⟨r,rows,true⟩])=ini++[⟨r,rows,false⟩]:=by simp [VG]
    rw [e];have n1:=h.n1;simp only [List.length_append,List.length_singleton] at n1;refine ⟨_,EF h.hb hp (by simp; omega),?_,Agr.set⟩;have hseg:∀ s∈ini++[⟨r,rows,false⟩],∃ s0∈ini++[⟨r,rows,true⟩],s0.r=s.r/\s0.rows=s.rows:=fun s hs=>by
     rcases List.mem_append.mp hs with hs | hs
     ·exact ⟨s,List.mem_append_left _ hs,rfl,rfl⟩
     ·have:s=⟨r,rows,false⟩:=by simpa using hs
      subst this;exact ⟨_,List.mem_append_right _ List.mem_cons_self,rfl,rfl⟩
    have a:=Agr.set (μ:=μ) (i:=p) (o:=.lst (ini.map XH++[.tup [.obj r,.bl false]]));refine { h with hb:=a.at_ _ _ h.hb (by simpa using ne_of h.hb h.hp (by simp)),hp:=?_,hl:=a.at_ _ _ h.hl (by simpa using ne_of h.hl h.hp (by simp)),hx:=a.at_ _ _ h.hx (by simpa using ne_of h.hx h.hp (by simp)),hr:=?_,hd:=?_,num:=?_,nr:=?_,cl:=?_,n1:=?_,n2:=?_ }
    ·rw [XR h.hp]; simp
    ·intro s hs
     obtain ⟨s0,h0,e1,e2⟩:=hseg s hs;have z:=h.hr s0 h0;rw [e1,e2] at z;have z1:=(h.r_ne h0).1;rw [e1] at z1;exact a.at_ _ _ z (by simpa using z1)
    ·obtain ⟨xs,hxs⟩:=h.hd
     exact ⟨xs,a.at_ _ _ hxs (by simpa using Ne.symm h.p_dr)⟩
    ·intro s hs q hq
     obtain ⟨s0,h0,e1,e2⟩:=hseg s hs;exact h.num s0 h0 q (by rw [e2]; exact hq)
    ·have:=h.nr
     simpa using this
    ·have:=h.cl
     simpa using this
    ·simpa using h.n1
    ·have:=h.n2
     simpa [X0] using this
theorem Bo.pop (h:Bo t B μ) (hi:(B.live.any fun q=>decide (q.1=c))=true):(∃ v,Om (.dct ((XQ B.live).map (·.1)) ((XQ B.live).map (·.2))) (.str [c])=some (v,Zl (XQ (WH B.live c)))) /\
  Bo t { B with live:=WH B.live c } (μ.set B.l (Zl (XQ (WH B.live c)))):=by
 obtain ⟨dr,b,p,l,x,segs,live,many,T⟩:=B;constructor
 ·obtain ⟨v,hv⟩:∃ v,YA (XQ live) (.s [c])=some v:=by
   rw [RI];obtain ⟨q,hq,hq2⟩:=List.any_eq_true.mp hi;cases ef:live.find? fun q=>decide (q.1=c) with
   | none=>exact absurd hq2 (by simpa using List.find?_eq_none.mp ef q hq)
   | some q=>exact ⟨_,rfl⟩
  have hd:Qr (XQ live) (.s [c])=XQ (WH live c):=Hk;exact ⟨v,by simp only [Om,Yo,V1,hv,Option.map_some,hd]⟩
 ·have a:=Agr.set (μ:=μ) (i:=l) (o:=Zl (XQ (WH live c)))
  have hsub:∀ q∈WH live c,q∈live:=fun q hq=>(List.mem_filter.mp hq).1;refine { h with hb:=a.at_ _ _ h.hb (by simpa using h.bl),hp:=a.at_ _ _ h.hp (by simpa using ne_of h.hp h.hl (by simp)),hl:=XR h.hl,hx:=a.at_ _ _ h.hx (by simpa using h.xl),hr:=fun s hs=>a.at_ _ _ (h.hr s hs) (by simpa using ne_of (h.hr s hs) h.hl (by simp)),hd:=?_,lv:=fun q hq=>h.lv q (hsub q hq),nod:=Kd h.nod,n3:=?_ }
  ·obtain ⟨xs,hxs⟩:=h.hd
   exact ⟨xs,a.at_ _ _ hxs (by simpa using ne_of hxs h.hl (by simp))⟩
  ·exact Nat.le_trans (List.length_filter_le _ _) h.n3
end
end L36
namespace L36
open PySem L2 FL
def BM (μ:Mem) (i:Nat):Prop:=(∀ c kd ks vs,μ[i]?≠some (.ins c kd ks vs))/\(∀ ks ws,μ[i]?≠some (.dct ks [.tup ws]))/\∀ P q,μ[i]?≠some (.tab P q)
def Keep (μ μ':Mem):Prop:=∃ A,Agr A μ μ'/\∀ i∈A,BM μ i
theorem Tw {μ:Mem} {i:Nat} {xs:List D} (h:μ[i]?=some (.lst xs)):BM μ i:=⟨fun _ _ _ _ z=>(by rw [h] at z; cases z),fun _ _ z=>(by rw [h] at z; cases z),fun _ _ z=>(by rw [h] at z; cases z)⟩
theorem Hf {μ:Mem}:BM μ μ.length:=⟨fun _ _ _ _ z=>(by simp at z),fun _ _ z=>(by simp at z),fun _ _ z=>(by simp at z)⟩
theorem OZ {μ:Mem} {i:Nat} {ks:List DK} {vs:List D} (h:μ[i]?=some (.dct ks vs)) (hv:∀ ws,vs≠[.tup ws]):BM μ i :=
 ⟨fun _ _ _ _ z=>(by rw [h] at z; cases z),fun _ ws z=>(by rw [h] at z; cases z; exact hv ws rfl),fun _ _ z=>(by rw [h] at z; cases z)⟩
section
variable {B : Bx} {t : Nat} {μ μ' : Mem} {A : List Nat} {c : Nat}
theorem Bo.nb (h:Bo t B μ):BM μ B.b:=OZ h.hb (fun ws z=>by cases z)
theorem Bo.nl (h:Bo t B μ):BM μ B.l:=OZ h.hl (fun ws z=>by
 obtain ⟨q,_,e⟩:∃ q∈B.live,D.int (q.2:Nat) = .tup ws:=by
  have:D.tup ws∈(XQ B.live).map (·.2):=by rw [z]; simp
  obtain ⟨p,hp,e⟩:=List.mem_map.mp this;obtain ⟨q,hq,rfl⟩:=List.mem_map.mp hp;exact ⟨q,hq,e⟩
 cases e)
theorem Bo.nx (h:Bo t B μ):BM μ B.x:=OZ h.hx (fun ws z=>by
 have:D.tup ws∈B.T.map (·.2):=by rw [z]; simp
 obtain ⟨p,hp,e⟩:=List.mem_map.mp this;obtain ⟨v,hv⟩:=h.tv p hp;rw [hv] at e;cases e)
def putS (segs:List Sg) (c n k:Nat):List Sg:=match segs.getLast? with
 | some ⟨r,rows,true⟩=>segs.dropLast++[⟨r,rows++[(c,n)],true⟩]
 | _=>segs++[⟨k,[(c,n)],true⟩]
theorem Bo.put (h:Bo t B μ) (ht:t < 900):∃ μ2,ZH [.obj B.b,.str [c]] μ = .ok (.fr .non) μ2/\Bo (t+1) { B with segs:=putS B.segs c (B.many+1) μ.length,live:=putL B.live c (B.many+1),many:=B.many+1 } μ2/\Keep μ μ2/\μ2[B.dr]?=μ[B.dr]?:=by
 have kb:=h.nb;have kl:=h.nl;obtain ⟨dr,b,p,l,x,segs,live,many,T⟩:=B;have hb:=h.hb;have hp:=h.hp;have hl:=h.hl;have hbl:=h.bl;have n1:=h.n1;have n2:=h.n2;have n3:=h.n3;have n4:=h.n4;obtain ⟨xs,hd⟩:=h.hd;simp only at hb hp hl hbl n1 n2 n3 n4 hd kb kl;have hbp:b≠p:=ne_of hb hp (by simp);have hpl:p≠l:=ne_of hp hl (by simp);have hdb:dr≠b:=ne_of hd hb (by simp);have hdl:dr≠l:=ne_of hd hl (by simp);have hdp:dr≠p:=Ne.symm h.p_dr;have setlv:YH (XQ live) (.s [c]) (.int (many+1:Nat))=XQ (putL live c (many+1)):=EI rfl;have lv':∀ q∈putL live c (many+1),1<=q.2/\q.2<=many+1:=fun q hq=>by
  rcases Hj hq with rfl | hq
  ·exact ⟨by simp,Nat.le_refl _⟩
  ·have:=h.lv q hq
   simp only at this;omega
 have n3':(putL live c (many+1)).length<=t+1:=Nat.le_trans Hi (by omega);have ltp:p < μ.length:=(List.getElem?_eq_some_iff.mp hp).1;have ltb:b < μ.length:=(List.getElem?_eq_some_iff.mp hb).1;have ltl:l < μ.length:=(List.getElem?_eq_some_iff.mp hl).1;have ltd:dr < μ.length:=(List.getElem?_eq_some_iff.mp hd).1;by_cases hc:∃ ini r rows,segs=ini++[⟨r,rows,true⟩]
 ·obtain ⟨ini,r,rows,rfl⟩:=hc
  have e:putS (ini++[⟨r,rows,true⟩]) c (many+1) μ.length=ini++[⟨r,rows++[(c,many+1)],true⟩]:=by simp [putS]
  rw [e];have hr:=h.hr _ (List.mem_append_right _ List.mem_cons_self);simp only at hr;have nr:=h.nr;simp only [List.map_append,List.map_cons,List.map_nil] at nr hp;have hrp:r≠p:=(h.r_ne (s:=⟨r,rows,true⟩) (by simp)).1;have hrd:r≠dr:=(h.r_ne (s:=⟨r,rows,true⟩) (by simp)).2;have hrb:b≠r:=ne_of hb hr (by simp);have hrl:r≠l:=ne_of hr hl (by simp);have rn:(rows.map Wi).length < 1000:=by
   have:=Lr (segs:=ini++[⟨r,rows,true⟩]) (s:=⟨r,rows,true⟩) (by simp);simp only [List.length_map] at *;omega
  have q1:=zE (c:=c) hb hp hr hl rn (by simp; omega) hbp hrb hbl hrp hrl hpl;rw [setlv] at q1;have ag:=(Agr.set (μ:=μ) (i:=b) (o:=box p l (many+1))).trans ((Agr.set (i:=r) (o:=.lst (rows.map Wi++[.tup [.str [c],.int (many+1:Nat)]]))).trans (Agr.set (i:=l) (o:=Zl (XQ (putL live c (many+1))))));have at_:∀ {i:Nat} {o:Own},μ[i]?=some o->i≠b->i≠r->i≠l->(((μ.set b (box p l (many+1))).set r (.lst (rows.map Wi++[.tup [.str [c],.int (many+1:Nat)]]))).set l (Zl (XQ (putL live c (many+1)))))[i]?=some o:=fun h1 h2 h3 h4=>by
   rw [ZY (Ne.symm h4),ZY (Ne.symm h3),ZY (Ne.symm h2)]; exact h1
  refine ⟨_,q1,{ hb:=?_,hp:=?_,hl:=?_,hx:=?_,hr:=?_,hd:=?_,num:=?_,lv:=lv',nod:=Nq h.nod,nr:=?_,cl:=?_,tv:=h.tv,bl:=hbl,xb:=h.xb,xl:=h.xl,n1:=?_,n2:=?_,n3:=n3',n4:=by simp only; omega,n5:=Nat.le_succ_of_le h.n5 },⟨_,ag,?_⟩,?_⟩
  ·rw [ZY (Ne.symm hbl),ZY (Ne.symm hrb)]; exact XR hb
  ·rw [at_ hp (Ne.symm hbp) (Ne.symm hrp) hpl]; simp
  ·exact XR (by rw [ZY hrl,ZY hbl]; exact hl)
  ·exact at_ h.hx h.xb (ne_of h.hx hr (by simp)) h.xl
  ·intro s hs
   rcases List.mem_append.mp hs with hs | hs
   ·have z:=h.hr s (List.mem_append_left _ hs)
    have sr:s.r≠r:=fun e0=>by
     have:(ini.map (·.r)++[r]).Nodup:=(List.nodup_cons.mp (List.nodup_cons.mp nr).2).2;rw [List.nodup_append] at this;exact this.2.2 s.r (List.mem_map_of_mem hs) r (by simp) e0
    exact at_ z (ne_of z hb (by simp)) sr (ne_of z hl (by simp))
   ·have:s=⟨r,rows++[(c,many+1)],true⟩:=by simpa using hs
    subst this
    show (List.set _ l _)[r]?=_;rw [ZY (Ne.symm hrl)];rw [XR (by rw [ZY hrb]; exact hr)];simp
  ·exact ⟨xs,at_ hd hdb (Ne.symm hrd) hdl⟩
  ·intro s hs q hq
   rcases List.mem_append.mp hs with hs | hs
   ·have:=h.num s (List.mem_append_left _ hs) q hq
    simp only at this ⊢;omega
   ·have:s=⟨r,rows++[(c,many+1)],true⟩:=by simpa using hs
    subst this;rcases List.mem_append.mp hq with hq | hq
    ·have:=h.num ⟨r,rows,true⟩ (by simp) q hq
     simp only at this ⊢;omega
    ·have:q=(c,many+1):=by simpa using hq
     subst this;exact ⟨by simp,Nat.le_refl _⟩
  ·simpa using nr
  ·have:=h.cl
   simpa using this
  ·have:=h.n1
   simp at this ⊢;omega
  ·have:=h.n2
   simp [X0] at this ⊢;omega
  ·intro i hi
   simp only [List.cons_append,List.nil_append,List.mem_cons,List.not_mem_nil,or_false] at hi;rcases hi with rfl | rfl | rfl
   ·exact kb
   ·exact Tw hr
   ·exact kl
  ·show (List.set _ l _)[dr]?=_
   rw [ZY (Ne.symm hdl),ZY hrd,ZY (Ne.symm hdb)]
 ·have e:putS segs c (many+1) μ.length=segs++[⟨μ.length,[(c,many+1)],true⟩]:=by
   rcases UP segs with rfl | ⟨ini,⟨r,rows,o⟩,rfl⟩
   ·rfl
   ·cases o with
    | true=>exact absurd ⟨ini,r,rows,rfl⟩ hc
    | false=>simp [putS]
  rw [e];have hxs:segs.map XH=[]\/∃ ys r,segs.map XH=ys++[.tup [.obj r,.bl false]]:=by
   rcases UP segs with rfl | ⟨ini,⟨r,rows,o⟩,rfl⟩
   ·exact .inl rfl
   ·cases o with
    | true=>exact absurd ⟨ini,r,rows,rfl⟩ hc
    | false=>exact .inr ⟨ini.map XH,r,by simp⟩
  have q1:=zD (c:=c) hb hp hxs hl (by simp; omega) (by simp; omega) hbp hbl hpl;rw [setlv] at q1;have ag:=(Agr.app (μ:=μ) (ν:=[Own.lst []])).trans ((Agr.set (i:=p) (o:=Own.lst (segs.map XH++[D.tup [.obj μ.length,.bl true]]))).trans ((Agr.set (i:=b) (o:=box p l (many+1))).trans ((Agr.set (i:=μ.length) (o:=.lst [.tup [.str [c],.int (many+1:Nat)]])).trans (Agr.set (i:=l) (o:=Zl (XQ (putL live c (many+1))))))));have at_:∀ {i:Nat} {o:Own},μ[i]?=some o->i≠p->i≠b->i≠l->(((((μ++[Own.lst []]).set p (Own.lst (segs.map XH++[D.tup [.obj μ.length,.bl true]]))).set b (box p l (many+1))).set μ.length (.lst [.tup [.str [c],.int (many+1:Nat)]])).set l (Zl (XQ (putL live c (many+1)))))[i]?=some o:=fun {i o} h1 h2 h3 h4=>by
   have lt:=(List.getElem?_eq_some_iff.mp h1).1;rw [ZY (Ne.symm h4),ZY (by omega),ZY (Ne.symm h3),ZY (Ne.symm h2),Vf (by simp [h1])]; exact h1
  refine ⟨_,q1,{ hb:=?_,hp:=?_,hl:=?_,hx:=?_,hr:=?_,hd:=?_,num:=?_,lv:=lv',nod:=Nq h.nod,nr:=?_,cl:=?_,tv:=h.tv,bl:=hbl,xb:=h.xb,xl:=h.xl,n1:=?_,n2:=?_,n3:=n3',n4:=by simp only; omega,n5:=Nat.le_succ_of_le h.n5 },⟨_,ag,?_⟩,?_⟩
  ·rw [ZY (Ne.symm hbl),ZY (by omega)]; exact XR (by rw [ZY (Ne.symm hbp),Vf (by simp [hb])]; exact hb)
  ·rw [ZY (Ne.symm hpl),ZY (by omega),ZY hbp,XR (by rw [Vf (by simp [hp])]; exact hp)]
   simp
  ·exact XR (by rw [ZY (by omega),ZY hbl,ZY hpl,Vf (by simp [hl])]; exact hl)
  ·exact at_ h.hx (ne_of h.hx hp (by simp)) h.xb h.xl
  ·intro s hs
   rcases List.mem_append.mp hs with hs | hs
   ·have z:=h.hr s hs
    exact at_ z (h.r_ne hs).1 (ne_of z hb (by simp)) (ne_of z hl (by simp))
   ·have:s=⟨μ.length,[(c,many+1)],true⟩:=by simpa using hs
    subst this
    show (List.set _ l _)[μ.length]?=_;rw [ZY (by omega)];rw [UY (by rw [ZY (by omega),ZY (by omega)]; simp)];simp
  ·exact ⟨xs,at_ hd hdp hdb hdl⟩
  ·intro s hs q hq
   rcases List.mem_append.mp hs with hs | hs
   ·have:=h.num s hs q hq
    simp only at this ⊢;omega
   ·have:s=⟨μ.length,[(c,many+1)],true⟩:=by simpa using hs
    subst this;have:q=(c,many+1):=by simpa using hq
    subst this;exact ⟨by simp,Nat.le_refl _⟩
  ·have nr:=h.nr
   have rl:∀ s∈segs,s.r < μ.length:=fun s hs=>(List.getElem?_eq_some_iff.mp (h.hr s hs)).1;simp only [List.nodup_cons,List.mem_cons,List.map_append,List.map_cons,List.map_nil,List.mem_append,List.not_mem_nil,or_false] at nr ⊢;refine ⟨fun z => ?_,fun z => ?_,?_⟩
   ·rcases z with z | z | z
    ·exact nr.1 (.inl z)
    ·exact nr.1 (.inr z)
    ·omega
   ·rcases z with z | z
    ·exact nr.2.1 z
    ·omega
   ·rw [List.nodup_append]
    refine ⟨nr.2.2,by simp,fun a ha b hb e0 => ?_⟩;obtain ⟨s,hs,rfl⟩:=List.mem_map.mp ha;have:=rl s hs;have:b=μ.length:=by simpa using hb
    omega
  ·intro s hs
   simp only [List.dropLast_concat] at hs;rcases UP segs with rfl | ⟨ini,⟨r,rows,o⟩,rfl⟩
   ·cases hs
   ·cases o with
    | true=>exact absurd ⟨ini,r,rows,rfl⟩ hc
    | false =>
      rcases List.mem_append.mp hs with hs | hs
      ·exact h.cl s (by simpa using hs)
      ·have:s=⟨r,rows,false⟩:=by simpa using hs
       subst this; rfl
  ·have:=h.n1
   simp at this ⊢;omega
  ·have:=h.n2
   simp [X0] at this ⊢;omega
  ·intro i hi
   simp only [List.cons_append,List.nil_append,List.mem_cons,List.not_mem_nil,or_false] at hi;rcases hi with rfl | rfl | rfl | rfl
   ·exact Tw hp
   ·exact kb
   ·exact Hf
   ·exact kl
  ·show (List.set _ l _)[dr]?=_
   rw [ZY (Ne.symm hdl),ZY (by omega),ZY (Ne.symm hdb),ZY (Ne.symm hdp),Vf (by simp [hd])]
theorem Bo.setT (h:Bo t B μ) (ht:t < 900) {v:Tx}:Xs (.dct (B.T.map (·.1)) (B.T.map (·.2))) (.str [c]) (.str v)=some (Zl (YH B.T (.s [c]) (.str v))) /\
  Bo (t+1) { B with T:=YH B.T (.s [c]) (.str v) } (μ.set B.x (Zl (YH B.T (.s [c]) (.str v)))):=by
 have n5:=h.n5;refine ⟨Ls (by omega),?_⟩;have h':=h.mono (Nat.le_succ t);have a:=Agr.set (μ:=μ) (i:=B.x) (o:=Zl (YH B.T (.s [c]) (.str v)));refine { h' with hb:=a.at_ _ _ h.hb (by simpa using Ne.symm h.xb),hp:=a.at_ _ _ h.hp (by simpa using ne_of h.hp h.hx (by simp)),hl:=a.at_ _ _ h.hl (by simpa using Ne.symm h.xl),hx:=XR h.hx,hr:=fun s hs=>a.at_ _ _ (h.hr s hs) (by simpa using ne_of (h.hr s hs) h.hx (by simp)),hd:=?_,tv:=?_,n5:=?_ }
 ·obtain ⟨xs,hxs⟩:=h.hd
  exact ⟨xs,a.at_ _ _ hxs (by simpa using ne_of hxs h.hx (by simp))⟩
 ·intro q hq
  unfold YH at hq
  split at hq
  ·obtain ⟨z,hz,e⟩:=List.mem_map.mp hq
   split at e
   ·subst e; exact ⟨v,rfl⟩
   ·subst e; exact h.tv z hz
  ·rcases List.mem_append.mp hq with hq | hq
   ·exact h.tv q hq
   ·have:q=(.s [c],.str v):=by simpa using hq
    subst this; exact ⟨v,rfl⟩
 ·show (YH B.T _ _).length<=_
  unfold YH
  split
  ·simp; omega
  ·simp; omega
end
end L36
namespace L36
open PySem L2 FL
abbrev WG (lv:List (DK×D)) (rows:List (Nat×Nat)):List (Nat×Nat):=rows.filter fun q=>isNum lv q.1 q.2
def V0 (lv:List (DK×D)) (segs:List Sg):List (Nat×Nat):=segs.flatMap fun s=>WG lv s.rows
def Y6 (lv:List (DK×D)) (segs:List Sg) (i j k:Nat):List Sg :=
 segs.take i++(if V0 lv ((segs.drop i).take (j+1 - i))=[] then [] else [⟨k,V0 lv ((segs.drop i).take (j+1 - i)),false⟩])++segs.drop (j+1)
section
variable {B : Bx} {t : Nat} {μ μ' : Mem} {A : List Nat} {c : Nat} {b p l m : Nat} {lv : List (DK × D)} {segs : List Sg}
theorem EE {n:Int} {x1 x2 x3 x4:Option FL.Slot} (hb:μ[b]?=some (box p l m)) (hl:μ[l]?=some (.dct (lv.map (·.1)) (lv.map (·.2)))) (hg:YA lv (.s [c])=none\/∃ m,YA lv (.s [c])=some (.int m)) :
  YT [some (.fr (.obj b)),x1,x2,x3,x4,some (.fr (.tup [.str [c],.int n]))] μ = .ok (isNum lv c n) [some (.fr (.obj b)),x1,x2,x3,x4,some (.fr (.tup [.str [c],.int n]))] μ:=by
 have a0:ZL (.tup [.str [c],.int n]) (.int 0)=some (.fr (.str [c])):=by rfl
 have a1:ZL (.tup [.str [c],.int n]) (.int 1)=some (.fr (.int n)):=by rfl
 unfold YT isNum;rcases hg with h | ⟨m,h⟩
 ·simp [Sl,hb,hl,getL,VB,YB,Yo,V1,h,Lu,a0,a1]
 ·simp [Sl,hb,hl,getL,VB,YB,Yo,V1,h,Lu,a0,a1]
theorem Mq (hb:μ[b]?=some (box p l m)) (hl:μ[l]?=some (.dct (lv.map (·.1)) (lv.map (·.2)))) (hp:μ[p]?=some (.lst (segs.map XH))) (hg:∀ c,YA lv (.s [c])=none\/∃ m,YA lv (.s [c])=some (.int m))
  {n:Nat} {s:Sg} (hn:segs[n]?=some s) (hr:μ[s.r]?=some (.lst (s.rows.map Wi))) {acc:List (Nat×Nat)} (ha:acc.length+s.rows.length < 16777216) {x1 x2 x4:Option FL.Slot} :
  Zv (Zq 4) Zw (.int n) [some (.fr (.obj b)),x1,x2,some (.own (.lst (acc.map Wi))),x4,none] μ = .nx [some (.fr (.obj b)),x1,x2,some (.own (.lst ((acc++WG lv s.rows).map Wi))),some (.fr (.int n)),none] μ:=by
 let δ0:FL.Loc:=[some (.fr (.obj b)),x1,x2,some (.own (.lst (acc.map Wi))),some (.fr (.int n)),none]
 let g:D->Option D:=fun d=>match d with
  | .tup [.str [c],.int n]=>if isNum lv c n=true then some (.tup [.str [c],.int n]) else none
  | _=>none
 have e:=FL.NY (f:=Zq 5) (t:=YT) (m:=Ya) (vs:=[5]) (δ:=δ0) g (Wa hr) (fun d hd=>by
  obtain ⟨q,hq,rfl⟩:=List.mem_map.mp hd;have t:=EE (x1:=x1) (x2:=x2) (x3:=some (.own (.lst (acc.map Wi)))) (x4:=some (.fr (.int n))) (n:=q.2) hb hl (hg q.1);cases e1:isNum lv q.1 q.2 with
  | false=>rw [e1] at t; simp [PL,δ0,t,g,e1]
  | true=>rw [e1] at t; simp [PL,δ0,t,g,e1,Ya]) (by simp; omega)
 have e1:(s.rows.map Wi).filterMap g=(WG lv s.rows).map Wi:=by
  rw [List.filterMap_map,← UQ];rfl
 rw [e1] at e;simp only [List.length_map] at e;have i1:ZL (.lst (segs.map XH)) (.int n)=some (.fr (XH s)):=by
  have:L2.atI (segs.map XH) (n:Int)=some (XH s):=Ms (by rw [List.getElem?_map,hn]; rfl);simp [ZL,this]
 have i2:ZL (XH s) (.int 0)=some (.fr (.obj s.r)):=by rfl
 have fl:(WG lv s.rows).length<=s.rows.length:=List.length_filter_le _ _;have ga:ZP (.lst (acc.map Wi)) (.lst ((WG lv s.rows).map Wi))=some (.own (.lst ((acc++WG lv s.rows).map Wi))):=by
  rw [List.map_append];exact FL.Ix.Ug (by rw [List.length_map,List.length_map]; omega)
 have hr':=Wa hr;have lk:∀ μ,look μ (XH s)=some (XH s):=fun _=>rfl;rw [U0]
 show Zw δ0 μ=_;unfold Zw;generalize XH s=PS at *;generalize (acc++WG lv s.rows).map Wi=A2 at *;generalize hK:List.map Wi (WG lv s.rows)=LR at *;simp only [δ0] at e ⊢;generalize acc.map Wi=A1 at *;simp [hb,hp,Ue,i1,i2,hr',e,ga,lk]
theorem WI (hb:μ[b]?=some (box p l m)) (hl:μ[l]?=some (.dct (lv.map (·.1)) (lv.map (·.2)))) (hp:μ[p]?=some (.lst (segs.map XH))) (hg:∀ c,YA lv (.s [c])=none\/∃ m,YA lv (.s [c])=some (.int m))
  (hr:∀ s∈segs,μ[s.r]?=some (.lst (s.rows.map Wi))) {x1 x2:Option FL.Slot}:∀ (qs:List Sg) (n:Nat) (acc:List (Nat×Nat)) (x4:Option FL.Slot),(∀ (a:Nat) s,qs[a]?=some s->segs[n+a]?=some s)->acc.length+X0 qs < 16777216 ->
  ∃ y4,Wn (Zv (Zq 4) Zw) ((List.range qs.length).map fun a=>.int ((n+a:Nat):Int)) [some (.fr (.obj b)),x1,x2,some (.own (.lst (acc.map Wi))),x4,none] μ = .nx [some (.fr (.obj b)),x1,x2,some (.own (.lst ((acc++V0 lv qs).map Wi))),y4,none] μ
 | [],n,acc,x4,_,_=>⟨x4,by simp [Wn,V0]⟩
 | q :: qs,n,acc,x4,h,hs=>by
   have hq:segs[n]?=some q:=h 0 q rfl;simp only [X0,List.map_cons,List.sum_cons] at hs;have fl:(WG lv q.rows).length<=q.rows.length:=List.length_filter_le _ _;have t:=Mq hb hl hp hg hq (hr q (List.mem_of_getElem? hq)) (acc:=acc) (by omega) (x1:=x1) (x2:=x2) (x4:=x4);obtain ⟨y4,e⟩:=WI hb hl hp hg hr qs (n+1) (acc++WG lv q.rows) (some (.fr (.int n))) (fun a s z=>by
    have:=h (a+1) s z;rw [show n+1+a=n+(a+1) by omega]; exact this) (by rw [List.length_append]; simp only [X0]; omega)
   refine ⟨y4,?_⟩;rw [List.length_cons,List.range_succ_eq_map,List.map_cons,List.map_map,Xj];rw [show (.int ((n+0:Nat):Int):D) = .int (n:Int) from rfl,t,LY];have:((fun a:Nat=>D.int ((n+a:Nat):Int))∘Nat.succ)=fun a=>D.int ((n+1+a:Nat):Int):=by
    funext a
    show D.int ((n+(a+1):Nat):Int)=_;rw [show n+(a+1)=n+1+a by omega]
   rw [this,e];rw [show acc++WG lv q.rows++V0 lv qs=acc++V0 lv (q :: qs) by rw [List.append_assoc]; rfl]
theorem Hc {i j:Nat} (h:i<=j):Zj (i:Int) (j+1 - i)=(List.range (j+1 - i)).map fun a=>.int ((i+a:Nat):Int):=by
 unfold Zj
 apply List.map_congr_left
 intro a _;push_cast;rfl
theorem Kc {qs:List Sg} {q:Nat×Nat} (h:q∈V0 lv qs):∃ s∈qs,q∈s.rows:=by
 obtain ⟨s,hs,hq⟩:=List.mem_flatMap.mp h;exact ⟨s,hs,(List.mem_filter.mp hq).1⟩
theorem Qb:∀ {qs:List Sg},(V0 lv qs).length<=X0 qs
 | []=>Nat.le_refl _
 | q :: qs=>by
   have ih:=Qb (qs:=qs);have fl:(WG lv q.rows).length<=q.rows.length:=List.length_filter_le _ _
   show (WG lv q.rows++V0 lv qs).length<=_;simp only [X0,List.map_cons,List.sum_cons,List.length_append] at *;omega
theorem Bo.merge (h:Bo t B μ) (ht:t < 900) {i j:Nat} (hij:i<=j) (hj:j < B.segs.length):∃ μ2 p' k,Zz [.obj B.b,.int i,.int j] μ = .ok (.fr .non) μ2/\Bo t { B with segs:=Y6 (XQ B.live) B.segs i j k,p:=p' } μ2/\Keep μ μ2/\μ2[B.dr]?=μ[B.dr]?:=by
 have kb:=h.nb;have hg:=h.numb;obtain ⟨dr,b,p,l,x,segs,live,many,T⟩:=B;have hb:=h.hb;have hp:=h.hp;have hl:=h.hl;have n1:=h.n1;have n2:=h.n2;obtain ⟨xs,hd⟩:=h.hd;simp only at hb hp hl n1 n2 hd kb hg hj;have ltp:p < μ.length:=(List.getElem?_eq_some_iff.mp hp).1;have ltb:b < μ.length:=(List.getElem?_eq_some_iff.mp hb).1;have ltd:dr < μ.length:=(List.getElem?_eq_some_iff.mp hd).1;have hdb:dr≠b:=ne_of hd hb (by simp)
 let qs:=(segs.drop i).take (j+1 - i)
 have ql:qs.length=j+1 - i:=by simp [qs]; omega
 have sub:∀ s∈qs,s∈segs:=fun s hs=>List.mem_of_mem_drop (List.mem_of_mem_take hs);have sp:segs=segs.take i++(qs++segs.drop (j+1)):=by
  have:segs.drop (j+1)=(segs.drop i).drop (j+1 - i):=by
   rw [List.drop_drop]; congr 1; omega
  rw [this,List.take_append_drop,List.take_append_drop]
 have rs:X0 segs=X0 (segs.take i)+(X0 qs+X0 (segs.drop (j+1))):=by
  conv=>lhs; rw [sp]
  simp [X0]
 have wl:=Qb (lv:=XQ live) (qs:=qs);obtain ⟨y4,lp⟩:=WI hb hl hp hg h.hr qs i [] none (fun a s hs=>by
  have hlt:=(List.getElem?_eq_some_iff.mp hs).1;simp only [qs] at hs;rw [List.getElem?_take] at hs
  split at hs
  ·rw [List.getElem?_drop] at hs; exact hs
  ·cases hs) (by simp; omega) (x1:=some (.fr (.int i))) (x2:=some (.fr (.int j)))
 rw [List.nil_append,ql,← Hc hij] at lp
 let W:=V0 (XQ live) qs
 have it:U5 (.v 1) (.e (m2 ZP (.v 2) (.e (mD (.int 1))))) [some (.fr (.obj b)),some (.fr (.int i)),some (.fr (.int j)),some (.own (.lst [])),none,none] μ = .ok (Zj (i:Int) (j+1 - i)) [some (.fr (.obj b)),some (.fr (.int i)),some (.fr (.int j)),some (.own (.lst [])),none,none] μ:=by
  have:ZP (.int (j:Int)) (.int 1)=some (.fr (.int ((j:Int)+1))):=by simp [ZP,gInt]
  simp [this];rw [CI (by omega) (by omega) (by omega) (by omega),show (((j:Int)+1) - i).toNat=j+1 - i by omega]
 have q1:ZK 3 (ZQ []) [some (.fr (.obj b)),some (.fr (.int i)),some (.fr (.int j)),none,none,none] μ = .nx [some (.fr (.obj b)),some (.fr (.int i)),some (.fr (.int j)),some (.own (.lst (([]:List (Nat×Nat)).map Wi))),none,none] μ:=rfl;have q2:WD (U5 (.v 1) (.e (m2 ZP (.v 2) (.e (mD (.int 1)))))) (Zq 4) Zw [some (.fr (.obj b)),some (.fr (.int i)),some (.fr (.int j)),some (.own (.lst (([]:List (Nat×Nat)).map Wi))),none,none] μ = .nx [some (.fr (.obj b)),some (.fr (.int i)),some (.fr (.int j)),some (.own (.lst (W.map Wi))),y4,none] μ:=by
  rw [Tc];rw [show (([]:List (Nat×Nat)).map Wi)=[] from rfl,it,Qp];exact lp
 have ct:=FL.Ny (segs.map XH) i;have cd:=FL.Nw (segs.map XH) j;have km:=Nat.le_trans wl (show X0 qs<=X0 segs by omega);have tk:((segs.map XH).take i).length<=1000:=by rw [List.length_take,List.length_map]; omega
 have dk:((segs.map XH).drop (j+1)).length<=1000:=by rw [List.length_drop,List.length_map]; omega
 have gn:=FL.XD true (W.map Wi);have nr:=h.nr;have rl:∀ s∈segs,s.r < μ.length:=fun s hs=>(List.getElem?_eq_some_iff.mp (h.hr s hs)).1;have msub:∀ k s,s∈Y6 (XQ live) segs i j k->s∈segs\/s=⟨k,W,false⟩:=fun k s hs=>by
  unfold Y6 at hs;rcases List.mem_append.mp hs with hs | hs
  ·rcases List.mem_append.mp hs with hs | hs
   ·exact .inl (List.mem_of_mem_take hs)
   ·split at hs
    ·cases hs
    ·exact .inr (List.mem_singleton.mp hs)
  ·exact .inl (List.mem_of_mem_drop hs)
 have mnum:∀ k s,s∈Y6 (XQ live) segs i j k->∀ q∈s.rows,1<=q.2/\q.2<=many:=fun k s hs q hq=>by
  rcases msub k s hs with hs | rfl
  ·exact h.num s hs q hq
  ·obtain ⟨s0,h0,h1⟩:=Kc hq
   exact h.num s0 (sub s0 h0) q h1
 have mlen:∀ k,(Y6 (XQ live) segs i j k).length<=t:=fun k=>by
  unfold Y6;rw [List.length_append,List.length_append,List.length_take,List.length_drop]
  split <;> simp <;> omega
 have mrows:∀ k,X0 (Y6 (XQ live) segs i j k)<=t:=fun k=>by
  have:X0 (Y6 (XQ live) segs i j k)<=X0 segs:=by
   rw [rs];unfold Y6
   split
   ·simp [X0] <;> omega
   ·simp [X0] at wl ⊢; omega
  omega
 have mcl:∀ k,∀ s∈(Y6 (XQ live) segs i j k).dropLast,s.o=false:=fun k s hs=>by
  by_cases c0:segs.drop (j+1)=[]
  ·unfold Y6 at hs
   rw [c0,List.append_nil] at hs
   split at hs
   ·rw [List.append_nil] at hs
    have h1:=List.dropLast_subset _ hs;have h2:s∈segs.dropLast:=by
     have:segs.take i <+: segs.dropLast:=by
      rw [List.dropLast_eq_take];exact List.take_prefix_take_left (by omega)
     exact this.subset h1
    exact h.cl s h2
   ·rw [List.dropLast_concat] at hs
    have h2:s∈segs.dropLast:=by
     have:segs.take i <+: segs.dropLast:=by
      rw [List.dropLast_eq_take];exact List.take_prefix_take_left (by omega)
     exact this.subset hs
    exact h.cl s h2
  ·unfold Y6 at hs
   rw [List.dropLast_append_of_ne_nil c0] at hs;have dl:segs.dropLast=segs.take i++(qs++(segs.drop (j+1)).dropLast):=by
    conv=>lhs; rw [sp]
    rw [← List.append_assoc,List.dropLast_append_of_ne_nil c0,List.append_assoc]
   rcases List.mem_append.mp hs with hs | hs
   ·rcases List.mem_append.mp hs with hs | hs
    ·exact h.cl s (by simp only [dl]; exact List.mem_append_left _ hs)
    ·split at hs
     ·cases hs
     ·rw [List.mem_singleton.mp hs]
   ·exact h.cl s (by simp only [dl]; exact List.mem_append_right _ (List.mem_append_right _ hs))
 have mnr:∀ k p',(∀ s∈segs,s.r≠k)->(∀ s∈segs,s.r≠p')->k≠p'->k≠dr->p'≠dr->(p' :: dr :: (Y6 (XQ live) segs i j k).map (·.r)).Nodup:=fun k p' h1 h2 h3 h4 h5=>by
  simp only [List.nodup_cons,List.mem_cons] at nr ⊢;refine ⟨fun z => ?_,fun z => ?_,?_⟩
  ·rcases z with z | z
   ·exact h5 z
   ·obtain ⟨s,hs,e0⟩:=List.mem_map.mp z
    rcases msub k s hs with hs | rfl
    ·exact h2 s hs e0
    ·exact h3 e0
  ·obtain ⟨s,hs,e0⟩:=List.mem_map.mp z
   rcases msub k s hs with hs | rfl
   ·exact nr.2.1 (List.mem_map.mpr ⟨s,hs,e0⟩)
   ·exact h4 e0
  ·have nd:=nr.2.2
   have nd2:(segs.take i++segs.drop (j+1)).map (·.r) |>.Nodup:=by
    have:(segs.take i++segs.drop (j+1)).Sublist segs:=by
     conv=>rhs; rw [sp]
     exact List.Sublist.append (List.Sublist.refl _) (List.sublist_append_right _ _)
    exact nd.sublist (this.map _)
   unfold Y6
   split
   ·rw [List.append_nil]; exact nd2
   ·rw [List.map_append,List.nodup_append] at nd2
    rw [List.map_append,List.map_append,List.nodup_append,List.nodup_append];refine ⟨⟨nd2.1,by simp,fun a ha bb hb e0 => ?_⟩,nd2.2.1,fun a ha bb hb e0 => ?_⟩
    ·obtain ⟨s,hs,rfl⟩:=List.mem_map.mp ha
     have:bb=k:=by simpa using hb
     exact h1 s (List.mem_of_mem_take hs) (e0.trans this)
    ·rcases List.mem_append.mp ha with ha | ha
     ·exact nd2.2.2 a ha bb hb e0
     ·obtain ⟨s,hs,rfl⟩:=List.mem_map.mp hb
      have:a=k:=by simpa using ha
      exact h1 s (List.mem_of_mem_drop hs) (e0.symm.trans this)
 -- the end,whatever stands in the middle
 rw [show Zz=Zu 6 YK from rfl,X_];unfold YK;rw [show ZZ 6 [D.obj b,.int i,.int j]=[some (.fr (.obj b)),some (.fr (.int i)),some (.fr (.int j)),none,none,none] from rfl,ZS q1,ZS q2];have sl1:∀ (μ':Mem) (x3:Option FL.Slot),μ'[b]?=some (box p l many)->μ'[p]?=some (.lst (segs.map XH))->QP UE (.e (m2 ZA (.v 0) (.e (mD (.str (lit "pieces")))))) UM (mP (mV 1)) [some (.fr (.obj b)),some (.fr (.int i)),some (.fr (.int j)),x3,y4,none] μ' = .ok (.own (.lst ((segs.map XH).take i))) [some (.fr (.obj b)),some (.fr (.int i)),some (.fr (.int j)),x3,y4,none] μ':=fun μ' x3 h1 h2=>by
  generalize (segs.map XH).take i=TK at *;generalize segs.map XH=PS at *;simp [h1,h2,Ue,UE,ct]
 have sl2:∀ (μ':Mem) (x3:Option FL.Slot),μ'[b]?=some (box p l many)->μ'[p]?=some (.lst (segs.map XH))->QP UE (.e (m2 ZA (.v 0) (.e (mD (.str (lit "pieces")))))) (mP (m2 ZP (.v 2) (.e (mD (.int 1))))) UM [some (.fr (.obj b)),some (.fr (.int i)),some (.fr (.int j)),x3,y4,none] μ' = .ok (.own (.lst ((segs.map XH).drop (j+1)))) [some (.fr (.obj b)),some (.fr (.int i)),some (.fr (.int j)),x3,y4,none] μ':=fun μ' x3 h1 h2=>by
  have ga:ZP (.int (j:Int)) (.int 1)=some (.fr (.int ((j:Int)+1))):=by simp [ZP,gInt]
  generalize (segs.map XH).drop (j+1)=DK at *;generalize segs.map XH=PS at *;simp [h1,h2,Ue,UE,cd,ga]
 have gset:∀ p',Xs (.dct Nr [.obj p,.obj l,.int many]) (.str (lit "pieces")) (.obj p')=some (.dct Nr [.obj p',.obj l,.int many]):=fun p' => by rfl
 by_cases cW:W=[]
 ·-- nothing is left
  have em:Y6 (XQ live) segs i j 0=segs.take i++segs.drop (j+1):=by
   unfold Y6;rw [if_pos cW,List.append_nil]
  let P:=(segs.map XH).take i++(segs.map XH).drop (j+1)
  have eP:P=(Y6 (XQ live) segs i j 0).map XH:=by rw [em,List.map_append,List.map_take,List.map_drop]
  have g1:ZP (.lst ((segs.map XH).take i)) (.lst [])=some (.own (.lst ((segs.map XH).take i))):=by
   have:=FL.Ix.Ug (x:=(segs.map XH).take i) (y:=[]) (by simp only [List.length_nil]; omega);rw [List.append_nil] at this; exact this
  have g2:ZP (.lst ((segs.map XH).take i)) (.lst ((segs.map XH).drop (j+1)))=some (.own (.lst P)):=FL.Ix.Ug (by omega);have if0:Tq (ZN (m2 (WB true) (.v 3) (.e (ZQ [])))) (ZQ [(ZD [(YS (D6 3)),(mD (.bl false))])]) (ZQ []) [some (.fr (.obj b)),some (.fr (.int i)),some (.fr (.int j)),some (.own (.lst (W.map Wi))),y4,none] μ = .ok (.own (.lst [])) [some (.fr (.obj b)),some (.fr (.int i)),some (.fr (.int j)),some (.own (.lst (W.map Wi))),y4,none] μ:=by
   rw [cW] at gn ⊢;simp at gn;simp [gn]
  have s1:=sl1 μ (some (.own (.lst (W.map Wi)))) hb hp;have s2:=sl2 μ (some (.own (.lst (W.map Wi)))) hb hp;have hb1:(μ++[Own.lst P])[b]?=some (box p l many):=by rw [Vf (by simp [hb])]; exact hb
  have ag:=(Agr.app (μ:=μ) (ν:=[Own.lst P])).trans (Agr.set (i:=b) (o:=box μ.length l many));have at_:∀ {i:Nat} {o:Own},μ[i]?=some o->i≠b->((μ++[Own.lst P]).set b (box μ.length l many))[i]?=some o:=fun h1 h2=>by
   rw [ZY (Ne.symm h2),Vf (by simp [h1])]; exact h1
  refine ⟨(μ++[Own.lst P]).set b (box μ.length l many),μ.length,0,?_,{ h with hb:=XR hb1,hp:=?_,hl:=at_ hl (Ne.symm h.bl),hx:=at_ h.hx h.xb,hr:=?_,hd:=⟨xs,at_ hd hdb⟩,num:=mnum 0,nr:=?_,cl:=mcl 0,n1:=mlen 0,n2:=mrows 0 },⟨_,ag,?_⟩,?_⟩
  ·have ga:ZP (.int (j:Int)) (.int 1)=some (.fr (.int ((j:Int)+1))):=by simp [ZP,gInt]
   rw [show W.map Wi=[] by rw [cW]; rfl] at gn ⊢;simp at gn;clear s1 s2 if0 sl1 sl2;generalize (segs.map XH).take i=TK at *;generalize (segs.map XH).drop (j+1)=DK at *;generalize hPS:segs.map XH=PS at *;generalize hPP:P=PP at *;simp [hb,hp,Ue,UE,ct,cd,ga,gn,g1,g2,hb1,gset]
  ·show (List.set _ b _)[μ.length]?=_
   rw [ZY (by omega)];simp [eP]
  ·intro s hs
   have h1:s∈segs:=by
    simp only [em] at hs;rcases List.mem_append.mp hs with hs | hs
    ·exact List.mem_of_mem_take hs
    ·exact List.mem_of_mem_drop hs
   exact at_ (h.hr s h1) (ne_of (h.hr s h1) hb (by simp))
  ·have e0:(Y6 (XQ live) segs i j 0)=Y6 (XQ live) segs i j (μ.length+1):=by
    rw [em]; unfold Y6; rw [if_pos cW,List.append_nil]
   simp only [e0];exact mnr (μ.length+1) μ.length (fun s hs=>by have:=rl s hs; omega) (fun s hs=>by have:=rl s hs; omega) (by omega) (by omega) (by omega)
  ·intro a ha
   simp only [List.nil_append,List.mem_singleton] at ha;subst ha; exact kb
  ·show (List.set _ b _)[dr]?=_
   rw [ZY (Ne.symm hdb),Vf (by simp [hd])]
 ·have em:Y6 (XQ live) segs i j μ.length=segs.take i++[⟨μ.length,W,false⟩]++segs.drop (j+1):=by
   unfold Y6;rw [if_neg cW]
  let P:=(segs.map XH).take i++[.tup [.obj μ.length,.bl false]]++(segs.map XH).drop (j+1)
  have eP:P=(Y6 (XQ live) segs i j μ.length).map XH:=by rw [em,List.map_append,List.map_append,List.map_take,List.map_drop]; rfl
  have g1:ZP (.lst ((segs.map XH).take i)) (.lst [.tup [.obj μ.length,.bl false]])=some (.own (.lst ((segs.map XH).take i++[.tup [.obj μ.length,.bl false]]))):=FL.Ix.Ug (by simp only [List.length_singleton]; omega);have g2:ZP (.lst ((segs.map XH).take i++[.tup [.obj μ.length,.bl false]])) (.lst ((segs.map XH).drop (j+1)))=some (.own (.lst P)):=FL.Ix.Ug (by simp only [List.length_append,List.length_singleton]; omega);have if0:Tq (ZN (m2 (WB true) (.v 3) (.e (ZQ [])))) (ZQ [(ZD [(YS (D6 3)),(mD (.bl false))])]) (ZQ []) [some (.fr (.obj b)),some (.fr (.int i)),some (.fr (.int j)),some (.own (.lst (W.map Wi))),y4,none] μ = .ok (.own (.lst [.tup [.obj μ.length,.bl false]])) [some (.fr (.obj b)),some (.fr (.int i)),some (.fr (.int j)),none,y4,none] (μ++[.lst (W.map Wi)]):=by
   have ce:(decide (W.map Wi=[]) != true)=true:=by simp [cW]
   rw [ce] at gn;generalize W.map Wi=WR at *;simp [gn]
  have s1:=sl1 μ (some (.own (.lst (W.map Wi)))) hb hp
  let M:=μ++[Own.lst (W.map Wi)]
  have hbM:M[b]?=some (box p l many):=by simp only [M]; rw [Vf (by simp [hb])]; exact hb
  have hpM:M[p]?=some (.lst (segs.map XH)):=by simp only [M]; rw [Vf (by simp [hp])]; exact hp
  have lM:M.length=μ.length+1:=by simp [M]
  have s2:=sl2 M none hbM hpM;have hb1:(M++[Own.lst P])[b]?=some (box p l many):=by rw [Vf (by simp [hbM])]; exact hbM
  have ag:=(Agr.app (μ:=μ) (ν:=[Own.lst (W.map Wi)])).trans ((Agr.app (ν:=[Own.lst P])).trans (Agr.set (i:=b) (o:=box M.length l many)));have at_:∀ {i:Nat} {o:Own},μ[i]?=some o->i≠b->((M++[Own.lst P]).set b (box M.length l many))[i]?=some o:=fun {i o} h1 h2=>by
   have lt:=(List.getElem?_eq_some_iff.mp h1).1;rw [ZY (Ne.symm h2),List.getElem?_append_left (by omega)];simp only [M];rw [Vf (by simp [h1])]; exact h1
  refine ⟨(M++[Own.lst P]).set b (box M.length l many),M.length,μ.length,?_,{ h with hb:=XR hb1,hp:=?_,hl:=at_ hl (Ne.symm h.bl),hx:=at_ h.hx h.xb,hr:=?_,hd:=⟨xs,at_ hd hdb⟩,num:=mnum μ.length,nr:=?_,cl:=mcl μ.length,n1:=mlen μ.length,n2:=mrows μ.length },⟨_,ag,?_⟩,?_⟩
  ·have ga:ZP (.int (j:Int)) (.int 1)=some (.fr (.int ((j:Int)+1))):=by simp [ZP,gInt]
   have ce:(decide (W.map Wi=[]) != true)=true:=by simp [cW]
   rw [ce] at gn;clear s1 s2 if0 sl1 sl2;simp only [M] at hb1 hbM hpM ⊢;generalize (segs.map XH).take i=TK at *;generalize (segs.map XH).drop (j+1)=DK at *;generalize hPS:segs.map XH=PS at *;generalize hPP:P=PP at *;generalize W.map Wi=WR at *;have hb2:=hb1;rw [List.append_assoc] at hb2;simp only [List.cons_append,List.nil_append] at hb2;simp [hb,hp,hbM,hpM,Ue,UE,ct,cd,ga,gn,g1,g2,hb1,hb2,gset]
  ·show (List.set _ b _)[M.length]?=_
   rw [ZY (by omega)];simp [eP]
  ·intro s hs
   rcases msub _ s hs with h1 | rfl
   ·exact at_ (h.hr s h1) (ne_of (h.hr s h1) hb (by simp))
   ·show (List.set _ b _)[μ.length]?=_
    rw [ZY (by omega),List.getElem?_append_left (by omega)];simp [M]
  ·exact mnr μ.length M.length (fun s hs=>by have:=rl s hs; omega) (fun s hs=>by have:=rl s hs; omega) (by omega) (by omega) (by omega)
  ·intro a ha
   simp only [List.nil_append,List.mem_singleton] at ha;subst ha; exact kb
  ·show (List.set _ b _)[dr]?=_
   rw [ZY (Ne.symm hdb),List.getElem?_append_left (by omega)];simp only [M];rw [Vf (by simp [hd])]
end
end L36
namespace L36
open PySem L2 FL FL.Ix
theorem A:IA at_:=⟨by kernel_rfl,by kernel_rfl,by kernel_rfl,by kernel_rfl,by kernel_rfl,by kernel_rfl,by kernel_rfl,by kernel_rfl⟩
theorem zC:Ym=Ix.Ym at_:=rfl
theorem BL:Zh=Ix.Zh at_:=rfl
theorem zB:∃ r,SO "Index" "put" 2=some (Ix.Xo at_ r):=⟨_,rfl⟩
theorem zA:∃ r,W3 "Index" "delete" 1=some (Ix.Ys at_ r):=⟨_,rfl⟩
theorem uL:∃ r,U_ "Index" "document" 1=some (Ix.Yd at_ r):=⟨_,rfl⟩
theorem Hb:V8 "Index" "flush" 0=some (Ix.X1 at_):=rfl
theorem OY:Y4 "Index" "merge" 2=some (Ix.Y7 at_):=rfl
theorem sP:Zn "Index" "segments" = some Zh:=by kernel_rfl
abbrev Mp:NM:=[(lit "t",lit "text")]
theorem G':SchOk Mp:=⟨by decide,by decide,by decide,by decide⟩
abbrev dT (v:Tx):Doc:=[(lit "t",.str v)]
theorem zy {v:Tx} (h:∀ c∈v,c < 128) (hl:v.length<=400):DocOk Mp (dT v):=⟨fun p hp=>by
 have:p=(lit "t",.str v):=by simpa using hp
 subst this;exact ⟨lit "text",by simp,.t h hl⟩,by simp,by simp⟩
theorem uK {c:Nat} (h:c∈lit "klmoq"):Ky [c]:=by
 have e:c=107\/c=108\/c=109\/c=111\/c=113:=by simpa [show lit "klmoq" = [107,108,109,111,113] from by decide] using h
 rcases e with rfl | rfl | rfl | rfl | rfl <;> decide
theorem ED {r1:MS} {N ix:Nat} {μ:Mem} {S:Ix.St} {k:Tx} {d:Doc} (h:IxAt N μ ix S) (hk:Ky k) (hd:DocOk S.sc d) (hN:N < 400) :
  ∃ μ',Ix.Xo at_ r1 [.obj ix,.str k,Xb d] μ = .ok (.fr (.bl (S.has k))) μ'/\IxAt (N+1) μ' ix (S.put k d μ.length)/\Agr [ix] μ μ':=by
 obtain ⟨kd,hc⟩:=h.cell;refine ⟨_,ND (r1:=r1) A h hc hk hd hN,?_,Agr.trans (A:=[]) Agr.app Agr.set⟩;have h2:IxAt N (Wk μ k d (LA d)) ix S:=h.agr (A:=[]) Agr.app (fun i hi=>by cases hi) (by simp);have en:EntAt (Wk μ k d (LA d)) μ.length k d:=⟨_,_,Sv,Q0⟩;have l1:=h.l1;have l2:=h.l2;have l3:=h.l3;refine h2.upd h.sch (fun e he => ?_) (fun q hq p hp => ?_) (NI h.nod) (Nat.le_trans NH (by omega)) (Nat.le_trans NG (by omega)) (fun q hq => ?_)
 ·rcases NJ he with rfl | he
  ·exact ⟨en,hk,hd⟩
  ·exact h2.ent e he
 ·rcases (U9 hq).1 p hp with rfl | ⟨q',hq',hp'⟩
  ·exact ⟨d,en⟩
  ·exact h2.seg q' hq' p hp'
 ·rcases (U9 hq).2 with z | ⟨q',hq',z⟩
  ·omega
  ·have:=l3 q' hq'
   omega
theorem Np {μ μ':Mem} {n:Nat} {k v:Tx} (h:EntAt μ n k (dT v)) (a:Keep μ μ'):EntAt μ' n k (dT v):=by
 obtain ⟨kd,w,h1,h2⟩:=h;obtain ⟨A,ag,hA⟩:=a;refine ⟨kd,w,ag.at_ _ _ h1 fun z=>(hA _ z).1 _ _ _ _ h1,ag.at_ _ _ h2 fun z => ?_⟩;have e:LA (dT v) = .dct [.s (lit "t")] [.tup ((WK v).map .str)]:=by rfl
 rw [e] at h2;exact (hA _ z).2.1 _ _ h2
theorem VF {N:Nat} {μ μ':Mem} {ix:Nat} {S:Ix.St} (h:IxAt N μ ix S) (hs:∀ q∈S.ps,∀ y∈q.1,∃ v,EntAt μ y.2 y.1 (dT v)) (he:∀ y∈S.es,∃ v,y.d=dT v) (a:Keep μ μ'):IxAt N μ' ix S/\∀ q∈S.ps,∀ y∈q.1,∃ v,EntAt μ' y.2 y.1 (dT v):=by
 have k2:∀ q∈S.ps,∀ y∈q.1,∃ v,EntAt μ' y.2 y.1 (dT v):=fun q hq y hy=>let ⟨v,z⟩:=hs q hq y hy; ⟨v,Np z a⟩;obtain ⟨kd,hc⟩:=h.cell;have hc':μ'[ix]?=some (WA S kd):=by
  obtain ⟨A,ag,hA⟩:=id a;exact ag.at_ _ _ hc fun z=>(hA _ z).1 _ _ _ _ hc
 refine ⟨⟨⟨kd,hc'⟩,h.sch,fun y hy => ?_,fun q hq p hp=>let ⟨v,z⟩:=k2 q hq p hp; ⟨_,z⟩,h.nod,h.l1,h.l2,h.l3⟩,k2⟩;obtain ⟨v,hv⟩:=he y hy;have:=h.ent y hy;rw [hv] at this ⊢;exact ⟨Np this.1 a,this.2⟩
abbrev QA (tb:Nat->Addr) (q0 q1:Str) (μ:Mem):Prop:=μ[0]?=some (.tab (tb 0) q0)/\μ[1]?=some (.tab (tb 1) q1)
theorem VZ {tb:Nat->Addr} {q0 q1:Str} {μ μ':Mem} (h:QA tb q0 q1 μ) (a:Keep μ μ'):QA tb q0 q1 μ':=by
 obtain ⟨A,ag,hA⟩:=a;exact ⟨ag.at_ _ _ h.1 fun z=>(hA _ z).2.2 _ _ h.1,ag.at_ _ _ h.2 fun z=>(hA _ z).2.2 _ _ h.2⟩
theorem OX {tb:Nat->Addr} {q0 q1:Str} {μ μ':Mem} {N ix:Nat} {S:Ix.St} (h:QA tb q0 q1 μ) (hx:IxAt N μ ix S) (a:Agr [ix] μ μ'):QA tb q0 q1 μ':=by
 obtain ⟨kd,hc⟩:=hx.cell;exact ⟨a.at_ _ _ h.1 (by simpa using ne_of h.1 hc (by simp)),a.at_ _ _ h.2 (by simpa using ne_of h.2 hc (by simp))⟩
abbrev Wj (e:Nat->Nat) (q:Nat×Nat):Tx×Nat:=([q.1],e q.2)
abbrev Vq (e:Nat->Nat) (s:Sg):Pc:=(s.rows.map (Wj e),s.o)
structure W (t ix:Nat) (S:Ix.St) (e:Nat->Nat) (B:Bx) (μ:Mem):Prop where
 bo:Bo t B μ
 ix:IxAt t μ ix S
 sc:S.sc=Mp
 es:S.es.map (fun y=>(y.k,y.n))=B.live.map (Wj e)
 ps:S.ps=B.segs.map (Vq e)
 dt:∀ q∈S.ps,∀ y∈q.1,∃ v,EntAt μ y.2 y.1 (dT v)
 tx:∀ y∈S.es,∃ v,y.d=dT v/\YA B.T (.s y.k)=some (.str v)
 inj:∀ i j,1<=i->i<=B.many->1<=j->j<=B.many->e i=e j->i=j
 elt:∀ i,1<=i->i<=B.many->e i < μ.length
section
variable {t ix : Nat} {S : Ix.St} {e : Nat -> Nat} {B : Bx} {μ μ' : Mem} {c : Nat}
theorem W.mono (h:W t ix S e B μ) {u:Nat} (hu:t<=u):W u ix S e B μ:={ h with bo:=h.bo.mono hu,ix:=h.ix.mono hu }
theorem W.tot (h:W t ix S e B μ):S.tot<=t:=by
 have:=h.bo.n2;unfold St.tot;rw [h.ps,List.map_map];have e1:((fun q:Pc=>q.1.length)∘Vq e)=fun s:Sg=>s.rows.length:=by funext s; simp
 rw [e1]; exact this
theorem W.find (h:W t ix S e B μ):(S.es.find? fun y=>decide (y.k=[c])).map (fun y=>(y.k,y.n))=(B.live.find? fun q=>decide (q.1=c)).map (Wj e):=by
 have h1:(S.es.map (fun y=>(y.k,y.n))).find? (fun z=>decide (z.1=[c]))=(B.live.map (Wj e)).find? (fun z=>decide (z.1=[c])):=by rw [h.es]
 rw [List.find?_map,List.find?_map] at h1;have e2:((fun z:Tx×Nat=>decide (z.1=[c]))∘Wj e)=fun q:Nat×Nat=>decide (q.1=c):=by
  funext q;simp
 rw [e2] at h1;exact h1
theorem W.live (h:W t ix S e B μ) {n:Nat} (h1:1<=n) (h2:n<=B.many):Ix.isLive S.es ([c],e n)=isNum (XQ B.live) c (n:Nat):=by
 have f:=h.find (c:=c);unfold Ix.isLive isNum;rw [RI];cases e1:B.live.find? fun q=>decide (q.1=c) with
 | none =>
   rw [e1] at f;simp only [Option.map_none,Option.map_eq_none_iff] at f;simp only [f,Option.map_none];have : ¬ ((-1:Int)=(n:Int)):=by omega
   simp [this]
 | some q =>
   rw [e1] at f;obtain ⟨y,hy,he⟩:=Option.map_eq_some_iff.mp f;have hn:y.n=e q.2:=congrArg Prod.snd he;simp only [hy,Option.map_some];obtain ⟨a1,a2⟩:=h.bo.lv q (List.mem_of_find?_eq_some e1);rw [hn];by_cases hq:q.2=n
   ·simp [hq]
   ·have h3 : ¬ e q.2=e n:=fun z=>hq (h.inj _ _ a1 a2 h1 h2 z)
    have h4 : ¬ ((q.2:Int)=(n:Int)):=by omega
    simp [h3,h4]
theorem W.liveF (h:W t ix S e B μ) {s:Sg} (hs:s∈B.segs):(s.rows.map (Wj e)).filter (Ix.isLive S.es)=(WG (XQ B.live) s.rows).map (Wj e):=by
 rw [List.filter_map];congr 1
 apply List.filter_congr
 intro q hq;obtain ⟨a1,a2⟩:=h.bo.num s hs q hq;exact h.live a1 a2
theorem W.told (h:W t ix S e B μ):S.ps.map (Ix.VJ S.es)=B.segs.map (O4 (XQ B.live)):=by
 rw [h.ps,List.map_map]
 apply List.map_congr_left
 intro s hs
 show Ix.VJ S.es (Vq e s)=O4 (XQ B.live) s;unfold Ix.VJ O4;rw [h.liveF hs,List.length_map,List.length_map]
theorem W.has (h:W t ix S e B μ):S.has [c]=B.live.any fun q=>decide (q.1=c):=by
 have f:=h.find (c:=c);have e1:(S.es.find? fun y=>decide (y.k=[c])).isSome=(B.live.find? fun q=>decide (q.1=c)).isSome:=by
  have:=congrArg Option.isSome f;simpa using this
 unfold St.has;rw [e1];rw [Bool.eq_iff_iff,List.find?_isSome,List.any_eq_true]
theorem W.fr (h:W t ix S e B μ) (f:Fr B.dr μ μ') (hs:∃ xs,μ'[B.dr]?=some (.lst xs)):W t ix S e B μ':=by
 obtain ⟨xs,hxs⟩:=h.bo.hd;have kp:Keep μ μ':=⟨_,Agr.fr f,fun i hi=>by rw [List.mem_singleton.mp hi]; exact Tw hxs⟩;obtain ⟨k1,k2⟩:=VF h.ix h.dt (fun y hy=>let ⟨v,z,_⟩:=h.tx y hy; ⟨v,z⟩) kp;exact { h with bo:=h.bo.fr f hs,ix:=k1,dt:=k2,elt:=fun i a b=>Nat.lt_of_lt_of_le (h.elt i a b) (Agr.fr f).len }
theorem W.box (h:W t ix S e B μ) (a:Agr [ix] μ μ'):Bo t B μ':=by
 obtain ⟨kd,hc⟩:=h.ix.cell;exact h.bo.agr a fun i hi=>by rw [List.mem_singleton.mp hi]; exact ⟨_,_,_,_,hc⟩
theorem W.dtA (h:W t ix S e B μ) (a:Agr [ix] μ μ'):∀ q∈S.ps,∀ y∈q.1,∃ v,EntAt μ' y.2 y.1 (dT v):=fun q hq y hy=>by
 obtain ⟨v,z⟩:=h.dt q hq y hy;exact ⟨v,z.agr a fun i hi=>by rw [List.mem_singleton.mp hi]; exact h.ix.soft⟩
theorem Keep.len (a:Keep μ μ'):μ.length<=μ'.length:=let ⟨_,ag,_⟩:=a; ag.len
theorem Mo {segs:List Sg}:XC (segs.map (Vq e))=(VG segs).map (Vq e):=by
 rcases UP segs with rfl | ⟨ini,⟨r,rows,o⟩,rfl⟩
 ·rfl
 ·cases o <;> simp [XC,VG]
theorem W.flush (h:W t ix S e B μ) (ht:t < 300):∃ μ1 μ2 S' B',Ix.X1 at_ [.obj ix] μ = .ok (.fr .non) μ1/\ZV [.obj B.b] μ1 = .ok (.fr .non) μ2/\W t ix S' e B' μ2/\(B'.dr=B.dr/\B'.b=B.b/\B'.x=B.x)/\μ2[B.dr]?=μ[B.dr]?/\Agr [ix] μ μ1/\Keep μ1 μ2:=by
 obtain ⟨μ1,e1,x1,a1⟩:=NC A h.ix (by omega);have b1:=h.box a1;obtain ⟨μ2,e2,b2,a2⟩:=b1.flush (by omega);have kp:Keep μ1 μ2:=⟨_,a2,fun i hi=>by rw [List.mem_singleton.mp hi]; exact Tw b1.hp⟩;have dt1:∀ q∈S.flush.ps,∀ y∈q.1,∃ v,EntAt μ1 y.2 y.1 (dT v):=fun q hq y hy=>by
  have hd:=h.dtA a1;unfold St.flush XC at hq;dsimp only at hq
  split at hq
  ·rename_i l hl
   rcases List.mem_append.mp hq with hq | hq
   ·exact hd q (List.dropLast_subset _ hq) y hy
   ·have:q=(l,false):=by simpa using hq
    subst this;exact hd _ (List.mem_of_getLast? hl) y hy
  ·exact hd q hq y hy
 obtain ⟨k1,k2⟩:=VF x1 dt1 (fun y hy=>let ⟨v,z,_⟩:=h.tx y hy; ⟨v,z⟩) kp;obtain ⟨xs,hxs⟩:=h.bo.hd;obtain ⟨kd,hc⟩:=h.ix.cell;have d1:μ1[B.dr]?=some (.lst xs):=a1.at_ _ _ hxs (by simpa using ne_of hxs hc (by simp));have d2:μ2[B.dr]?=some (.lst xs):=a2.at_ _ _ d1 (by simpa using Ne.symm h.bo.p_dr);have hps:XC S.ps=(VG B.segs).map (Vq e):=by rw [h.ps,Mo]
 exact ⟨μ1,μ2,S.flush,{ B with segs:=VG B.segs },e1,e2,{ h with bo:=b2,ix:=k1,ps:=hps,dt:=k2,elt:=fun i a b=>Nat.lt_of_lt_of_le (h.elt i a b) (Nat.le_trans a1.len kp.len) },⟨rfl,rfl,rfl⟩,by rw [d2,hxs],a1,kp⟩
theorem W.del (h:W t ix S e B μ) (ht:t < 300) (hk:Ky [c]) (hi:(B.live.any fun q=>decide (q.1=c))=true) {r1:MS}:∃ μ1 S',Ix.Ys at_ r1 [.obj ix,.str [c]] μ = .ok (.fr .non) μ1/\Bo t B μ1 /\
  W t ix S' e { B with live:=WH B.live c } (μ1.set B.l (Zl (XQ (WH B.live c))))/\(μ1.set B.l (Zl (XQ (WH B.live c))))[B.dr]?=μ[B.dr]?/\Agr [ix] μ μ1/\Keep μ1 (μ1.set B.l (Zl (XQ (WH B.live c)))):=by
 obtain ⟨μ1,e1,x1,a1⟩:=Hw (r1:=r1) A h.ix hk (by rw [h.has]; exact hi) (by omega);have b1:=h.box a1;have b2:=(b1.pop hi).2;have kp:Keep μ1 (μ1.set B.l (Zl (XQ (WH B.live c)))):=⟨_,Agr.set,fun i hi=>by rw [List.mem_singleton.mp hi]; exact b1.nl⟩;obtain ⟨k1,k2⟩:=VF x1 (h.dtA a1) (fun y hy=>let ⟨v,z,_⟩:=h.tx y (List.mem_filter.mp hy).1; ⟨v,z⟩) kp;obtain ⟨xs,hxs⟩:=h.bo.hd;obtain ⟨kd,hc⟩:=h.ix.cell;have d1:μ1[B.dr]?=some (.lst xs):=a1.at_ _ _ hxs (by simpa using ne_of hxs hc (by simp));refine ⟨μ1,S.drop [c],e1,b1,{ h with bo:=b2,ix:=k1,es:=?_,dt:=k2,tx:=fun y hy=>h.tx y (List.mem_filter.mp hy).1,elt:=fun i a b=>Nat.lt_of_lt_of_le (h.elt i a b) (Nat.le_trans a1.len kp.len) },?_,a1,kp⟩
 ·have f:(S.es.map (fun y=>(y.k,y.n))).filter (fun z=>decide (z.1≠[c]))=(B.live.map (Wj e)).filter (fun z=>decide (z.1≠[c])):=by rw [h.es]
  rw [List.filter_map,List.filter_map] at f;have e2:((fun z:Tx×Nat=>decide (z.1≠[c]))∘Wj e)=fun q:Nat×Nat=>decide (q.1≠c):=by
   funext q;simp
  rw [e2] at f;exact f
 ·rw [ZY (Ne.symm (ne_of hxs h.bo.hl (by simp))),d1,hxs]
def eN (e:Nat->Nat) (m k:Nat):Nat->Nat:=fun i=>if i=m then k else e i
theorem U8 {m k:Nat}:eN e m k m=k:=if_pos rfl
theorem Ud {m k i:Nat} (h:i<=m):eN e (m+1) k i=e i:=if_neg (by omega)
theorem G_ {segs:List Sg} {m n r:Nat} (h:∀ s∈segs,∀ q∈s.rows,q.2<=m):Uh (segs.map (Vq e)) ([c],n)=(putS segs c (m+1) r).map (Vq (eN e (m+1) n)):=by
 have old:∀ s∈segs,Vq (eN e (m+1) n) s=Vq e s:=fun s hs=>by
  show (s.rows.map _,s.o)=(s.rows.map _,s.o);congr 1
  apply List.map_congr_left
  intro q hq
  show ([q.1],eN e (m+1) n q.2)=_;rw [Ud (h s hs q hq)]
 rcases UP segs with rfl | ⟨ini,⟨r',rows,o⟩,rfl⟩
 ·simp [Uh,putS,Vq,Wj,U8]
 ·have o1:ini.map (Vq (eN e (m+1) n))=ini.map (Vq e):=List.map_congr_left fun s hs=>old s (List.mem_append_left _ hs)
  have o2:=old ⟨r',rows,o⟩ (by simp);have o3:rows.map (Wj (eN e (m+1) n))=rows.map (Wj e):=congrArg Prod.fst o2;cases o with
  | true=>simp [Uh,putS,o1,o3,U8]
  | false=>simp [Uh,putS,o1,o3,U8]
theorem G9 {es:List En} {live:List (Nat×Nat)} {m n:Nat} {d:Doc} (h:es.map (fun y=>(y.k,y.n))=live.map (Wj e)) (hm:∀ q∈live,q.2<=m) :
  (UH es ⟨[c],n,d⟩).map (fun y=>(y.k,y.n))=(putL live c (m+1)).map (Wj (eN e (m+1) n)):=by
 have an:(es.any fun y=>decide (y.k=[c]))=live.any fun q=>decide (q.1=c):=by
  have h1:(es.map (fun y=>(y.k,y.n))).any (fun z=>decide (z.1=[c]))=(live.map (Wj e)).any (fun z=>decide (z.1=[c])):=by rw [h]
  rw [List.any_map,List.any_map] at h1;have e2:((fun z:Tx×Nat=>decide (z.1=[c]))∘Wj e)=fun q:Nat×Nat=>decide (q.1=c):=by
   funext q;simp
  rw [e2] at h1;exact h1
 have o1:live.map (Wj (eN e (m+1) n))=live.map (Wj e):=List.map_congr_left fun q hq=>by
  show ([q.1],eN e (m+1) n q.2)=_;rw [Ud (hm q hq)]
 unfold UH putL;rw [an];by_cases ha:(live.any fun q=>decide (q.1=c))=true
 ·rw [if_pos ha,if_pos ha,List.map_map,List.map_map]
  have g1:(es.map ((fun y:En=>(y.k,y.n))∘fun x=>if x.k=[c] then ⟨[c],n,d⟩ else x))=(es.map (fun y=>(y.k,y.n))).map (fun z=>if z.1=[c] then ([c],n) else z):=by
   rw [List.map_map]
   apply List.map_congr_left
   intro y _;by_cases hy:y.k=[c] <;> simp [hy]
  rw [g1,h,← o1,List.map_map]
  apply List.map_congr_left
  intro q hq;by_cases hq1:q.1=c
  ·simp [hq1,U8]
  ·simp [hq1]
 ·rw [if_neg ha,if_neg ha,List.map_append,List.map_append,h,o1]
  simp [U8]
theorem QV {T:List (DK×D)} {k k':DK} {v:D}:YA (YH T k v) k'=if k'=k then some v else YA T k':=by
 unfold YA YH;by_cases ha:(T.any fun p=>decide (p.1=k))=true
 ·rw [if_pos ha]
  by_cases hk:k'=k
  ·subst hk
   rw [if_pos rfl]
   induction T with
   | nil=>cases ha
   | cons p r ih =>
     by_cases hp:p.1=k'
     ·simp [hp]
     ·have:(r.any fun p=>decide (p.1=k'))=true:=by simpa [hp] using ha
      rw [List.map_cons,if_neg hp,List.find?_cons_of_neg (by simpa using hp)];exact ih this
  ·rw [if_neg hk]
   clear ha
   induction T with
   | nil=>rfl
   | cons p r ih =>
     by_cases hp:p.1=k
     ·have : ¬ k=k':=fun z=>hk z.symm
      rw [List.map_cons,if_pos hp,List.find?_cons_of_neg (by simp [hp,this]),List.find?_cons_of_neg (by simp [hp,this])];exact ih
     ·by_cases hp2:p.1=k'
      ·rw [List.map_cons,if_neg hp,List.find?_cons_of_pos (by simpa using hp2),List.find?_cons_of_pos (by simpa using hp2)]
      ·rw [List.map_cons,if_neg hp,List.find?_cons_of_neg (by simpa using hp2),List.find?_cons_of_neg (by simpa using hp2)]
       exact ih
 ·rw [if_neg ha]
  by_cases hk:k'=k
  ·subst hk
   rw [if_pos rfl];have:T.find? (fun p=>decide (p.1=k'))=none:=by
    rw [List.find?_eq_none];intro p hp;have:=ha;simp only [List.any_eq_true,not_exists] at this;exact fun z=>this p ⟨hp,z⟩
   rw [List.find?_append,this];simp
  ·rw [if_neg hk,List.find?_append]
   have : ¬ k=k':=fun z=>hk z.symm;cases T.find? (fun p=>decide (p.1=k')) <;> simp [this]
theorem EC {es:List En} {y:En}:y∈UH es y:=by
 unfold UH;by_cases ha:(es.any fun x=>decide (x.k=y.k))=true
 ·rw [if_pos ha]
  obtain ⟨x,hx,h1⟩:=List.any_eq_true.mp ha;have h1:x.k=y.k:=of_decide_eq_true h1;exact List.mem_map.mpr ⟨x,hx,by rw [if_pos h1]⟩
 ·rw [if_neg ha]; simp
theorem G8 {es:List En} {y z:En} (h:z∈UH es y):z=y\/(z∈es/\z.k≠y.k):=by
 unfold UH at h;by_cases ha:(es.any fun x=>decide (x.k=y.k))=true
 ·rw [if_pos ha] at h
  obtain ⟨x,hx,e1⟩:=List.mem_map.mp h;by_cases hc:x.k=y.k
  ·rw [if_pos hc] at e1; exact .inl e1.symm
  ·rw [if_neg hc] at e1; subst e1; exact .inr ⟨hx,hc⟩
 ·rw [if_neg ha] at h
  rcases List.mem_append.mp h with h | h
  ·refine .inr ⟨h,fun hc=>ha ?_⟩
   exact List.any_eq_true.mpr ⟨z,h,by simp [hc]⟩
  ·exact .inl (by simpa using h)
theorem W.put (h:W t ix S e B μ) (ht:t < 300) (hk:Ky [c]) {v:Tx} (hv:DocOk Mp (dT v)) {r1:MS} {μ0:Mem} (h0:μ0=μ.set B.x (Zl (YH B.T (.s [c]) (.str v)))):∃ μ1 μ2 S' e' B',Ix.Xo at_ r1 [.obj ix,.str [c],Xb (dT v)] μ0 = .ok (.fr (.bl (S.has [c]))) μ1 /\
  ZH [.obj B.b,.str [c]] μ1 = .ok (.fr .non) μ2/\W (t+2) ix S' e' B' μ2/\(B'.dr=B.dr/\B'.b=B.b/\B'.x=B.x)/\μ2[B.dr]?=μ[B.dr]?/\Keep μ μ0/\Agr [ix] μ0 μ1/\Keep μ1 μ2/\IxAt t μ0 ix S:=by
 have bt:=(h.bo.setT (c:=c) (by omega) (v:=v)).2;have kp0:Keep μ (μ.set B.x (Zl (YH B.T (.s [c]) (.str v)))):=⟨_,Agr.set,fun i hi=>by rw [List.mem_singleton.mp hi]; exact h.bo.nx⟩;obtain ⟨x0,dt0⟩:=VF h.ix h.dt (fun y hy=>let ⟨v,z,_⟩:=h.tx y hy; ⟨v,z⟩) kp0;obtain ⟨xs,hxs⟩:=h.bo.hd;have d0:(μ.set B.x (Zl (YH B.T (.s [c]) (.str v))))[B.dr]?=some (.lst xs):=by
  rw [ZY (Ne.symm (ne_of hxs h.bo.hx (by simp)))]; exact hxs
 have len0:(μ.set B.x (Zl (YH B.T (.s [c]) (.str v)))).length=μ.length:=List.length_set;rw [← h0] at bt kp0 x0 dt0 d0 len0;obtain ⟨μ1,e1,x1,a1⟩:=ED (r1:=r1) x0 hk (by rw [h.sc]; exact hv) (by omega);obtain ⟨kd,hc⟩:=x0.cell;have b1:Bo (t+1) { B with T:=YH B.T (.s [c]) (.str v) } μ1:=bt.agr a1 fun i hi=>by rw [List.mem_singleton.mp hi]; exact ⟨_,_,_,_,hc⟩
 obtain ⟨μ2,e2,b2,kp,dr2⟩:=b1.put (c:=c) (by omega);simp only at e2 b2 dr2;have en:EntAt μ1 μ0.length [c] (dT v):=(x1.ent _ (EC (y:=⟨[c],μ0.length,dT v⟩))).1;have dt1:∀ q∈(S.put [c] (dT v) μ0.length).ps,∀ y∈q.1,∃ v,EntAt μ1 y.2 y.1 (dT v):=fun q hq y hy=>by
  rcases (U9 hq).1 y hy with rfl | ⟨q',hq',hp'⟩
  ·exact ⟨v,en⟩
  ·obtain ⟨v',z⟩:=dt0 q' hq' y hp'
   exact ⟨v',z.agr a1 fun i hi=>by rw [List.mem_singleton.mp hi]; exact x0.soft⟩
 have tx1:∀ y∈(S.put [c] (dT v) μ0.length).es,∃ v',y.d=dT v'/\YA (YH B.T (.s [c]) (.str v)) (.s y.k)=some (.str v'):=fun y hy=>by
  rcases G8 hy with rfl | ⟨hy,hn⟩
  ·exact ⟨v,rfl,by rw [QV,if_pos rfl]⟩
  ·obtain ⟨v',z1,z2⟩:=h.tx y hy
   refine ⟨v',z1,?_⟩;rw [QV,if_neg (fun z=>hn (DK.s.inj z))];exact z2
 obtain ⟨k1,k2⟩:=VF x1 dt1 (fun y hy=>let ⟨v,z,_⟩:=tx1 y hy; ⟨v,z⟩) kp;have d1:μ1[B.dr]?=some (.lst xs):=a1.at_ _ _ d0 (by simpa using ne_of d0 hc (by simp));refine ⟨μ1,μ2,S.put [c] (dT v) μ0.length,eN e (B.many+1) μ0.length,_,e1,e2,{ bo:=b2,ix:=k1.mono (Nat.le_succ _),sc:=h.sc,es:=G9 h.es (fun q hq=>(h.bo.lv q hq).2),ps:=?_,dt:=k2,tx:=tx1,inj:=?_,elt:=?_ },⟨rfl,rfl,rfl⟩,by rw [dr2,d1,hxs],kp0,a1,kp,x0⟩
 ·show Uh S.ps _=_
  rw [h.ps];exact G_ fun s hs q hq=>(h.bo.num s hs q hq).2
 ·intro i j i1 i2 j1 j2 e0
  simp only at i2 j2;by_cases hi:i=B.many+1
  ·by_cases hj:j=B.many+1
   ·omega
   ·subst hi
    rw [U8,Ud (by omega)] at e0;have:=h.elt j j1 (by omega);omega
  ·by_cases hj:j=B.many+1
   ·subst hj
    rw [U8,Ud (by omega)] at e0;have:=h.elt i i1 (by omega);omega
   ·rw [Ud (by omega),Ud (by omega)] at e0
    exact h.inj i j i1 (by omega) j1 (by omega) e0
 ·intro i i1 i2
  simp only at i2;have l1:=en.lt;have l2:=kp.len;by_cases hi:i=B.many+1
  ·subst hi; rw [U8]; omega
  ·rw [Ud (by omega)]
   have:=h.elt i i1 (by omega);have:=a1.len;omega
theorem W.liveP (h:W t ix S e B μ):∀ (qs:List Sg),(∀ s∈qs,s∈B.segs)->Ix.liveP S.es (qs.map (Vq e))=(V0 (XQ B.live) qs).map (Wj e)
 | [],_=>rfl
 | q :: qs,hq=>by
   have ih:=h.liveP qs fun s hs=>hq s (List.mem_cons_of_mem _ hs)
   show (q.rows.map (Wj e)).filter (Ix.isLive S.es)++Ix.liveP S.es (qs.map (Vq e))=(WG (XQ B.live) q.rows++V0 (XQ B.live) qs).map (Wj e);rw [ih,h.liveF (hq q List.mem_cons_self),List.map_append]
theorem W.merge (h:W t ix S e B μ) (ht:t < 300) {i j:Nat} (hij:i<=j) (hj:j < B.segs.length) (ho:XI S.ps i j=true):∃ μ1 μ2 S' B',Ix.Y7 at_ [.obj ix,.int i,.int j] μ = .ok (.fr .non) μ1 /\
  Zz [.obj B.b,.int i,.int j] μ1 = .ok (.fr .non) μ2/\W t ix S' e B' μ2/\(B'.dr=B.dr/\B'.b=B.b/\B'.x=B.x)/\μ2[B.dr]?=μ[B.dr]?/\Agr [ix] μ μ1/\Keep μ1 μ2:=by
 obtain ⟨μ1,e1,x1,a1⟩:=Nt A h.ix (by omega) h.tot ho;have b1:=h.box a1;obtain ⟨μ2,p',k,e2,b2,kp,dr2⟩:=b1.merge (by omega) hij hj;have sub:∀ q∈(S.ps.drop i).take (j+1 - i),q∈S.ps:=fun q hq=>List.mem_of_mem_drop (List.mem_of_mem_take hq);have dt1:∀ q∈(S.merge i j).ps,∀ y∈q.1,∃ v,EntAt μ1 y.2 y.1 (dT v):=fun q hq y hy=>by
  have hd:=h.dtA a1;rcases Qc hq with hq | rfl
  ·exact hd q hq y hy
  ·obtain ⟨q',hq',hp⟩:=List.mem_flatMap.mp hy
   exact hd q' (sub q' hq') y (List.mem_filter.mp hp).1
 obtain ⟨k1,k2⟩:=VF x1 dt1 (fun y hy=>let ⟨v,z,_⟩:=h.tx y hy; ⟨v,z⟩) kp;obtain ⟨xs,hxs⟩:=h.bo.hd;obtain ⟨kd,hc⟩:=h.ix.cell;have d1:μ1[B.dr]?=some (.lst xs):=a1.at_ _ _ hxs (by simpa using ne_of hxs hc (by simp));refine ⟨μ1,μ2,S.merge i j,_,e1,e2,{ h with bo:=b2,ix:=k1,ps:=?_,dt:=k2,elt:=fun i a b=>Nat.lt_of_lt_of_le (h.elt i a b) (Nat.le_trans a1.len kp.len) },⟨rfl,rfl,rfl⟩,by rw [dr2,d1,hxs],a1,kp⟩
 show VH S.es S.ps i j=(Y6 (XQ B.live) B.segs i j k).map (Vq e);have lq:=h.liveP ((B.segs.drop i).take (j+1 - i)) fun s hs=>List.mem_of_mem_drop (List.mem_of_mem_take hs);unfold VH Y6;have e0:((B.segs.map (Vq e)).drop i).take (j+1 - i)=((B.segs.drop i).take (j+1 - i)).map (Vq e):=by rw [List.map_take,List.map_drop]
 rw [h.ps,e0,lq];by_cases c0:V0 (XQ B.live) ((B.segs.drop i).take (j+1 - i))=[]
 ·rw [if_pos c0,if_pos (by rw [c0]; rfl)]
  simp [List.map_take,List.map_drop]
 ·rw [if_neg c0,if_neg (by simpa using c0)]
  simp [List.map_take,List.map_drop]
end
end L36
namespace L36
open PySem L2 FL FL.Ix
theorem zx:ZT=VM YL 3 (Ix.YU X7):=rfl
theorem EB {a:String} {v:D} {μ:Mem}:Ix.YU X7 (rl (.exn "NoSegment" a v)) μ = .rt (.fr (.tup [.str (lit "segment"),.str []])) μ :=
 Lx (b5:=false) (b6:=false) (b7:=false) (b8:=false) (b9:=false) (b10:=true) (b11:=false) (b12:=false) (by kernel_rfl) (by kernel_rfl) (by kernel_rfl) (by kernel_rfl) (by kernel_rfl) (by kernel_rfl) (by kernel_rfl) (by kernel_rfl) (by kernel_rfl) (by kernel_rfl) (by kernel_rfl) (by kernel_rfl) (by rfl)
theorem EA {a:String} {v:D} {μ:Mem}:Ix.YU X7 (rl (.exn "BadNumber" a v)) μ = .rt (.fr (.tup [.str (lit "number"),.str []])) μ :=
 Lx (b5:=false) (b6:=false) (b7:=false) (b8:=false) (b9:=true) (b10:=false) (b11:=false) (b12:=false) (by kernel_rfl) (by kernel_rfl) (by kernel_rfl) (by kernel_rfl) (by kernel_rfl) (by kernel_rfl) (by kernel_rfl) (by kernel_rfl) (by kernel_rfl) (by kernel_rfl) (by kernel_rfl) (by kernel_rfl) (by rfl)
section
variable {δ δ' : FL.Loc} {μ μ' : Mem} {j : Nat} {P : Addr} {q : Str} {m : ME} {d : D} {t ix : Nat} {S : Ix.St} {e : Nat -> Nat} {B : Bx}
theorem Ez (h:μ[j]?=some (.tab P q)) (hm:m (hide δ) μ = .ok (.fr d) δ' μ'):Wg ZT j P q m δ μ = .ok (.own (.lst [d])) δ μ':=by
 rw [zx];unfold Wg;rw [h];simp only [and_self,if_true];have e1:WL m δ μ = .ok (.fr d) μ':=by
  unfold WL;rw [hm]
 have e2:VM YL 3 (Ix.YU X7) (WL m δ) μ = .ok (.own (.lst [d])) μ':=by
  unfold VM;rw [e1];have:([some (FL.Slot.fr .unk),some (FL.Slot.fr .non),some (FL.Slot.fr d),none]++List.replicate 3 none:FL.Loc)=[some (.fr .unk),some (.fr .non),some (.fr d),none,none,none,none]:=rfl;simp only [this];unfold Ix.YU;simp
 rw [e2]
theorem Lq {c a:String} {v:D} {s:FL.Slot} (h:μ[j]?=some (.tab P q)) (hm:m (hide δ) μ = .exc ⟨c,a,v⟩ δ' μ') (hs:YL c=some true) (hr:Ix.YU X7 (rl (.exn c a v)) μ' = .rt s μ'):Wg ZT j P q m δ μ = .ok s δ μ':=by
 rw [zx]; exact EO h hm hs hr
theorem Lp {N i:Nat} (h:IxAt N μ ix S) (hN:N < 1000) (hv:δ[i]?=some (some (.fr (.obj ix)))):We Zn "segments" (.v i) δ μ = .ok (.fr (.tup (S.ps.map (Ix.VJ S.es)))) δ μ:=by
 have e:=ET A h hN;rw [← BL] at e;obtain ⟨vs,hl,hi⟩:=h.ins;rw [RL,Ge,hv];have e2:(OR.i i).self δ=some (.obj ix):=by rw [MW,hv]
 simp only [Wu,e2,hi,hl,sP,e]
theorem Lo (neg:Bool):YC neg (.tup (S.ps.map (Ix.VJ S.es))) (.tup (S.ps.map (Ix.VJ S.es)))=some (FL.tb (true != neg)):=Lay.same neg (Hv S.es S.ps) (by decide) (by rfl)
theorem DN:∀ l:List Int,fvs (l.map D.int)=some (l.map V.int)
 | []=>rfl
 | a :: l=>by
   have ih:=DN l;simp [fvs,D.fv,ih]
theorem DM (p:Int):∀ l:List Int,inV (.int p) (l.map V.int)=decide (p∈l)
 | []=>rfl
 | a :: l=>by
   have ih:=DM p l;unfold inV at ih ⊢;rw [List.map_cons,List.any_cons,ih];have e:eqV (.int a) (.int p)=decide (p=a):=by
    show decide (a=p)=_;by_cases h:p=a
    ·subst h; simp
    ·have n : ¬ a=p:=fun z=>h z.symm
     rw [decide_eq_false h,decide_eq_false n]
   rw [e];by_cases h1:p=a <;> by_cases h2:p∈l <;> simp [h1,h2] <;> (try subst h1) <;> simp [h2]
theorem Ey {p:Int} {l:List Int}:To false (.int p) (.lst (l.map .int))=some (.fr (.bl (decide (p∈l)))):=by
 have h:=DN l;have e:OM false (.int p) (.lst (l.map .int))=none:=rfl;simp only [To,e,GN,D.fv,h,DM,Option.or];simp
theorem uR (l:List Nat) (p:Int):To false (.int p) (.lst (l.map fun i:Nat=>.int (i:Int)))=some (.fr (.bl (decide (p∈l.map fun i:Nat=>(i:Int))))):=by
 have e:(D.lst (l.map fun i:Nat=>.int (i:Int))) = .lst ((l.map fun i:Nat=>(i:Int)).map .int):=by rw [List.map_map]; rfl
 rw [e];exact Ey
def RY (segs:List Sg):List Nat:=(List.range segs.length).filter fun i => !((segs[i]?.map (·.o)).getD true)
def Nn (segs:List Sg) (a b:Int):Bool:=decide (a∈(RY segs).map fun i:Nat=>(i:Int))&&(decide (b∈(RY segs).map fun i:Nat=>(i:Int))&&decide (a<=b))
theorem G7 {segs:List Sg} {a:Int}:a∈((RY segs).map fun i:Nat=>(i:Int))↔∃ i:Nat,a=i/\∃ s,segs[i]?=some s/\s.o=false:=by
 unfold RY;simp only [List.mem_map,List.mem_filter,List.mem_range];constructor
 ·rintro ⟨i,⟨h1,h2⟩,rfl⟩
  refine ⟨i,rfl,segs[i],List.getElem?_eq_getElem h1,?_⟩;rw [List.getElem?_eq_getElem h1] at h2;simpa using h2
 ·rintro ⟨i,rfl,s,hs,ho⟩
  exact ⟨i,⟨(List.getElem?_eq_some_iff.mp hs).1,by rw [hs]; simp [ho]⟩,rfl⟩
theorem Ex (h:W t ix S e B μ) (a b:Int):Nn B.segs a b=XI S.ps a b:=by
 have hl:S.ps.length=B.segs.length:=by rw [h.ps,List.length_map]
 have ho:∀ n:Nat,(S.ps[n]?.map (·.2))=B.segs[n]?.map (·.o):=fun n=>by
  rw [h.ps,List.getElem?_map,Option.map_map];rfl
 rw [Bool.eq_iff_iff];unfold Nn XI;simp only [Bool.and_eq_true,decide_eq_true_eq,G7,hl,ho];constructor
 ·rintro ⟨⟨i,rfl,s,hs,_⟩,⟨j,rfl,s',hs',ho'⟩,hij⟩
  have lj:=(List.getElem?_eq_some_iff.mp hs').1;refine ⟨⟨⟨by omega,hij⟩,by omega⟩,?_⟩;rw [show ((j:Nat):Int).toNat=j by omega,hs'];simp [ho']
 ·rintro ⟨⟨⟨h0,h1⟩,h2⟩,h3⟩
  obtain ⟨i,rfl⟩:∃ i:Nat,a=i:=⟨a.toNat,by omega⟩;obtain ⟨j,rfl⟩:∃ j:Nat,b=j:=⟨b.toNat,by omega⟩;have lj:j < B.segs.length:=by omega
  have li:i < B.segs.length:=by omega
  rw [show ((j:Nat):Int).toNat=j by omega,List.getElem?_eq_getElem lj] at h3;have cj:B.segs[j].o=false:=by simpa using h3
  refine ⟨⟨i,rfl,B.segs[i],List.getElem?_eq_getElem li,?_⟩,⟨j,rfl,B.segs[j],List.getElem?_eq_getElem lj,cj⟩,h1⟩;by_cases hij:i=j
  ·subst hij; exact cj
  ·have:B.segs[i]∈B.segs.dropLast:=by
    rw [List.dropLast_eq_take];have hi:i < (B.segs.take (B.segs.length - 1)).length:=by rw [List.length_take]; omega
    have:=List.getElem_mem hi;rwa [List.getElem_take] at this
   exact h.bo.cl _ this
abbrev q0:Str:=Str.ofString "_law_merged_right.<locals>.<lambda>"
abbrev q1:Str:=Str.ofString "_law_odd_right.<locals>.<lambda>"
theorem Nm {tb:Nat->Addr} (h:QA tb q0 q1 μ) (f:Fr B.dr μ μ') (hd:∃ xs,μ[B.dr]?=some (.lst xs)):QA tb q0 q1 μ':=by
 obtain ⟨xs,hd⟩:=hd;exact VZ h ⟨_,Agr.fr f,fun i hi=>by rw [List.mem_singleton.mp hi]; exact Tw hd⟩
theorem Ew (h:W t ix S e B μ) (ht:t < 300) (tb:Nat->Addr) {x0 x1 x3 x4 x5 x6 x7 x8:Option FL.Slot} :
  Sn (Zq 9) (Zb tb) (Za tb) [9] (Zj 0 B.segs.length) [] [x0,x1,some (.fr (.obj B.b)),x3,x4,x5,x6,x7,x8,none] μ
   = .ok (.own (.lst ((RY B.segs).map fun i:Nat=>.int (i:Int)))) [x0,x1,some (.fr (.obj B.b)),x3,x4,x5,x6,x7,x8,none] μ:=by
 have n1:=h.bo.n1;have hb:=h.bo.hb;have hp:=h.bo.hp;have r:=Xr (f:=Zq 9) (t:=Zb tb) (m:=Za tb) (vs:=[9]) (δ:=[x0,x1,some (.fr (.obj B.b)),x3,x4,x5,x6,x7,x8,none]) (μ:=μ) (fun d=>match d with | .int n=>if (!((B.segs[n.toNat]?.map (·.o)).getD true))=true then some (.int n) else none | _=>none) (ds:=Zj 0 B.segs.length) (acc:=[]) (fun d hd=>by
  unfold Zj at hd;obtain ⟨i,hi,rfl⟩:=List.mem_map.mp hd;have hi:=List.mem_range.mp hi;have g:=List.getElem?_eq_getElem hi;rw [show ((0:Int)+(i:Nat))=(i:Int) by omega];have i1:ZL (.lst (B.segs.map XH)) (.int i)=some (.fr (XH B.segs[i])):=by
   have:L2.atI (B.segs.map XH) (i:Int)=some (XH B.segs[i]):=Ms (by rw [List.getElem?_map,g]; rfl);simp [ZL,this]
  have i2:ZL (XH B.segs[i]) (.int 1)=some (.fr (.bl B.segs[i].o)):=by rfl
  have lk:∀ μ,look μ (XH B.segs[i])=some (XH B.segs[i]):=fun _=>rfl;unfold PL Zb Za;generalize XH B.segs[i]=PS at *;cases ho:B.segs[i].o with
  | true=>rw [ho] at i2; simp [hb,hp,Ue,i1,i2,lk,g,ho,Out.cut]
  | false=>rw [ho] at i2; simp [hb,hp,Ue,i1,i2,lk,g,ho,Out.cut]) (by simp [Zj]; omega)
 rw [List.nil_append] at r;rw [r];congr 3;unfold Zj RY;rw [List.filterMap_map,← UQ];congr 1;funext i;simp
theorem OW (h:W t ix S e B μ) (ht:t < 200) {tb:Nat->Addr} (tt:QA tb q0 q1 μ) {Bd:Int} (hs:Src μ B.dr Bd) (hB:Bd<=2 ^ 30) :
  ∃ μ' S' B',Y3 tb [.obj B.dr,.obj ix,.obj B.b] μ = .ok (.fr (.bl true)) μ'/\W t ix S' e B' μ'/\(B'.dr=B.dr/\B'.b=B.b/\B'.x=B.x)/\QA tb q0 q1 μ'/\Src μ' B.dr (Bd+2):=by
 have n1:=h.bo.n1;have hb:=h.bo.hb;have hp:=h.bo.hp;have q1:ZK 3 (mC Zt [(.e (m2 ZA (.v 2) (.e (mD (.str (lit "pieces"))))))]) [some (.fr (.obj B.dr)),some (.fr (.obj ix)),some (.fr (.obj B.b)),none,none,none,none,none,none,none] μ = .nx [some (.fr (.obj B.dr)),some (.fr (.obj ix)),some (.fr (.obj B.b)),some (.fr (.int (B.segs.length:Int))),none,none,none,none,none,none] μ:=by
  have:Zt [.lst (B.segs.map XH)]=some (.fr (.int (B.segs.length:Int))):=by simp [Zt,W7]
  generalize B.segs.map XH=PS at *;simp [hb,hp,Ue,this]
 obtain ⟨r1,μ1,e1,p0,p1,s1,f1⟩:=Wc (n:=(B.segs.length:Int)+2) hs (by omega) (by omega) (by omega);have w1:=h.fr f1 s1.cell;have t1:=Nm tt f1 h.bo.hd;obtain ⟨r2,μ2,e2,p2,p3,s2,f2⟩:=Wc (n:=(B.segs.length:Int)+2) s1 (by omega) (by omega) (by omega);have w2:=w1.fr f2 s2.cell;have t2:=Nm t1 f2 w1.bo.hd;have q2:UN 7 8 (m2 gSub (.e (ZX Y2 [(mV 0),(m2 ZP (.v 3) (.e (mD (.int 2))))] [])) (.e (mD (.int 1)))) (m2 gSub (.e (ZX Y2 [(mV 0),(m2 ZP (.v 3) (.e (mD (.int 2))))] [])) (.e (mD (.int 1)))) [some (.fr (.obj B.dr)),some (.fr (.obj ix)),some (.fr (.obj B.b)),some (.fr (.int (B.segs.length:Int))),none,none,none,none,none,none] μ
   = .nx [some (.fr (.obj B.dr)),some (.fr (.obj ix)),some (.fr (.obj B.b)),some (.fr (.int (B.segs.length:Int))),none,none,none,some (.fr (.int (r1 - 1))),some (.fr (.int (r2 - 1))),none] μ2:=by
  have ga:ZP (.int (B.segs.length:Int)) (.int 2)=some (.fr (.int ((B.segs.length:Int)+2))):=by simp [ZP,gInt]
  have gs:∀ r:Int,gSub (.int r) (.int 1)=some (.fr (.int (r - 1))):=fun r=>by simp [FL.gSub]
  rw [← en] at e1 e2;simp [ga,gs,e1,e2]
 generalize ha:r1 - 1=a at q2;generalize hb':r2 - 1=b at q2
 let δ2:FL.Loc:=[some (.fr (.obj B.dr)),some (.fr (.obj ix)),some (.fr (.obj B.b)),some (.fr (.int (B.segs.length:Int))),none,none,none,some (.fr (.int a)),some (.fr (.int b)),none]
 let CL:FL.Slot:=.own (.lst ((RY B.segs).map fun i:Nat=>.int (i:Int)))
 have q3:ZK 4 (Tj (Xv (.v 3)) (Zq 9) (Zb tb) (Za tb) [9]) δ2 μ2 = .nx [some (.fr (.obj B.dr)),some (.fr (.obj ix)),some (.fr (.obj B.b)),some (.fr (.int (B.segs.length:Int))),some CL,none,none,some (.fr (.int a)),some (.fr (.int b)),none] μ2:=by
  have lc:=Ew w2 (by omega) tb (x0:=some (.fr (.obj B.dr))) (x1:=some (.fr (.obj ix))) (x3:=some (.fr (.int (B.segs.length:Int)))) (x4:=none) (x5:=none) (x6:=none) (x7:=some (.fr (.int a))) (x8:=some (.fr (.int b)));have rr:zm (B.segs.length:Int) δ2 μ2 = .ok (Zj 0 B.segs.length) δ2 μ2:=by
   rw [MZ (by omega) (by omega)];rw [Int.toNat_natCast]
  simp only [δ2] at rr ⊢;simp [rr,lc,CL]
 have q4:ZK 5 (X' (m2 (To false) (.v 7) (.v 4)) (X' (m2 (To false) (.v 8) (.v 4)) (m2 Tv (.v 7) (.v 8)))) [some (.fr (.obj B.dr)),some (.fr (.obj ix)),some (.fr (.obj B.b)),some (.fr (.int (B.segs.length:Int))),some CL,none,none,some (.fr (.int a)),some (.fr (.int b)),none] μ2
   = .nx [some (.fr (.obj B.dr)),some (.fr (.obj ix)),some (.fr (.obj B.b)),some (.fr (.int (B.segs.length:Int))),some CL,some (.fr (.bl (Nn B.segs a b))),none,some (.fr (.int a)),some (.fr (.int b)),none] μ2:=by
  have g1:=uR (RY B.segs) a;have g2:=uR (RY B.segs) b;have g3:Tv (.int a) (.int b)=some (.fr (.bl (decide (a<=b)))):=by simp
  unfold Nn;simp only [CL];generalize ((RY B.segs).map fun i:Nat=>(D.int (i:Int)))=LL at *;by_cases c1:a∈((RY B.segs).map fun i:Nat=>(i:Int))
  ·by_cases c2:b∈((RY B.segs).map fun i:Nat=>(i:Int))
   ·rw [decide_eq_true c1] at g1 ⊢
    rw [decide_eq_true c2] at g2 ⊢;simp [g1,g2,g3]
   ·rw [decide_eq_true c1] at g1 ⊢
    rw [decide_eq_false c2] at g2 ⊢;simp [g1,g2,g3]
  ·rw [decide_eq_false c1] at g1 ⊢
   simp [g1,g2,g3]
 have hgo:=Ex w2 a b;have fin:∀ {S' B' μ3} (w:W t ix S' e B' μ3) (hB':B'.b=B.b) (x3 x4 x5 x6:Option FL.Slot),ZF (m2 (YC false) (.e (We Zn "segments" (.v 1))) (.e (ZX YZ [(m2 ZA (.v 2) (.e (mD (.str (lit "pieces"))))),(m2 ZA (.v 2) (.e (mD (.str (lit "live")))))] []))) [some (.fr (.obj B.dr)),some (.fr (.obj ix)),some (.fr (.obj B.b)),x3,x4,x5,x6,some (.fr (.int a)),some (.fr (.int b)),none] μ3 = .rt (.fr (.bl true)) μ3:=by
  intro S' B' μ3 w hB' x3 x4 x5 x6;have s:=Lp (i:=1) (δ:=[some (.fr (.obj B.dr)),some (.fr (.obj ix)),some (.fr (.obj B.b)),x3,x4,x5,x6,some (.fr (.int a)),some (.fr (.int b)),none]) w.ix (by omega) rfl;have tl:=w.bo.told (by omega);rw [← w.told] at tl;have te:=Lo (S:=S') false;have hb3:=w.bo.hb;rw [hB'] at hb3;generalize S'.ps.map (Ix.VJ S'.es)=TT at *;simp [s,hb3,Ue,getL,tl,te,-RL]
 rw [show Y3 tb=Zu 10 (Yz tb) from rfl,X_];unfold Yz;rw [show ZZ 10 [D.obj B.dr,.obj ix,.obj B.b]=[some (.fr (.obj B.dr)),some (.fr (.obj ix)),some (.fr (.obj B.b)),none,none,none,none,none,none,none] from rfl,ZS q1,ZS q2,ZS q3,ZS q4];cases hg:Nn B.segs a b with
 | true =>
   rw [hg] at hgo;obtain ⟨i,j,rfl,rfl,hij,hj⟩:=Sh hgo.symm;have hj':j < B.segs.length:=by
    have:S.ps.length=B.segs.length:=by rw [h.ps,List.length_map]
    omega
   obtain ⟨μ3,μ4,S',B',m1,m2',w4,hB',dr4,a3,k4⟩:=w2.merge (by omega) hij hj' hgo.symm;have q5:ZK 6 (Wg ZT 0 (tb 0) "_law_merged_right.<locals>.<lambda>" (Zk Y4 "merge" (.v 1) [(mV 7),(mV 8)])) [some (.fr (.obj B.dr)),some (.fr (.obj ix)),some (.fr (.obj B.b)),some (.fr (.int (B.segs.length:Int))),some CL,some (.fr (.bl true)),none,some (.fr (.int i)),some (.fr (.int j)),none] μ2
     = .nx [some (.fr (.obj B.dr)),some (.fr (.obj ix)),some (.fr (.obj B.b)),some (.fr (.int (B.segs.length:Int))),some CL,some (.fr (.bl true)),some (.own (.lst [.non])),some (.fr (.int i)),some (.fr (.int j)),none] μ3:=by
    have:=Ez (δ:=[some (.fr (.obj B.dr)),some (.fr (.obj ix)),some (.fr (.obj B.b)),some (.fr (.int (B.segs.length:Int))),some CL,some (.fr (.bl true)),none,some (.fr (.int i)),some (.fr (.int j)),none]) (m:=Zk Y4 "merge" (.v 1) [(mV 7),(mV 8)]) t2.1 (Ix.VI (ds:=[.int i,.int j]) w2.ix (by rfl) (by decide) OY (by rfl) m1);rw [Rv,this];rfl
   have t4:=VZ (OX t2 w2.ix a3) k4;have sr:Src μ4 B.dr (Bd+2):=by
    obtain ⟨c,i',g,z1,z2⟩:=s2;exact ⟨c,i',g,by rw [dr4]; exact z1,z2.1,by omega,z2.2.2⟩
   refine ⟨μ4,S',B',?_,w4,hB',t4,sr⟩;rw [ZS q5];have q6:ZR (ZN (m2 (YC true) (.v 6) (.e (Tq (ZN (mV 5)) (ZQ [(mD .non)]) (ZD [(mD (.str (lit "segment"))),(mD (.str (lit "")))]))))) (ZF (mD (.bl false))) ZW [some (.fr (.obj B.dr)),some (.fr (.obj ix)),some (.fr (.obj B.b)),some (.fr (.int (B.segs.length:Int))),some CL,some (.fr (.bl true)),some (.own (.lst [.non])),some (.fr (.int i)),some (.fr (.int j)),none] μ3
     = .nx [some (.fr (.obj B.dr)),some (.fr (.obj ix)),some (.fr (.obj B.b)),some (.fr (.int (B.segs.length:Int))),some CL,some (.fr (.bl true)),some (.own (.lst [.non])),some (.fr (.int i)),some (.fr (.int j)),none] μ3:=by
    have:YC true (.lst [.non]) (.lst [.non])=some (FL.tb false):=by rfl
    simp [this]
   rw [ZS q6];have q7:ZR (ZN (mV 5)) (W6 (ZX Zz [(mV 2),(mV 7),(mV 8)] [])) ZW [some (.fr (.obj B.dr)),some (.fr (.obj ix)),some (.fr (.obj B.b)),some (.fr (.int (B.segs.length:Int))),some CL,some (.fr (.bl true)),some (.own (.lst [.non])),some (.fr (.int i)),some (.fr (.int j)),none] μ3
     = .nx [some (.fr (.obj B.dr)),some (.fr (.obj ix)),some (.fr (.obj B.b)),some (.fr (.int (B.segs.length:Int))),some CL,some (.fr (.bl true)),some (.own (.lst [.non])),some (.fr (.int i)),some (.fr (.int j)),none] μ4:=by
    simp [m2']
   rw [ZS q7,fin w4 hB'.2.1];rfl
 | false =>
   rw [hg] at hgo;have m1:=Kf A w2.ix (by omega) hgo.symm;have q5:ZK 6 (Wg ZT 0 (tb 0) "_law_merged_right.<locals>.<lambda>" (Zk Y4 "merge" (.v 1) [(mV 7),(mV 8)])) [some (.fr (.obj B.dr)),some (.fr (.obj ix)),some (.fr (.obj B.b)),some (.fr (.int (B.segs.length:Int))),some CL,some (.fr (.bl false)),none,some (.fr (.int a)),some (.fr (.int b)),none] μ2
     = .nx [some (.fr (.obj B.dr)),some (.fr (.obj ix)),some (.fr (.obj B.b)),some (.fr (.int (B.segs.length:Int))),some CL,some (.fr (.bl false)),some (.fr (.tup [.str (lit "segment"),.str []])),some (.fr (.int a)),some (.fr (.int b)),none] μ2:=by
    have:=Lq (δ:=[some (.fr (.obj B.dr)),some (.fr (.obj ix)),some (.fr (.obj B.b)),some (.fr (.int (B.segs.length:Int))),some CL,some (.fr (.bl false)),none,some (.fr (.int a)),some (.fr (.int b)),none]) (m:=Zk Y4 "merge" (.v 1) [(mV 7),(mV 8)]) t2.1 (Ix.Ho w2.ix (by rfl) (by decide) OY (by rfl) m1) (by kernel_rfl) EB;rw [Rv,this];rfl
   refine ⟨μ2,S,B,?_,w2,⟨rfl,rfl,rfl⟩,t2,s2.mono (by omega)⟩;rw [ZS q5];have q6:ZR (ZN (m2 (YC true) (.v 6) (.e (Tq (ZN (mV 5)) (ZQ [(mD .non)]) (ZD [(mD (.str (lit "segment"))),(mD (.str (lit "")))]))))) (ZF (mD (.bl false))) ZW [some (.fr (.obj B.dr)),some (.fr (.obj ix)),some (.fr (.obj B.b)),some (.fr (.int (B.segs.length:Int))),some CL,some (.fr (.bl false)),some (.fr (.tup [.str (lit "segment"),.str []])),some (.fr (.int a)),some (.fr (.int b)),none] μ2
     = .nx [some (.fr (.obj B.dr)),some (.fr (.obj ix)),some (.fr (.obj B.b)),some (.fr (.int (B.segs.length:Int))),some CL,some (.fr (.bl false)),some (.fr (.tup [.str (lit "segment"),.str []])),some (.fr (.int a)),some (.fr (.int b)),none] μ2:=by
    have le:lit "" = []:=by decide
    have:YC true (.tup [.str (lit "segment"),.str []]) (.tup [.str (lit "segment"),.str []])=some (FL.tb false):=Lay.same true (Lay.tup (d:=0) fun x hx=>by
     simp only [List.mem_cons,List.not_mem_nil,or_false] at hx;rcases hx with rfl | rfl
     ·exact Lay.str (by decide)
     ·exact Lay.str (by decide)) (by decide) (by rfl)
    rw [le];generalize lit "segment" = sw at *;simp [this]
   rw [ZS q6];have q7:ZR (ZN (mV 5)) (W6 (ZX Zz [(mV 2),(mV 7),(mV 8)] [])) ZW [some (.fr (.obj B.dr)),some (.fr (.obj ix)),some (.fr (.obj B.b)),some (.fr (.int (B.segs.length:Int))),some CL,some (.fr (.bl false)),some (.fr (.tup [.str (lit "segment"),.str []])),some (.fr (.int a)),some (.fr (.int b)),none] μ2
     = .nx [some (.fr (.obj B.dr)),some (.fr (.obj ix)),some (.fr (.obj B.b)),some (.fr (.int (B.segs.length:Int))),some CL,some (.fr (.bl false)),some (.fr (.tup [.str (lit "segment"),.str []])),some (.fr (.int a)),some (.fr (.int b)),none] μ2:=by
    simp
   rw [ZS q7,fin w2 rfl];rfl
end
end L36
namespace L36
open PySem L2 FL FL.Ix
section
variable {δ δ' : FL.Loc} {μ μ' : Mem} {t ix : Nat} {S : Ix.St} {e : Nat -> Nat} {B : Bx} {c : Nat}
def Mn (d:D) (b:Bool):Prop:=∀ μ,Ix.ZO [d,.non,.non] μ = .ok (.fr (.bl b)) μ
theorem Qa {a b d:D} {r:Bool} {x3 x4 x5 x6:Option FL.Slot} (h:Mn d r):Zv (Zq 3) Ix.Zs d (Ix.ml ix a b x3 x4 x5 x6) μ=if r=true then .nx (Ix.ml ix a b (some (.fr d)) x4 x5 x6) μ else .exc O5 (Ix.ml ix a b (some (.fr d)) x4 x5 x6) μ:=by
 have e:=h μ;rw [U0]
 show Ix.Zs (Ix.ml ix a b (some (.fr d)) x4 x5 x6) μ=_;unfold Ix.Zs O5;generalize lit "not an integer" = w at *;cases r <;> simp [e]
theorem QU {a b:D} {ra rb:Bool} (ha:Mn a ra) (hb:Mn b rb) (h:(ra&&rb)=false):Ix.Y7 at_ [.obj ix,a,b] μ = .exc O5 μ:=by
 rw [show Ix.Y7 at_=Zu 7 (Ix.YD at_) from rfl,X_];unfold Ix.YD;rw [show ZZ 7 [D.obj ix,a,b]=Ix.ml ix a b none none none none from rfl];have it:Uc (ZD [(mV 1),(mV 2)]) (Ix.ml ix a b none none none none) μ = .ok [a,b] (Ix.ml ix a b none none none none) μ:=by simp
 have t1:=Qa (ix:=ix) (μ:=μ) (a:=a) (b:=b) (x3:=none) (x4:=none) (x5:=none) (x6:=none) ha;have t2:=Qa (ix:=ix) (μ:=μ) (a:=a) (b:=b) (x3:=some (.fr a)) (x4:=none) (x5:=none) (x6:=none) hb;have q1:∃ δ',WD (Uc (ZD [(mV 1),(mV 2)])) (Zq 3) Ix.Zs (Ix.ml ix a b none none none none) μ = .exc O5 δ' μ:=by
  rw [Tc,it,Qp,Xj,t1];cases ra with
  | true =>
    have:rb=false:=by simpa using h
    subst this;rw [if_pos rfl,LY,Xj,t2,if_neg Bool.false_ne_true];exact ⟨_,rfl⟩
  | false =>
    rw [if_neg Bool.false_ne_true];exact ⟨_,rfl⟩
 obtain ⟨δ',q1⟩:=q1;rw [FL.Sx.DO q1];rfl
theorem Mm {d:D} (h:Si d=true):Mn d (W9 d && !Vy d):=fun μ=>Hn h
theorem uJ {ks:List DK} {vs:List D}:Mn (.dcf ks vs) false:=fun μ=>by
 have h6:kitB "dict" "int" = some false:=by kernel_rfl
 have e1:Yc [.dcf ks vs,.ty "int"]=some (FL.tb false):=by simp [Yc,Dm,h6]
 simp [Ix.ZO,Ix.Y1,ZZ,e1]
abbrev Eu:List D:=[.non,.bl true,.str (lit "0"),.tup [.int 0],.lst [],.dcf [] [],.bl false]
theorem Et {d:D} (h:d∈Eu):Mn d false:=by
 simp only [Eu,List.mem_cons,List.not_mem_nil,or_false] at h;rcases h with rfl | rfl | rfl | rfl | rfl | rfl | rfl
 ·exact Mm rfl
 ·exact Mm rfl
 ·exact Mm rfl
 ·exact Mm rfl
 ·exact Mm rfl
 ·exact uJ
 ·exact Mm rfl
theorem int_num {i:Int}:Mn (.int i) true:=Mm rfl
theorem Kb (h:W t ix S e B μ) (ht:t < 200) {tb:Nat->Addr} (tt:QA tb q0 q1 μ) {Bd:Int} (hs:Src μ B.dr Bd) (hB:Bd<=2 ^ 30) :
  ∃ μ',XU tb [.obj B.dr,.obj ix] μ = .ok (.fr (.bl true)) μ'/\W t ix S e B μ'/\QA tb q0 q1 μ'/\Src μ' B.dr (Bd+1):=by
 obtain ⟨o,μ1,ho,e1,s1,f1⟩:=I9 (xs:=Eu) hs (by omega) (by simp) (by simp);have w1:=h.fr f1 s1.cell;have t1:=Nm tt f1 h.bo.hd;have nn:=Et ho;rw [← ep] at e1;have q1:ZK 4 (ZX YQ [(mV 0),(ZQ [(mD .non),(mD (.bl true)),(mD (.str (lit "0"))),(ZD [(mD (.int 0))]),(ZQ []),(Wb Xu),(mD (.bl false))])] []) [some (.fr (.obj B.dr)),some (.fr (.obj ix)),none,none,none] μ = .nx [some (.fr (.obj B.dr)),some (.fr (.obj ix)),none,none,some (.fr o)] μ1:=by
  simp only [Eu] at e1;simp [e1,Xu]
 have sv:=fun δ hv=>Lp (i:=1) (δ:=δ) w1.ix (by omega) hv;have te:=Lo (S:=S) false;generalize S.ps.map (Ix.VJ S.es)=TT at sv te;have q2:ZK 2 (We Zn "segments" (.v 1)) [some (.fr (.obj B.dr)),some (.fr (.obj ix)),none,none,some (.fr o)] μ1 = .nx [some (.fr (.obj B.dr)),some (.fr (.obj ix)),some (.fr (.tup TT)),none,some (.fr o)] μ1:=by
  rw [Rv,sv _ rfl];rfl
 have lam:∀ (x3:Option FL.Slot) (ma mb:ME) (a b:D),XF [ma,mb] (hide [some (.fr (.obj B.dr)),some (.fr (.obj ix)),some (.fr (.tup TT)),x3,some (.fr o)]) μ1 = .ok [a,b] (hide [some (.fr (.obj B.dr)),some (.fr (.obj ix)),some (.fr (.tup TT)),x3,some (.fr o)]) μ1->Ix.Y7 at_ [.obj ix,a,b] μ1 = .exc O5 μ1 ->
   Wg ZT 1 (tb 1) "_law_odd_right.<locals>.<lambda>" (Zk Y4 "merge" (.v 1) [ma,mb]) [some (.fr (.obj B.dr)),some (.fr (.obj ix)),some (.fr (.tup TT)),x3,some (.fr o)] μ1 = .ok (.fr (.tup [.str (lit "number"),.str []])) [some (.fr (.obj B.dr)),some (.fr (.obj ix)),some (.fr (.tup TT)),x3,some (.fr o)] μ1:=by
  intro x3 ma mb a b ha hm;exact Lq t1.2 (Ix.Ho w1.ix (by rfl) (by decide) OY ha hm) (by kernel_rfl) EA
 have l1:=lam none (mV 4) (mD (.int 0)) o (.int 0) (by rfl) (QU nn int_num rfl);have l2:=lam none (mD (.int 99)) (mV 4) (.int 99) o (by rfl) (QU int_num nn rfl);have l3:=fun x3=>lam x3 (mV 4) (mV 4) o o (by rfl) (QU nn nn rfl);have le:lit "" = []:=by decide
 have ga:Zp (.lst [.tup [.str (lit "number"),.str []],.tup [.str (lit "number"),.str []]]) [.tup [.str (lit "number"),.str []]]=some (.non,.lst [.tup [.str (lit "number"),.str []],.tup [.str (lit "number"),.str []],.tup [.str (lit "number"),.str []]]):=by
  simp [Zp]
 have gm:VD (.lst [.tup [.str (lit "number"),.str []]]) (.int 3)=some (.own (.lst [.tup [.str (lit "number"),.str []],.tup [.str (lit "number"),.str []],.tup [.str (lit "number"),.str []]])):=by rfl
 have ge:YC false (.lst [.tup [.str (lit "number"),.str []],.tup [.str (lit "number"),.str []],.tup [.str (lit "number"),.str []]]) (.lst [.tup [.str (lit "number"),.str []],.tup [.str (lit "number"),.str []],.tup [.str (lit "number"),.str []]])=some (FL.tb true):=by
  have l1:Lay 1 (.tup [.str (lit "number"),.str []]):=Lay.tup (d:=0) fun x hx=>by
   simp only [List.mem_cons,List.not_mem_nil,or_false] at hx;rcases hx with rfl | rfl
   ·exact Lay.str (by decide)
   ·exact Lay.str (by decide)
  exact Lay.same false (Lay.lst (d:=1) fun x hx=>by
   simp only [List.mem_cons,List.not_mem_nil,or_false,or_self] at hx;subst hx; exact l1) (by decide) (by rfl)
 refine ⟨μ1,?_,w1,t1,s1⟩;rw [show XU tb=Zu 5 (XW tb) from rfl,X_];unfold XW;rw [show ZZ 5 [D.obj B.dr,.obj ix]=[some (.fr (.obj B.dr)),some (.fr (.obj ix)),none,none,none] from rfl,ZS q1,ZS q2,le];generalize hNB:(D.tup [.str (lit "number"),.str []])=NB at *;have q3:ZK 3 (ZQ [(Wg ZT 1 (tb 1) "_law_odd_right.<locals>.<lambda>" (Zk Y4 "merge" (.v 1) [(mV 4),(mD (.int 0))])),(Wg ZT 1 (tb 1) "_law_odd_right.<locals>.<lambda>" (Zk Y4 "merge" (.v 1) [(mD (.int 99)),(mV 4)]))]) [some (.fr (.obj B.dr)),some (.fr (.obj ix)),some (.fr (.tup TT)),none,some (.fr o)] μ1
   = .nx [some (.fr (.obj B.dr)),some (.fr (.obj ix)),some (.fr (.tup TT)),some (.own (.lst [NB,NB])),some (.fr o)] μ1:=by
  simp [l1,l2,-IM]
 have q4:W6 (VS "list" Zp (.v 3) [(Wg ZT 1 (tb 1) "_law_odd_right.<locals>.<lambda>" (Zk Y4 "merge" (.v 1) [(mV 4),(mV 4)]))]) [some (.fr (.obj B.dr)),some (.fr (.obj ix)),some (.fr (.tup TT)),some (.own (.lst [NB,NB])),some (.fr o)] μ1
   = .nx [some (.fr (.obj B.dr)),some (.fr (.obj ix)),some (.fr (.tup TT)),some (.own (.lst [NB,NB,NB])),some (.fr o)] μ1:=by
  have:=l3 (some (.own (.lst [NB,NB])));simp [this,ga,-IM]
 rw [ZS q3,ZS q4];have sv2:=sv [some (.fr (.obj B.dr)),some (.fr (.obj ix)),some (.fr (.tup TT)),some (.own (.lst [NB,NB,NB])),some (.fr o)] rfl;simp [sv2,te,hNB,gm,ge,-RL]
end
end L36
namespace L36
open PySem L2 FL FL.Ix
section
variable {δ δ' : FL.Loc} {μ μ' : Mem} {t ix : Nat} {S : Ix.St} {e : Nat -> Nat} {B : Bx} {c : Nat}
theorem BK {sc:NM} {d:Doc} (h:DocOk sc d):Uo true (Hr d).d (.dct (Sz d) (Sy d))=some (.fr (.bl false)):=by
 have e:=zQ (neg:=true) h h;rw [Mu h] at e;exact e
abbrev lf (dr ix x b:Nat) (x0 x1 x6 x7 x8:Option FL.Slot):FL.Loc:=[x0,x1,some (.fr (.obj dr)),some (.fr (.obj ix)),some (.fr (.obj x)),some (.fr (.obj b)),x6,x7,x8]
theorem G6 (h:W t ix S e B μ) (ht:t < 300) (tb:Nat->Addr) {x0 x1 x6 x7 x8:Option FL.Slot} :
  Ku (m2 ZA (.v 5) (.e (mD (.str (lit "live"))))) (Tj (Ta (m2 ZA (.v 5) (.e (mD (.str (lit "live")))))) (Zq 7) (Uj tb) (SH tb) [7]) (lf B.dr ix B.x B.b x0 x1 x6 x7 x8) μ = .ok (.own (.lst [])) (lf B.dr ix B.x B.b x0 x1 x6 none x8) μ:=by
 have hb:=h.bo.hb;have hl:=h.bo.hl;have n3:=h.bo.n3
 let μL:=μ.set B.l (.fdc ((XQ B.live).map (·.1)) ((XQ B.live).map (·.2)))
 have m0:m2 ZA (.v 5) (.e (mD (.str (lit "live")))) (lf B.dr ix B.x B.b x0 x1 x6 x7 x8) μ = .ok (.fr (.obj B.l)) (lf B.dr ix B.x B.b x0 x1 x6 x7 x8) μ:=by
  simp [hb,getL]
 have hbL:μL[B.b]?=some (box B.p B.l B.many):=by simp only [μL]; rw [ZY (Ne.symm h.bo.bl)]; exact hb
 have m1:m2 ZA (.v 5) (.e (mD (.str (lit "live")))) (lf B.dr ix B.x B.b x0 x1 x6 x7 x8) μL = .ok (.fr (.obj B.l)) (lf B.dr ix B.x B.b x0 x1 x6 x7 x8) μL:=by
  simp [hbL,getL]
 have kp:Keep μ μL:=⟨_,Agr.set,fun i hi=>by rw [List.mem_singleton.mp hi]; exact h.bo.nl⟩;obtain ⟨xL,_⟩:=VF h.ix h.dt (fun y hy=>let ⟨v,z,_⟩:=h.tx y hy; ⟨v,z⟩) kp;have hxL:μL[B.x]?=some (.dct (B.T.map (·.1)) (B.T.map (·.2))):=by simp only [μL]; rw [ZY (Ne.symm h.bo.xl)]; exact h.bo.hx
 have hlL:μL[B.l]?=some (.fdc ((XQ B.live).map (·.1)) ((XQ B.live).map (·.2))):=XR hl;obtain ⟨r1,mDd⟩:=uL;have back:μL.set B.l (.dct ((XQ B.live).map (·.1)) ((XQ B.live).map (·.2)))=μ:=by
  simp only [μL];rw [List.set_set]
  apply List.ext_getElem?
  intro j;by_cases z:j=B.l
  ·subst z
   rw [XR hl,hl]
  ·rw [List.getElem?_set_ne (Ne.symm z)]
 have lp:=Xr (f:=Zq 7) (t:=Uj tb) (m:=SH tb) (vs:=[7]) (δ:=lf B.dr ix B.x B.b x0 x1 x6 none x8) (μ:=μL) (fun _=>none) (ds:=((XQ B.live).map (·.1)).map DK.d) (acc:=[]) (fun d hd=>by
  obtain ⟨k,hk,rfl⟩:=List.mem_map.mp hd;obtain ⟨p,hp,rfl⟩:=List.mem_map.mp hk;obtain ⟨q,hq,rfl⟩:=List.mem_map.mp hp;have hn:S.has [q.1]=true:=by
   rw [h.has];exact List.any_eq_true.mpr ⟨q,hq,by simp⟩
  unfold St.has at hn;obtain ⟨y,hy⟩:=Option.isSome_iff_exists.mp hn;have hm:=List.mem_of_find?_eq_some hy;have hk2:y.k=[q.1]:=by simpa using List.find?_some hy
  obtain ⟨v,hv,ht⟩:=h.tx y hm;rw [hk2] at ht;have dof:S.docOf [q.1]=some (dT v):=by unfold St.docOf; rw [hy,Option.map_some,hv]
  have hd:=(h.ix.ent y hm).2.2;rw [hv,h.sc] at hd;have dv:=zN (δ:=lf B.dr ix B.x B.b x0 x1 x6 (some (.fr (.str [q.1]))) x8) (mk:=mV 7) (i:=3) A xL rfl mDd (by rfl) dof;have gq:=BK hd;have gf:Ws (.dct (B.T.map (·.1)) (B.T.map (·.2))) (.str [q.1])=some (.fr (.str v)):=by
   simp only [Ws,YB,Option.bind_some,Yo];rw [V1,ht];rfl
  have k1:FL.mergeA [] [((.s (lit "t"):DK),D.str v)]=[(.s (lit "t"),.str v)]:=by rfl
  have dk:Sz (dT v)=[.s (lit "t")]:=by rfl
  have dvv:Sy (dT v)=[.str v]:=by rfl
  rw [dk,dvv] at gq;have vl:∀ μ,look μ (Hr (dT v)).d=some (Hr (dT v)).d:=fun _=>rfl;generalize Hr (dT v)=OO at dv gq vl
  show PL (Zq 7) (Uj tb) (SH tb) [7] (.str [q.1]) (lf B.dr ix B.x B.b x0 x1 x6 none x8) μL=_;unfold PL Uj;simp only [CB];rw [show (lf B.dr ix B.x B.b x0 x1 x6 none x8).set 7 (some (.fr (.str [q.1])))=lf B.dr ix B.x B.b x0 x1 x6 (some (.fr (.str [q.1]))) x8 from rfl];simp [dv,hxL,UA,KN,gf,k1,gq,vl,Out.cut,-RJ]) (by simp; omega)
 unfold Ku;rw [m0];simp only [hl];rw [show μ.set B.l (.fdc ((XQ B.live).map (·.1)) ((XQ B.live).map (·.2)))=μL from rfl];have e2:Tj (Ta (m2 ZA (.v 5) (.e (mD (.str (lit "live")))))) (Zq 7) (Uj tb) (SH tb) [7] (lf B.dr ix B.x B.b x0 x1 x6 x7 x8) μL = .ok (.own (.lst [])) (lf B.dr ix B.x B.b x0 x1 x6 none x8) μL:=by
  rw [D3];unfold Ta;rw [m1,Wu];simp only [HP,hlL];rw [Wu]
  show Sn _ _ _ _ _ _ (lf B.dr ix B.x B.b x0 x1 x6 none x8) μL=_;rw [lp];simp
 rw [e2]
 show Out.ok _ _ (μL.set B.l _)=_;rw [back]
theorem zw {i:Nat} (h:i < 16):∃ z,Qn [.int (i:Int)]=some (.fr (.str z))/\(∀ c∈(lit "v" ++ z),c < 128)/\(lit "v" ++ z).length<=400:=by
 have:i=0\/i=1\/i=2\/i=3\/i=4\/i=5\/i=6\/i=7\/i=8\/i=9\/i=10\/i=11\/i=12\/i=13\/i=14\/i=15:=by omega
 rcases this with rfl | rfl | rfl | rfl | rfl | rfl | rfl | rfl | rfl | rfl | rfl | rfl | rfl | rfl | rfl | rfl <;> exact ⟨_,by rfl,by decide,by decide⟩
theorem Es (h:W t ix S e B μ) (ht:t < 100) {tb:Nat->Addr} (tt:QA tb q0 q1 μ) {Bd:Int} (hs:Src μ B.dr Bd) (hB:Bd<=2 ^ 20) {n:Nat} (hn:n < 16) {x0 x1 x7 x8:Option FL.Slot} :
  ∃ μ' S' e' B' y8,SE tb (lf B.dr ix B.x B.b x0 x1 (some (.fr (.int (n:Int)))) x7 x8) μ = .nx (lf B.dr ix B.x B.b x0 x1 (some (.fr (.int (n:Int)))) none y8) μ'/\W (t+2) ix S' e' B' μ'/\(B'.dr=B.dr/\B'.b=B.b/\B'.x=B.x)/\QA tb q0 q1 μ'/\Src μ' B.dr (Bd+4):=by
 obtain ⟨c,μ1,hc,e1,s1,f1⟩:=IZ (xs:=lit "klmoq") hs (by omega) (by decide) (by decide);have w1:=h.fr f1 s1.cell;have t1:=Nm tt f1 h.bo.hd;obtain ⟨w,μ2,e2,p0,p1,s2,f2⟩:=Wc (n:=8) s1 (by omega) (by omega) (by omega);have w2:=w1.fr f2 s2.cell;have t2:=Nm t1 f2 w1.bo.hd;have ky:=uK hc;rw [← ep] at e1;rw [← en] at e2;have q1:UN 7 8 (ZX YQ [(mV 2),(mD (.str (lit "klmoq")))] []) (ZX Y2 [(mV 2),(mD (.int 8))] []) (lf B.dr ix B.x B.b x0 x1 (some (.fr (.int (n:Int)))) x7 x8) μ = .nx (lf B.dr ix B.x B.b x0 x1 (some (.fr (.int (n:Int)))) (some (.fr (.str [c]))) (some (.fr (.int w)))) μ2:=by
  simp [e1,e2]
 -- the end of a turn
 have fin:∀ {μ' S' e' B' y7} (w':W (t+2) ix S' e' B' μ') (hB':B'.dr=B.dr/\B'.b=B.b/\B'.x=B.x),ZR (ZN (m2 (WB true) (.e (Ku (m2 ZA (.v 5) (.e (mD (.str (lit "live"))))) (Tj (Ta (m2 ZA (.v 5) (.e (mD (.str (lit "live")))))) (Zq 7) (Uj tb) (SH tb) [7]))) (.e (ZQ [])))) (ZF (mD (.bl false))) ZW
   (lf B.dr ix B.x B.b x0 x1 (some (.fr (.int (n:Int)))) y7 (some (.fr (.int w)))) μ' = .nx (lf B.dr ix B.x B.b x0 x1 (some (.fr (.int (n:Int)))) none (some (.fr (.int w)))) μ':=by
  intro μ' S' e' B' y7 w' ⟨a1,a2,a3⟩;have ck:=G6 w' (by omega) tb (x0:=x0) (x1:=x1) (x6:=some (.fr (.int (n:Int)))) (x7:=y7) (x8:=some (.fr (.int w)));rw [a1,a2,a3] at ck;have gn:WB true (.lst []) (.lst [])=some (FL.tb false):=by rfl
  simp [ck,gn]
 have all:∀ {μ' S' e' B'} (_:(ZR (ZN (m2 Nl (.v 8) (.e (mD (.int 2))))) (Z4 (W6 (Zk V8 "flush" (.v 3) [])) (W6 (ZX ZV [(mV 5)] [])))
  (ZR (VX (ZN (m2 (YC false) (.v 8) (.e (mD (.int 2))))) (ZN (m2 (Vw false) (.v 7) (.e (m2 ZA (.v 5) (.e (mD (.str (lit "live"))))))))) (Z4 (W6 (Zk W3 "delete" (.v 3) [(mV 7)])) (W6 (Ol (.e (m2 ZA (.v 5) (.e (mD (.str (lit "live")))))) (mV 7))))
  (ZR (ZN (m2 Nl (.v 8) (.e (mD (.int 6))))) (Z4 (XA Xs (.v 4) (.v 7) (m2 ZP (.e (mD (.str (lit "v")))) (.e (mC Qn [(.v 6)]))))
  (Z4 (W6 (Zk SO "put" (.v 3) [(mV 7),(Wb (UA [(.s (lit "t"),(m2 Ws (.v 4) (.v 7)))]))])) (W6 (ZX ZH [(mV 5),(mV 7)] []))))
  (ZR (XT (ZN (ZX (Y3 tb) [(mV 2),(mV 3),(mV 5)] []))) (ZF (mD (.bl false))) ZW)))) (lf B.dr ix B.x B.b x0 x1 (some (.fr (.int (n:Int)))) (some (.fr (.str [c]))) (some (.fr (.int w)))) μ2 = .nx (lf B.dr ix B.x B.b x0 x1 (some (.fr (.int (n:Int)))) (some (.fr (.str [c]))) (some (.fr (.int w)))) μ')
   (w':W (t+2) ix S' e' B' μ') (hB':B'.dr=B.dr/\B'.b=B.b/\B'.x=B.x) (_:QA tb q0 L36.q1 μ') (_:Src μ' B.dr (Bd+4)),
   ∃ μ' S' e' B' y8,SE tb (lf B.dr ix B.x B.b x0 x1 (some (.fr (.int (n:Int)))) x7 x8) μ = .nx (lf B.dr ix B.x B.b x0 x1 (some (.fr (.int (n:Int)))) none y8) μ'/\W (t+2) ix S' e' B' μ'/\(B'.dr=B.dr/\B'.b=B.b/\B'.x=B.x)/\QA tb q0 L36.q1 μ'/\Src μ' B.dr (Bd+4):=by
  intro μ' S' e' B' ee w' hB' tt' ss';refine ⟨μ',S',e',B',some (.fr (.int w)),?_,w',hB',tt',ss'⟩;unfold SE;rw [ZS q1,ZS ee];exact fin w' hB'
 have srd:∀ {μ':Mem},μ'[B.dr]?=μ2[B.dr]?->Src μ' B.dr (Bd+4):=fun z=>by
  obtain ⟨c,i',g,z1,z2⟩:=s2;exact ⟨c,i',g,by rw [z]; exact z1,z2.1,by omega,z2.2.2⟩
 have hb:=w2.bo.hb;have hl:=w2.bo.hl;have hin:Vw false (.str [c]) (.dct ((XQ B.live).map (·.1)) ((XQ B.live).map (·.2)))=some (.fr (.bl (B.live.any fun q=>decide (q.1=c)))):=by
  have z:(YA (XQ B.live) (.s [c])).isSome=B.live.any fun q=>decide (q.1=c):=by
   rw [RI,Option.isSome_map,Bool.eq_iff_iff,List.find?_isSome,List.any_eq_true]
  simp only [Vw,YB,Yo,Option.bind_some,Option.map_some,V1,z];cases (B.live.any fun q=>decide (q.1=c)) <;> rfl
 by_cases c2:w < 2
 ·obtain ⟨μ3,μ4,S',B',g1,g2,w4,hB',dr4,a3,k4⟩:=w2.flush (by omega)
  refine all (S':=S') (e':=e) (B':=B') (μ':=μ4) ?_ (w4.mono (by omega)) hB' (VZ (OX t2 w2.ix a3) k4) (srd dr4);rw [CJ (δ1:=lf B.dr ix B.x B.b x0 x1 (some (.fr (.int (n:Int)))) (some (.fr (.str [c]))) (some (.fr (.int w)))) (μ1:=μ2) (by simp [c2])];have:=Ix.VI (δ:=lf B.dr ix B.x B.b x0 x1 (some (.fr (.int (n:Int)))) (some (.fr (.str [c]))) (some (.fr (.int w)))) (i:=3) (ms:=[]) (ds:=[]) w2.ix (by rfl) (by decide) Hb (by rfl) g1;rw [ZS (by rw [Qo,this]; rfl)];simp [g2]
 ·rw [show ZR (ZN (m2 Nl (.v 8) (.e (mD (.int 2)))))=ZR (ZN (m2 Nl (.v 8) (.e (mD (.int 2))))) from rfl] at all
  have f2':ZN (m2 Nl (.v 8) (.e (mD (.int 2)))) (lf B.dr ix B.x B.b x0 x1 (some (.fr (.int (n:Int)))) (some (.fr (.str [c]))) (some (.fr (.int w)))) μ2 = .ok false (lf B.dr ix B.x B.b x0 x1 (some (.fr (.int (n:Int)))) (some (.fr (.str [c]))) (some (.fr (.int w)))) μ2:=by simp [c2]
  have tin:VX (ZN (m2 (YC false) (.v 8) (.e (mD (.int 2))))) (ZN (m2 (Vw false) (.v 7) (.e (m2 ZA (.v 5) (.e (mD (.str (lit "live")))))))) (lf B.dr ix B.x B.b x0 x1 (some (.fr (.int (n:Int)))) (some (.fr (.str [c]))) (some (.fr (.int w)))) μ2
    = .ok (decide (w=2)&&B.live.any fun q=>decide (q.1=c)) (lf B.dr ix B.x B.b x0 x1 (some (.fr (.int (n:Int)))) (some (.fr (.str [c]))) (some (.fr (.int w)))) μ2:=by
   generalize hLL:(XQ B.live).map (·.1)=LK at hl hin;generalize hLV:(XQ B.live).map (·.2)=LV at hl hin;by_cases hw1:w=2
   ·simp [hw1,hb,hl,getL,hin]
   ·simp [hw1]
  cases cd:(decide (w=2)&&B.live.any fun q=>decide (q.1=c)) with
  | true =>
    rw [cd] at tin;have hi:(B.live.any fun q=>decide (q.1=c))=true:=(Bool.and_eq_true_iff.mp cd).2;obtain ⟨r1,mDd⟩:=zA;obtain ⟨μ3,S',g1,b3,w4,dr4,a3,k4⟩:=w2.del (by omega) ky hi (r1:=r1);refine all (S':=S') (e':=e) ?_ (w4.mono (by omega)) ⟨rfl,rfl,rfl⟩ (VZ (OX t2 w2.ix a3) k4) (srd dr4);rw [KZ f2',CJ tin];have:=Ix.VI (δ:=lf B.dr ix B.x B.b x0 x1 (some (.fr (.int (n:Int)))) (some (.fr (.str [c]))) (some (.fr (.int w)))) (i:=3) (ms:=[mV 7]) (ds:=[.str [c]]) w2.ix (by rfl) (by decide) mDd (by rfl) g1;rw [ZS (by rw [Qo,this]; rfl)];obtain ⟨⟨v,hv⟩,_⟩:=b3.pop hi;have hb3:=b3.hb;have hl3:=b3.hl;generalize Zl (XQ (WH B.live c))=Dn at hv;generalize (XQ B.live).map (·.1)=LK at hl3 hv;generalize (XQ B.live).map (·.2)=LV at hl3 hv;simp [Ol,hb3,hl3,getL,hv]
  | false =>
    rw [cd] at tin;by_cases c6:w < 6
    ·obtain ⟨z,gz,za,zl⟩:=zw hn
     obtain ⟨r1,mP⟩:=zB;obtain ⟨gs,bt⟩:=w2.bo.setT (c:=c) (v:=lit "v" ++ z) (by omega);obtain ⟨μ3,μ4,S',e',B',g1,g2,w4,hB',dr4,k0,a3,k4,x0'⟩:=w2.put (by omega) ky (zy za zl) (r1:=r1) rfl;refine all (S':=S') (e':=e') (B':=B') (μ':=μ4) ?_ w4 hB' (VZ (OX (VZ t2 k0) x0' a3) k4) (srd dr4);rw [KZ f2',KZ tin,CJ (δ1:=lf B.dr ix B.x B.b x0 x1 (some (.fr (.int (n:Int)))) (some (.fr (.str [c]))) (some (.fr (.int w)))) (μ1:=μ2) (by simp [c6])];have hx:=w2.bo.hx;have ga:ZP (.str (lit "v")) (.str z)=some (.fr (.str (lit "v" ++ z))):=by
      have:(lit "v" ++ z).length<=16777216:=by omega
      rw [List.length_append] at this;simp [ZP,gInt,Wh,this]
     have gt:Ws (.dct ((YH B.T (.s [c]) (.str (lit "v" ++ z))).map (·.1)) ((YH B.T (.s [c]) (.str (lit "v" ++ z))).map (·.2))) (.str [c])=some (.fr (.str (lit "v" ++ z))):=by
      simp only [Ws,YB,Option.bind_some,Yo];rw [V1,QV,if_pos rfl];rfl
     have hx3:=bt.hx;simp only at hx3;have q2:XA Xs (.v 4) (.v 7) (m2 ZP (.e (mD (.str (lit "v")))) (.e (mC Qn [(.v 6)]))) (lf B.dr ix B.x B.b x0 x1 (some (.fr (.int (n:Int)))) (some (.fr (.str [c]))) (some (.fr (.int w)))) μ2 = .nx (lf B.dr ix B.x B.b x0 x1 (some (.fr (.int (n:Int)))) (some (.fr (.str [c]))) (some (.fr (.int w)))) (μ2.set B.x (Zl (YH B.T (.s [c]) (.str (lit "v" ++ z))))):=by
      generalize Zl (YH B.T (.s [c]) (.str (lit "v" ++ z)))=Dn at gs;generalize lit "v" ++ z=vz at ga gs;generalize lit "v" = vv at ga;generalize B.T.map (·.1)=LK at hx gs;generalize B.T.map (·.2)=LV at hx gs;simp [gz,ga,hx,gs]
     rw [ZS q2];generalize μ2.set B.x (Zl (YH B.T (.s [c]) (.str (lit "v" ++ z))))=μ0 at g1 hx3 x0' a3 k0;have ea:XF [(mV 7),(Wb (UA [(.s (lit "t"),(m2 Ws (.v 4) (.v 7)))]))] (lf B.dr ix B.x B.b x0 x1 (some (.fr (.int (n:Int)))) (some (.fr (.str [c]))) (some (.fr (.int w)))) μ0 = .ok [.str [c],Xb (dT (lit "v" ++ z))] (lf B.dr ix B.x B.b x0 x1 (some (.fr (.int (n:Int)))) (some (.fr (.str [c]))) (some (.fr (.int w)))) μ0:=by
      have k1:∀ v,FL.mergeA [] [((.s (lit "t"):DK),D.str v)]=[(.s (lit "t"),.str v)]:=fun v=>by rfl
      have dd:Xb (dT (lit "v" ++ z)) = .dcf [.s (lit "t")] [.str (lit "v" ++ z)]:=by rfl
      rw [dd];generalize lit "v" ++ z=vz at gt hx3;generalize (YH B.T (.s [c]) (.str vz)).map (·.1)=LK at hx3 gt;generalize (YH B.T (.s [c]) (.str vz)).map (·.2)=LV at hx3 gt;simp [UA,KN,k1,hx3,gt]
     have:=Ix.VI (δ:=lf B.dr ix B.x B.b x0 x1 (some (.fr (.int (n:Int)))) (some (.fr (.str [c]))) (some (.fr (.int w)))) (i:=3) (f:="put") x0' (by rfl) (by decide) mP ea g1;rw [ZS (by rw [Qo,this]; rfl)];simp [g2]
    ·obtain ⟨μ3,S',B',g1,w3,hB',t3,s3⟩:=OW w2 (by omega) t2 s2 (by omega)
     refine all (S':=S') (e':=e) (B':=B') (μ':=μ3) ?_ (w3.mono (by omega)) hB' t3 (s3.mono (by omega));rw [KZ f2',KZ tin,KZ (δ1:=lf B.dr ix B.x B.b x0 x1 (some (.fr (.int (n:Int)))) (some (.fr (.str [c]))) (some (.fr (.int w)))) (μ1:=μ2) (by simp [c6])];simp [g1]
end
end L36
namespace L36
open PySem L2 FL FL.Ix
section
variable {ns : List Int} {μ μ' : Mem}
theorem zv {rest:FL.Loc} (h:rest.length=8):∃ a b c d e f g h,rest=[a,b,c,d,e,f,g,h]:=by
 match rest,h with
 | [a,b,c,d,e,f,g,h],_=>exact ⟨a,b,c,d,e,f,g,h,rfl⟩
theorem OV {tb:Nat->Addr} {q0 q1:Str} {ν:Mem} (h:QA tb q0 q1 μ) (a:Agr [] μ ν):QA tb q0 q1 ν:=⟨a.at_ _ _ h.1 (by simp),a.at_ _ _ h.2 (by simp)⟩
theorem zu {δ:FL.Loc}:(MR [(ZD [(mD (.str (lit "t"))),(mD (.str (lit "text")))])]) δ μ = .ok (.fr (Xm Mp)) δ μ:=by
 rw [show Xm Mp = .rc [.tup [.str (lit "t"),.str (lit "text")]] from rfl];generalize lit "t" = NN;generalize lit "text" = NB;simp
theorem Er (hl:ns.length<=63) {tb:Nat->Addr} (tt:QA tb q0 q1 μ) {k:Int} (k0:0<=k) (k3:k < 3) {rest:FL.Loc} (hr:rest.length=8):Nx (Zv (Zq 1) (SA tb) (.int k) (some (.fr (.ro (ns.map .int))) :: rest) μ) fun δ' μ' => (∃ r',r'.length=8/\δ'=some (.fr (.ro (ns.map .int))) :: r')/\QA tb q0 q1 μ':=by
 obtain ⟨x1,x2,x3,x4,x5,x6,x7,x8,rfl⟩:=zv hr;obtain ⟨a,g,g0,es1⟩:=Of (μ:=μ) (k:=k) hl k0 (by omega);rw [← es] at es1
 let M1:Mem:=μ++[.lst [.int a,.int (3 * k),.int g]]
 have a1:Agr [] μ M1:=Agr.app;obtain ⟨ix,M2,e2,h2,a2,ex⟩:=DS (δ:=[some (.fr (.ro (ns.map .int))),some (.fr (.int k)),x2,x3,x4,x5,x6,x7,x8]) (μ:=M1) A G' (zu (μ:=M1)) (by rfl);rw [← zC] at e2
 let M3:Mem:=M2++[.dct [] []]
 have e3:JJ (Vm 3 (XB (Zq 2) (XB (Zq 3) (XB (Zq 4) Vn)))) (ZD [(ZX XM [(mV 0),(mV 1)] []),(YI (mkS "Index" Ym) [.pos 0] [(MR [(ZD [(mD (.str (lit "t"))),(mD (.str (lit "text")))])])] [] []),(YS Xu)]) [some (.fr (.ro (ns.map .int))),some (.fr (.int k)),x2,x3,x4,x5,x6,x7,x8] μ
   = .nx [some (.fr (.ro (ns.map .int))),some (.fr (.int k)),some (.fr (.obj μ.length)),some (.fr (.obj ix)),some (.fr (.obj M2.length)),x5,x6,x7,x8] M3:=by
  have es2:ZX XM [(mV 0),(mV 1)] [] [some (.fr (.ro (ns.map .int))),some (.fr (.int k)),x2,x3,x4,x5,x6,x7,x8] μ = .ok (.fr (.obj μ.length)) [some (.fr (.ro (ns.map .int))),some (.fr (.int k)),x2,x3,x4,x5,x6,x7,x8] M1:=by
   simp [es1,M1]
  simp [es2,e2,Xu,Vm,XB,Vn,M3,-Gb,-ID]
 let M4:Mem:=M3++[.lst []]
 let M5:Mem:=M4++[.dct [] []]
 let M6:Mem:=M5++[box M3.length M4.length 0]
 have l1:M1.length=μ.length+1:=by simp [M1]
 have l2:M1.length<=M2.length:=a2.len;have l3:M3.length=M2.length+1:=by simp [M3]
 have l4:M4.length=M2.length+2:=by simp [M4,l3]
 have l5:M5.length=M2.length+3:=by simp [M5,l4]
 have second:ZK 5 (YS (UA [(.s (lit "pieces"),(YS (ZQ []))),(.s (lit "live"),(YS Xu)),(.s (lit "many"),(mD (.int 0)))])) [some (.fr (.ro (ns.map .int))),some (.fr (.int k)),some (.fr (.obj μ.length)),some (.fr (.obj ix)),some (.fr (.obj M2.length)),x5,x6,x7,x8] M3
   = .nx [some (.fr (.ro (ns.map .int))),some (.fr (.int k)),some (.fr (.obj μ.length)),some (.fr (.obj ix)),some (.fr (.obj M2.length)),some (.fr (.obj M5.length)),x6,x7,x8] M6:=by
  have km:∀ x y:D,FL.mergeA [] [((.s (lit "pieces"):DK),x),(.s (lit "live"),y),(.s (lit "many"),.int 0)]=[((.s (lit "pieces"):DK),x),(.s (lit "live"),y),(.s (lit "many"),.int 0)]:=fun x y=>by rfl
  simp [UA,KN,km,Xu];simp only [M6,M5,M4,List.append_assoc];simp [box]
 have up:∀ {A B:Mem} {i:Nat} {o:Own},A[i]?=some o->(A++B)[i]?=some o:=fun h=>by rw [Vf (by rw [h]; rfl)]; exact h
 have hd1:M1[μ.length]?=some (.lst [.int a,.int (3 * k),.int g]):=by simp [M1]
 have hd2:M2[μ.length]?=some (.lst [.int a,.int (3 * k),.int g]):=a2.at_ _ _ hd1 (by simp);have hx3:M3[M2.length]?=some (.dct [] []):=by simp [M3]
 have hp4:M4[M3.length]?=some (.lst []):=by simp [M4]
 have hl5:M5[M4.length]?=some (.dct [] []):=by simp [M5]
 have hb6:M6[M5.length]?=some (box M3.length M4.length 0):=by simp [M6]
 have a36:Agr [] M2 M6:=by
  have:=((Agr.app (μ:=M2) (ν:=[.dct [] []])).trans (Agr.app (ν:=[Own.lst []]))).trans ((Agr.app (ν:=[Own.dct [] []])).trans (Agr.app (ν:=[box M3.length M4.length 0])));exact this
 let B:Bx:=⟨μ.length,M5.length,M3.length,M4.length,M2.length,[],[],0,[]⟩
 have h6:=h2.agr a36 (fun i hi=>by cases hi) (by simp);have w:W 0 ix ⟨Mp,[],[]⟩ (fun _=>0) B M6:={
  bo:={
   hb:=hb6
   hp:=up (up hp4)
   hl:=up hl5
   hx:=up (up (up hx3))
   hr:=fun s hs=>by cases hs
   hd:=⟨_,a36.at_ _ _ hd2 (by simp)⟩
   num:=fun s hs=>by cases hs
   lv:=fun s hs=>by cases hs
   nod:=List.nodup_nil
   nr:=by
    show [M3.length,μ.length].Nodup;simp; omega
   cl:=fun s hs=>by cases hs
   tv:=fun s hs=>by cases hs
   bl:=by show M5.length≠M4.length; omega
   xb:=by show M2.length≠M5.length; omega
   xl:=by show M2.length≠M4.length; omega
   n1:=Nat.le_refl _
   n2:=Nat.le_refl _
   n3:=Nat.le_refl _
   n4:=Nat.le_refl _
   n5:=Nat.le_refl _ }
  ix:=h6
  sc:=rfl
  es:=rfl
  ps:=rfl
  dt:=fun s hs=>by cases hs
  tx:=fun s hs=>by cases hs
  inj:=fun i j a1 a2=>by have:i<=0:=a2; omega
  elt:=fun i a1 a2=>by have:i<=0:=a2; omega }
 have tt6:QA tb q0 q1 M6:=OV (OV (OV tt a1) a2) a36;have src:Src M6 B.dr (10+4 * (0:Nat)):=⟨a,3 * k,g,a36.at_ _ _ hd2 (by simp),by omega,by omega,g0⟩;obtain ⟨δ',M7,e7,S',e',B',y7,y8,y6,rfl,w7,⟨b1,b2,b3⟩,tt7,sr7⟩:=D2 (g:=Zv (Zq 6) (SE tb)) (fun i δ μ' => ∃ S' e' B' y7 y8 y6,δ=lf B.dr ix B.x B.b (some (.fr (.ro (ns.map .int)))) (some (.fr (.int k))) y6 y7 y8/\W (2 * i) ix S' e' B' μ'/\(B'.dr=B.dr/\B'.b=B.b/\B'.x=B.x)/\QA tb q0 L36.q1 μ'/\Src μ' B.dr (10+4 * (i:Nat)))
  (ds:=Zj 0 16) (δ:=lf B.dr ix B.x B.b (some (.fr (.ro (ns.map .int)))) (some (.fr (.int k))) x6 x7 x8) (μ:=M6) ⟨_,_,B,x7,x8,x6,rfl,w,⟨rfl,rfl,rfl⟩,tt6,src⟩
  (fun i d δ μ' hd ⟨S',e',B',y7,y8,y6,e0,w',⟨b1,b2,b3⟩,tt',sr⟩=>by
   obtain ⟨rfl,hi⟩:=Oc hd;subst e0;obtain ⟨μ2,S2,e2,B2,z8,r1,w2,⟨c1,c2,c3⟩,tt2,sr2⟩:=Es w' (by omega) tt' (by rw [b1]; exact sr) (by omega) hi (x0:=some (.fr (.ro (ns.map .int)))) (x1:=some (.fr (.int k))) (x7:=y7) (x8:=y8);rw [b1,b2,b3] at r1;rw [b1] at sr2;refine ⟨_,μ2,?_,S2,e2,B2,none,z8,some (.fr (.int (i:Nat))),rfl,?_,⟨c1.trans b1,c2.trans b2,c3.trans b3⟩,tt2,?_⟩
   ·rw [U0]
    exact r1
   ·rw [show 2 * (i+1)=2 * i+2 by omega]; exact w2
   ·exact sr2.mono (by push_cast; omega))
 have xU:(Zj 0 16).length=16:=by rfl
 rw [xU] at w7 sr7;obtain ⟨M8,e8,w8,tt8,_⟩:=Kb w7 (by omega) tt7 (by rw [b1]; exact sr7) (by decide);rw [b1] at e8;refine ⟨_,M8,?_,⟨[some (.fr (.int k)),some (.fr (.obj B.dr)),some (.fr (.obj ix)),some (.fr (.obj B.x)),some (.fr (.obj B.b)),y6,y7,y8],rfl,rfl⟩,tt8⟩;rw [U0]
 show SA tb _ μ=_;unfold SA;simp only [List.set_cons_succ,List.set_cons_zero];rw [ZS e3,ZS second];have q3:WD (Xv (.e (mD (.int 16)))) (Zq 6) (SE tb) (lf B.dr ix B.x B.b (some (.fr (.ro (ns.map .int)))) (some (.fr (.int k))) x6 x7 x8) M6 = .nx (lf B.dr ix B.x B.b (some (.fr (.ro (ns.map .int)))) (some (.fr (.int k))) y6 y7 y8) M7:=by
  simp only [Tc,D4,TY,LP,IU,CF,Wu,LU,LW,IT,IP,IS];rw [MZ (by decide) (by decide),Qp];exact e7
 rw [ZS q3];simp [e8]
theorem tail_ok {x0 x1 x2 x3 x4 x5 x6 x7 x8:Option FL.Slot}:∃ μ2,(Z4 (ZK 3 (YI (mkS "Index" Ym) [.pos 0] [(MR [(ZD [(mD (.str (lit "t"))),(mD (.str (lit "text")))])])] [] []))
  (Z4 (W6 (Zk SO "put" (.v 3) [(mD (.str (lit "k"))),(Wb Xu)]))
  (Z4 (W6 (Zk V8 "flush" (.v 3) []))
  (Z4 (W6 (Zk W3 "delete" (.v 3) [(mD (.str (lit "k")))]))
  (ZF (X' (m2 (YC false) (.e (We Zn "segments" (.v 3))) (.e (ZD [(ZD [(mD (.int 0)),(mD (.int 1)),(mD (.bl false))])]))) (X' (m2 (WT false) (.e (Zk Y4 "merge" (.v 3) [(mD (.int 0)),(mD (.int 0))])) (.e (mD .non))) (m2 (YC false) (.e (We Zn "segments" (.v 3))) (.e (ZD []))))))))))
   [x0,x1,x2,x3,x4,x5,x6,x7,x8] μ = .rt (.fr (.bl true)) μ2:=by
 obtain ⟨ix,μ1,e1,h1,a1,_⟩:=DS (δ:=[x0,x1,x2,x3,x4,x5,x6,x7,x8]) (μ:=μ) A G' (zu (μ:=μ)) (by rfl);rw [← zC] at e1
 let δ1:FL.Loc:=[x0,x1,x2,some (.fr (.obj ix)),x4,x5,x6,x7,x8]
 have kk:Ky (lit "k"):=by decide
 have d0:DocOk Mp []:=⟨fun p hp=>(by cases hp),by simp,by simp⟩;obtain ⟨r1,mP⟩:=zB;obtain ⟨r2,mDd⟩:=zA;obtain ⟨n,μ2,e2,h2,a2⟩:=zP (δ:=δ1) (i:=3) (mk:=mD (.str (lit "k"))) (md:=Wb Xu) (d:=[]) A h1 h1 rfl mP (by
  rw [show Xb [] = .dcf [] [] from rfl];generalize lit "k" = K;simp [Xu]) kk d0 (by omega)
 obtain ⟨μ3,e3,h3,a3⟩:=ER (δ:=δ1) (i:=3) A h2 rfl Hb (by omega);have hs3:(St.put ⟨Mp,[],[]⟩ (lit "k") [] n).flush=⟨Mp,[⟨lit "k",n,[]⟩],[([(lit "k",n)],false)]⟩:=by rfl
 rw [hs3] at h3;have hh:(⟨Mp,[⟨lit "k",n,[]⟩],[([(lit "k",n)],false)]⟩:Ix.St).has (lit "k")=true:=by
  unfold St.has;simp
 obtain ⟨μ4,e4,h4,a4⟩:=zO (δ:=δ1) (i:=3) (mk:=mD (.str (lit "k"))) A h3 rfl mDd (by
  generalize lit "k" = K;simp) kk hh (by omega)
 have hs4:(⟨Mp,[⟨lit "k",n,[]⟩],[([(lit "k",n)],false)]⟩:Ix.St).drop (lit "k")=⟨Mp,[],[([(lit "k",n)],false)]⟩:=by
  unfold St.drop;simp
 rw [hs4] at h4;have s4:=Lp (i:=3) (δ:=δ1) h4 (by omega) rfl;have r4:([([(lit "k",n)],false)]:List Pc).map (Ix.VJ [])=[.tup [.int 0,.int 1,.bl false]]:=by
  simp [Ix.VJ,Ix.isLive]
 simp only [r4] at s4;obtain ⟨μ5,e5,h5,a5⟩:=Nt (a:=0) (b:=0) A h4 (by omega) (by simp [St.tot]) (by rfl);have hs5:(⟨Mp,[],[([(lit "k",n)],false)]⟩:Ix.St).merge 0 0=⟨Mp,[],[]⟩:=by rfl
 rw [hs5] at h5;have m5:=Ix.VI (δ:=δ1) (i:=3) (ms:=[mD (.int 0),mD (.int 0)]) (ds:=[.int 0,.int 0]) h4 rfl (by decide) OY (by rfl) e5;have s5:=Lp (i:=3) (δ:=δ1) h5 (by omega) rfl;simp only [List.map_nil] at s5;have g1:YC false (.tup [.tup [.int 0,.int 1,.bl false]]) (.tup [.tup [.int 0,.int 1,.bl false]])=some (FL.tb true):=Lay.same (d:=2) false (Lay.tup fun x hx=>by
  rw [List.mem_singleton.mp hx];refine Lay.tup (d:=0) fun y hy => ?_;simp only [List.mem_cons,List.not_mem_nil,or_false] at hy;rcases hy with rfl | rfl | rfl
  ·exact Lay.int
  ·exact Lay.int
  ·exact Lay.bl) (by decide) (by rfl)
 have g2:YC false (.tup []) (.tup [])=some (FL.tb true):=Lay.same (d:=1) false (Lay.tup fun x hx=>by cases hx) (by decide) (by rfl);refine ⟨μ5,?_⟩;rw [ZS (δ1:=δ1) (μ1:=μ1) (by rw [Rv,e1]; rfl),ZS e2,ZS e3,ZS e4];simp only [δ1] at s4 m5 s5 ⊢;simp [s4,m5,s5,g1,g2,-RL,-RJ]
theorem BJ (tb:Nat->Addr) (ns:List Int) (hl:ns.length<=63):∃ μ',NP tb [.ro (ns.map .int)] [.tab (tb 0) q0,.tab (tb 1) q1] = .ok (.fr (.bl true)) μ':=by
 have lp:Nx (WD (Xv (.e (mC So [(.e (mD (.int 1))),(.e (mC T_ [(.e (mD (.int 3))),(.e (mC Zt [(.v 0)]))]))]))) (Zq 1) (SA tb) (some (.fr (.ro (ns.map .int))) :: List.replicate 8 none) [.tab (tb 0) q0,.tab (tb 1) q1]) fun δ' μ' => ∃ r',r'.length=8/\δ'=some (.fr (.ro (ns.map .int))) :: r':=by
  refine Pp (N:=3) (by decide) (by decide) rfl fun K k1 k3 => ?_;have:=D2 (g:=Zv (Zq 1) (SA tb)) (fun i δ' μ' => (∃ r',r'.length=8/\δ'=some (.fr (.ro (ns.map .int))) :: r')/\QA tb q0 q1 μ') (ds:=Zj 0 K.toNat) (δ:=some (.fr (.ro (ns.map .int))) :: List.replicate 8 none) (μ:=[.tab (tb 0) q0,.tab (tb 1) q1]) ⟨⟨_,by simp,rfl⟩,rfl,rfl⟩
   (fun i d δ μ' hd ⟨⟨r',hr',e0⟩,tt⟩=>by
    obtain ⟨rfl,hi⟩:=Oc hd;subst e0;exact Er hl tt (by omega) (by omega) hr')
  exact this.imp fun δ μ h=>h.1
 obtain ⟨δ1,μ0,e1,r',hr',rfl⟩:=lp;obtain ⟨x1,x2,x3,x4,x5,x6,x7,x8,rfl⟩:=zv hr';obtain ⟨μ2,e2⟩:=tail_ok (μ:=μ0) (x0:=some (.fr (.ro (ns.map .int)))) (x1:=x1) (x2:=x2) (x3:=x3) (x4:=x4) (x5:=x5) (x6:=x6) (x7:=x7) (x8:=x8);refine ⟨μ2,?_⟩;rw [show NP tb=Zu 9 (LD tb) from rfl,X_];unfold LD;rw [show ZZ 9 [D.ro (ns.map .int)]=some (.fr (.ro (ns.map .int))) :: List.replicate 8 none from rfl,ZS e1,e2];rfl
end
end L36
namespace L36
open PySem PySem.Spec PyProof.Rows L2 FL LamX
theorem txt {w:World} {mg:Str->Option Value} {h base:Heap} {K:PySem.W.Frag} (X:K.In h) (G:h.Ns mainGlobals mg) (c:HkSays fs ds ts K) (_:K.In base) (_:base.Ns mainGlobals mg) (TB:∀ p∈Ou K ts,TabB base mg p.1 p.2.1):Txt (K3 K ts) PySem.Challenge.pw_findlang_k36_merges w K mg base where
 n_all:=He.free_ok X G (c.fact 0 rfl)
 n_bool:=He.free_ok X G (c.fact 1 rfl)
 n_dict:=He.free_ok X G (c.fact 2 rfl)
 n_int:=He.free_ok X G (c.fact 3 rfl)
 n_isinstance:=He.free_ok X G (c.fact 4 rfl)
 n_len:=He.free_ok X G (c.fact 5 rfl)
 n_max:=He.free_ok X G (c.fact 6 rfl)
 n_min:=He.free_ok X G (c.fact 7 rfl)
 n_range:=He.free_ok X G (c.fact 8 rfl)
 n_set:=He.free_ok X G (c.fact 9 rfl)
 n_str:=He.free_ok X G (c.fact 10 rfl)
 n_super:=He.free_ok X G (c.fact 11 rfl)
 n_tuple:=He.free_ok X G (c.fact 12 rfl)
 c_GREATEST:=He.int_ok X G (c.fact 13 rfl)
 c_LETTERS:=He.str_ok X G (c.fact 14 rfl)
 c_MAX_DOCUMENTS:=He.int_ok X G (c.fact 15 rfl)
 c_MAX_FIELDS:=He.int_ok X G (c.fact 16 rfl)
 c_MAX_NAME:=He.int_ok X G (c.fact 17 rfl)
 c_MAX_TEXT:=He.int_ok X G (c.fact 18 rfl)
 c_MAX_WORD:=He.int_ok X G (c.fact 19 rfl)
 c_WORD_SIGNS:=He.str_ok X G (c.fact 20 rfl)
 t_FIELD_KINDS:=FW X G (c.fact 21 rfl)
 x_BadDocument:=(let ⟨_,Fx⟩:=c.fk 0 rfl rfl; yt (h:=h) RZ (He.glo_ok X G (c.fact 22 rfl)) (He.free_ok X G (c.fact 11 rfl)) (c.fact 23 rfl) Fx (Xp (c.fact 24 rfl)) (fun _ _ _ _ _ _ _ us hl=>match us,hl with | [_,_],_=>by kernel_rfl))
 x_BadKey:=(let ⟨_,Fx⟩:=c.fk 1 rfl rfl; yt (h:=h) MB (He.glo_ok X G (c.fact 25 rfl)) (He.free_ok X G (c.fact 11 rfl)) (c.fact 26 rfl) Fx (Xp (c.fact 27 rfl)) (fun _ _ _ _ _ _ _ us hl=>match us,hl with | [_,_],_=>by kernel_rfl))
 x_BadNumber:=(let ⟨_,Fx⟩:=c.fk 2 rfl rfl; yt (h:=h) QF (He.glo_ok X G (c.fact 28 rfl)) (He.free_ok X G (c.fact 11 rfl)) (c.fact 29 rfl) Fx (Xp (c.fact 30 rfl)) (fun _ _ _ _ _ _ _ us hl=>match us,hl with | [_,_],_=>by kernel_rfl))
 x_BadSchema:=(let ⟨_,Fx⟩:=c.fk 3 rfl rfl; yt (h:=h) QE (He.glo_ok X G (c.fact 31 rfl)) (He.free_ok X G (c.fact 11 rfl)) (c.fact 32 rfl) Fx (Xp (c.fact 33 rfl)) (fun _ _ _ _ _ _ _ us hl=>match us,hl with | [_,_],_=>by kernel_rfl))
 x_NoDocument:=(let ⟨_,Fx⟩:=c.fk 4 rfl rfl; B9 (h:=h) Q6 (He.glo_ok X G (c.fact 34 rfl)) (He.free_ok X G (c.fact 11 rfl)) (c.fact 35 rfl) Fx (Xp (c.fact 36 rfl)) (fun _ _ _ _ _ _ _ us hl=>match us,hl with | [_,_],_=>by kernel_rfl))
 x_NoSegment:=(let ⟨_,Fx⟩:=c.fk 5 rfl rfl; B9 (h:=h) QB (He.glo_ok X G (c.fact 37 rfl)) (He.free_ok X G (c.fact 11 rfl)) (c.fact 38 rfl) Fx (Xp (c.fact 39 rfl)) (fun _ _ _ _ _ _ _ us hl=>match us,hl with | [_,_],_=>by kernel_rfl))
 x_TooMany:=(let ⟨_,Fx⟩:=c.fk 6 rfl rfl; B9 (h:=h) NO (He.glo_ok X G (c.fact 40 rfl)) (He.free_ok X G (c.fact 11 rfl)) (c.fact 41 rfl) Fx (Xp (c.fact 42 rfl)) (fun _ _ _ _ _ _ _ us hl=>match us,hl with | [_,_],_=>by kernel_rfl))
 s__law_error_of:=⟨_,_,_,He.glo_ok X G (c.fact 43 rfl),He.glo_ok X G (c.fact 44 rfl),He.glo_ok X G (c.fact 45 rfl),HQ X G XG (c.fact 46 rfl)⟩
 c_BadChange:=He.glo_ok X G (c.fact 47 rfl)
 c_BadDocument:=He.glo_ok X G (c.fact 22 rfl)
 c_BadField:=He.glo_ok X G (c.fact 48 rfl)
 c_BadKey:=He.glo_ok X G (c.fact 25 rfl)
 c_BadNumber:=He.glo_ok X G (c.fact 28 rfl)
 c_BadQuery:=He.glo_ok X G (c.fact 49 rfl)
 c_BadSchema:=He.glo_ok X G (c.fact 31 rfl)
 c_Entry:=He.glo_ok X G (c.fact 50 rfl)
 c_Index:=He.glo_ok X G (c.fact 51 rfl)
 c_NoDocument:=He.glo_ok X G (c.fact 34 rfl)
 c_NoField:=He.glo_ok X G (c.fact 52 rfl)
 c_NoSegment:=He.glo_ok X G (c.fact 37 rfl)
 c_Segment:=He.glo_ok X G (c.fact 53 rfl)
 c_TooMany:=He.glo_ok X G (c.fact 40 rfl)
 c_WrongKind:=He.glo_ok X G (c.fact 54 rfl)
 atts:=KS X G DH (c.fact 55 rfl)
 prp:=FG X G GZ (c.fact 56 rfl)
 k_BadChange:=⟨_,He.glo_ok X G (c.fact 47 rfl)⟩
 k_BadDocument:=⟨_,He.glo_ok X G (c.fact 22 rfl)⟩
 k_BadField:=⟨_,He.glo_ok X G (c.fact 48 rfl)⟩
 k_BadKey:=⟨_,He.glo_ok X G (c.fact 25 rfl)⟩
 k_BadNumber:=⟨_,He.glo_ok X G (c.fact 28 rfl)⟩
 k_BadQuery:=⟨_,He.glo_ok X G (c.fact 49 rfl)⟩
 k_BadSchema:=⟨_,He.glo_ok X G (c.fact 31 rfl)⟩
 k_NoDocument:=⟨_,He.glo_ok X G (c.fact 34 rfl)⟩
 k_NoField:=⟨_,He.glo_ok X G (c.fact 52 rfl)⟩
 k_NoSegment:=⟨_,He.glo_ok X G (c.fact 37 rfl)⟩
 k_TooMany:=⟨_,He.glo_ok X G (c.fact 40 rfl)⟩
 k_WrongKind:=⟨_,He.glo_ok X G (c.fact 54 rfl)⟩
 i_isa:=E8 X G GX (c.fact 57 rfl)
 i_all:=E7 X G GX (c.fact 57 rfl)
 mk_Index:=(by have e:ZM K (pM "Index" "__init__")=_:=Ru (c.fact 58 rfl); rw [e]; exact He.mkr_ok (c.fact 59 rfl))
 mk_Segment:=(by have e:ZM K (pM "Segment" "__init__")=_:=Ru (c.fact 60 rfl); rw [e]; exact He.mkr_ok (c.fact 61 rfl))
 mk_Entry:=(by have e:ZM K (pM "Entry" "__init__")=_:=Ru (c.fact 62 rfl); rw [e]; exact He.mkr_ok (c.fact 63 rfl))
 f_iView:=c.fd 7 rfl rfl
 f_iIndex:=c.fk 8 rfl rfl
 ce_iIndex:=(Xp (c.fact 64 rfl))
 s_iIndex:=(let ⟨_,Fx⟩:=c.fk 8 rfl rfl; FH (sc:=UU) Fx (Xp (c.fact 64 rfl)) (He.free_ok X G (c.fact 11 rfl)) (by kernel_rfl) ⟨_,rfl,rfl⟩ (by kernel_rfl) (by decide +kernel) (by decide +kernel) (by decide +kernel) rfl)
 f_iSegment:=c.fd 9 rfl rfl
 f_sr_flush:=c.fd 10 rfl rfl
 f_sr_delete:=c.fd 11 rfl rfl
 f_iEntry:=c.fd 12 rfl rfl
 f_sr_put:=c.fd 13 rfl rfl
 f_sr_merge:=c.fd 14 rfl rfl
 f_Index_segments:=c.fd 15 rfl rfl
 f_sr_document:=c.fd 16 rfl rfl
 sb_Index:=FF (He.glo_ok X G (c.fact 51 rfl)) (c.fact 65 rfl)
 d__law_drawer:=(let ⟨_,Fx⟩:=c.fd 17 rfl rfl; ⟨_,_,Fx,(ZU X G (c.fact 66 rfl)).1,(ZU X G (c.fact 66 rfl)).2⟩)
 d_is_made_of:=(let ⟨_,Fx⟩:=c.fd 18 rfl rfl; ⟨_,_,Fx,(ZU X G (c.fact 67 rfl)).1,(ZU X G (c.fact 67 rfl)).2⟩)
 d_is_field_name:=(let ⟨_,Fx⟩:=c.fd 19 rfl rfl; ⟨_,_,Fx,(ZU X G (c.fact 68 rfl)).1,(ZU X G (c.fact 68 rfl)).2⟩)
 d_is_field_row:=(let ⟨_,Fx⟩:=c.fd 20 rfl rfl; ⟨_,_,Fx,(ZU X G (c.fact 69 rfl)).1,(ZU X G (c.fact 69 rfl)).2⟩)
 d_need_schema:=(let ⟨_,Fx⟩:=c.fd 21 rfl rfl; ⟨_,_,Fx,(ZU X G (c.fact 70 rfl)).1,(ZU X G (c.fact 70 rfl)).2⟩)
 d__law_drawn:=(let ⟨_,Fx⟩:=c.fd 22 rfl rfl; ⟨_,_,Fx,(ZU X G (c.fact 71 rfl)).1,(ZU X G (c.fact 71 rfl)).2⟩)
 d__law_drawn_of:=(let ⟨_,Fx⟩:=c.fd 23 rfl rfl; ⟨_,_,Fx,(ZU X G (c.fact 72 rfl)).1,(ZU X G (c.fact 72 rfl)).2⟩)
 d__law_segment_flush:=(let ⟨_,Fx⟩:=c.fd 24 rfl rfl; ⟨_,_,Fx,(ZU X G (c.fact 73 rfl)).1,(ZU X G (c.fact 73 rfl)).2⟩)
 d_is_key:=(let ⟨_,Fx⟩:=c.fd 25 rfl rfl; ⟨_,_,Fx,(ZU X G (c.fact 74 rfl)).1,(ZU X G (c.fact 74 rfl)).2⟩)
 d_need_key:=(let ⟨_,Fx⟩:=c.fd 26 rfl rfl; ⟨_,_,Fx,(ZU X G (c.fact 75 rfl)).1,(ZU X G (c.fact 75 rfl)).2⟩)
 d_is_text:=(let ⟨_,Fx⟩:=c.fd 27 rfl rfl; ⟨_,_,Fx,(ZU X G (c.fact 76 rfl)).1,(ZU X G (c.fact 76 rfl)).2⟩)
 d_is_integer:=(let ⟨_,Fx⟩:=c.fd 28 rfl rfl; ⟨_,_,Fx,(ZU X G (c.fact 77 rfl)).1,(ZU X G (c.fact 77 rfl)).2⟩)
 d_is_value_for:=(let ⟨_,Fx⟩:=c.fd 29 rfl rfl; ⟨_,_,Fx,(ZU X G (c.fact 78 rfl)).1,(ZU X G (c.fact 78 rfl)).2⟩)
 d_kind_of_field:=(let ⟨_,Fx⟩:=c.fd 30 rfl rfl; ⟨_,_,Fx,(ZU X G (c.fact 79 rfl)).1,(ZU X G (c.fact 79 rfl)).2⟩)
 d_need_document:=(let ⟨_,Fx⟩:=c.fd 31 rfl rfl; ⟨_,_,Fx,(ZU X G (c.fact 80 rfl)).1,(ZU X G (c.fact 80 rfl)).2⟩)
 d_split_words:=(let ⟨_,Fx⟩:=c.fd 32 rfl rfl; ⟨_,_,Fx,(ZU X G (c.fact 81 rfl)).1,(ZU X G (c.fact 81 rfl)).2⟩)
 d__law_segment_put:=(let ⟨_,Fx⟩:=c.fd 33 rfl rfl; ⟨_,_,Fx,(ZU X G (c.fact 82 rfl)).1,(ZU X G (c.fact 82 rfl)).2⟩)
 d__law_error_of:=(let ⟨_,Fx⟩:=c.fd 34 rfl rfl; ⟨_,_,Fx,(ZU X G (c.fact 83 rfl)).1,(ZU X G (c.fact 83 rfl)).2⟩)
 d_live_entries:=(let ⟨_,Fx⟩:=c.fd 35 rfl rfl; ⟨_,_,Fx,(ZU X G (c.fact 84 rfl)).1,(ZU X G (c.fact 84 rfl)).2⟩)
 d__law_segment_merge:=(let ⟨_,Fx⟩:=c.fd 36 rfl rfl; ⟨_,_,Fx,(ZU X G (c.fact 85 rfl)).1,(ZU X G (c.fact 85 rfl)).2⟩)
 d_segment_row:=(let ⟨_,Fx⟩:=c.fd 37 rfl rfl; ⟨_,_,Fx,(ZU X G (c.fact 86 rfl)).1,(ZU X G (c.fact 86 rfl)).2⟩)
 d__law_segmented:=(let ⟨_,Fx⟩:=c.fd 38 rfl rfl; ⟨_,_,Fx,(ZU X G (c.fact 87 rfl)).1,(ZU X G (c.fact 87 rfl)).2⟩)
 d__law_merged_right:=(let ⟨_,Fx⟩:=c.fl 39 rfl rfl; ⟨_,_,_,Fx,TB _ (List.mem_of_getElem? (i:=0) rfl),(ZU X G (c.fact 88 rfl)).1,(ZU X G (c.fact 88 rfl)).2⟩)
 d__law_odd_right:=(let ⟨_,Fx⟩:=c.fl 40 rfl rfl; ⟨_,_,_,Fx,TB _ (List.mem_of_getElem? (i:=1) rfl),(ZU X G (c.fact 89 rfl)).1,(ZU X G (c.fact 89 rfl)).2⟩)
 mth_flush:=TV X G (c.fact 90 rfl)
 mth_delete:=TV X G (c.fact 91 rfl)
 mth_put:=TV X G (c.fact 92 rfl)
 mth_merge:=TV X G (c.fact 93 rfl)
 mth_document:=TV X G (c.fact 94 rfl)
 idc:=Cb X G (c.fact 95 rfl)
 xf_absent:=Pl X G (c.fact 96 rfl)
 xf_most:=Pl X G (c.fact 97 rfl)
 xf_missing:=Pl X G (c.fact 98 rfl)
 xf_mistaken:=Pl X G (c.fact 99 rfl)
theorem uI (w:World) (mg:Str->Option Value) (fa:Addr) (h:Heap) (K:PySem.W.Frag) (X:K.In h) (c:HkSays fs ds ts K) (G:h.Ns mainGlobals mg) (hfa:mg "law" = some (.ref fa)) :
  ∃ fd:FuncData,(∀ (s:Shared) (u:Value),BindsTo s fd ⟨[u],[]⟩ [("_law_script",u)]) /\
   ∀ base:Heap,K.In base->base.Ns mainGlobals mg->(∀ p∈Ou K ts,TabB base mg p.1 p.2.1)->FnG PySem.Challenge.pw_findlang_k36_merges w K mg base (L2.CX PySem.Challenge.pw_findlang_k36_merges w) 200 fa fd ["_law_script"] (spM K mg (NP (K3 K ts)) 1):=by
 have e:=hfa.symm.trans (ZU X G (c.fact 100 rfl)).1;cases e;obtain ⟨fd,Fx⟩:=c.fd 41 rfl rfl;refine ⟨fd,fun s u => ?_,fun base hb hg TB=>(z0 Fx (txt X G c hb hg TB)).mono (by decide)⟩;obtain ⟨_,_,_,_,_,_,_,_,_,rfl,_,_⟩:=Fx.ex;exact .of_eq (by kernel_rfl)
theorem uH (K:PySem.W.Frag) (ns:List Int) (hl:ns.length<=63):∃ μ',NP (K3 K ts) [.ro (ns.map .int)] (Ov (Ou K ts)) = .ok (.fr (.bl true)) μ':=BJ (K3 K ts) ns hl
end L36
open PySem PySem.Spec PySem.W PySem.Calls PyProof.Rows in
set_option maxRecDepth 100000 in
set_option maxHeartbeats 0 in
theorem PySem.Challenge.cw_findlang_k36_merges_holds : PySem.Challenge.rw_findlang_k36_merges.Holds := by
  w_on; refine lawAt fun said => ?_
  refine HandSHeadRun.head_any (r := OpenLaw.row PySem.Challenge.rw_findlang_k36_merges) (q := view (OpenLaw.row PySem.Challenge.rw_findlang_k36_merges).prog [64]) (H := L36.hk) (ob := L36.ob) (M := L36.Md.n1 + 40000) (loose := L36.names) (d := HandSHeadRun.topDef (OpenLaw.row PySem.Challenge.rw_findlang_k36_merges).prog 64) (kwd := []) L36.AA
    (by kernel_rfl) (fun s => by kernel_rfl) L36.run (by kernel_rfl) (by kernel_rfl) (by kernel_rfl) (by rfl) (by first | assumption | decide +kernel) (by decide +kernel) L36.bare_ok ?hw ?hc
  case hw => w_witness2
  case hc => exact FL.AD (l := PySem.Challenge.rw_findlang_k36_merges) (k := 200) (n := 5) (m := L36.NP) rfl (by kernel_rfl) FL.Ow L36.uI L36.uH
end
