import PyProof.Rows.All
import Wide.All
import OpenK.AllK
import Wide.FinOn
import HandS.Lambda
import HandS.HeadHook4
import HandS.Words
import KE.KStateDown
import HandS.Head0
import HandS.Head1
import HandS.Head2
import HandS.HeadEnd
import HandS.HeadWalk
import HandS.ForMost
import HandS.ForExc
import HandS.TupAny
import HandS.Flow
import HandS.Deep
import HandS.Zip
import KE.GoesEnum
import HandS.ExcCtx
import HandS.ExcInit
import HandS.CallSlots
import HandS.IsInst
import KE.SortData
import HandS.Small
import HandS.Style
import HandS.DictComp
import KE.KDictPairs
import HandS.SortInts
import HandS.ExcOwn
import HandS.ExcIs
import HandS.ExcField
import OpenK.KDescr
import HandS.Defaults
import KE.SortKeyHeap
import HandS.SortKw
import HandS.Iter
import HandS.Comp
import HandS.RaiseMore
import HandS.SetKeys
import HandS.MakeKwOnly
import KE.DataMinMax
import KE.KLam
import HandS.Exc
import HandS.ClsMeth
import PyProof.MaxThree
import HandS.Flt
import HandS.ListItems
import HandS.DictTup
import HandS.Strs
import HandS.TryOnly
import HandS.More
import PyProof.Rows.StrMeet
import HandS.Finally
import HandS.SuiteRaise
import HandS.HotCalls
import HandS.Hot
import PyProof.CollectIter
import HandS.HeadHook3
import KE.KDictCopyH
import PyProof.NeKinds
import HandS.NoneIn
import HandS.ListEq
import HandS.DeepEq
import KE.GoesZip
import KE.GoesMore
import KE.KDictZip
import HandS.ExcValue
import HandS.FStr
import HandS.Text
import KE.IntTextLaws
import PyProof.Rows.StrSplitAre
import PyProof.Rows.StrSplitJoin
import KE.KIntText
import KE.KxText
import PyProof.FitsReplace
import PyProof.StrLaws
import PyProof.StrLawsJoin
import PySem.Challenge.RW_airhouse_k20_texts_refused
set_option Elab.async false
set_option linter.all false
namespace DL
open PySem PySem.Spec PyProof.Rows L2
def lamDefs:List ((Str × Option Str) × Str):=[(("law",none),"law.<locals>.<lambda>")]
/-- their tables of code objects -/
def tbs (K:PySem.W.Frag):List (Addr × Str):=lamDefs.map fun p=>(He.tabOf K (He.codeOf K p.1),p.2)
end DL
set_option maxRecDepth 100000
namespace DL
open PySem PySem.Spec PyProof.Rows L2 LamX
def kinds:List Str:=["BadNet","BadFleet","BadClasses","BadDay","BadPlace","BadTime","BadCount","BadChain","NoDuty","NoLeg","NoPlane","NoKind","Taken","CannotFly","NoWay","NoSeat","NoClass","BadName","NoBooking","Left","Unmended","BadDeed","BadText"]
/-- the fields of the errors that have some,the last one first -/
def cw (C:Str):List Str:=
  if C="BadNet"∨C="BadFleet" then ["number","part"] else if C="BadClasses"∨C="BadDeed" then ["number"] else if C="BadText" then ["row"] else []
/-- the classes' facts,looked at -/
def excB (K:PySem.W.Frag) (D:Addr):Bool:=He.eqO (PySem.W.findIn K (.ref D) "__getattribute__") (some (some (.builtin "BaseException.__getattribute__")))&&He.eqO (PySem.W.findIn K (.ref D) "__getattr__") (some none) &&
  decide (PySem.W.subIn K (.ref D) (.type "BaseException")=some true)&&PySem.W.hasDictIn K D&&He.eqO (PySem.W.findIn K (.ref D) "__class__") (some (some (.builtin "object.__class__"))) &&
  He.eqO (PySem.W.specialIn K (.builtin "object.__class__") "__get__") (some (some (.builtin "getset_descriptor.__get__")))&&decide (PySem.W.takesIn K (.builtin "object.__class__")=some true)&&decide (PySem.W.mroIn K D (.type "object")=some true)
def kI (K:PySem.W.Frag) (cs:List Str):Bool:=(cs.all fun C=>kinds.contains C&&(kinds.all fun y=>decide (PySem.W.kitOne K (.ref (He.ga K C)) (.ref (He.ga K y))=some (decide (y=C))))&&decide (PySem.W.kitOne K (.ref (He.ga K C)) (.type "ValueError")=some true)&&excB K (He.ga K C)&&(cw C).all fun n=>He.eqO (PySem.W.findIn K (.ref (He.ga K C)) n) (some none))
def mI (K:PySem.W.Frag):Bool:=lamDefs.all fun p=>(tbs K).all fun r=>!(decide (r.1=(He.cT K p.1).2))||decide (r.2=p.2)
def clVB (K:PySem.W.Frag) (A:Addr) (m:Str) (v:Value):Bool:=PySem.W.readsIn K A (.type "type")&&He.eqO (PySem.W.specialIn K (.ref A) "__getattribute__") (some (some (.builtin "type.__getattribute__"))) &&
  (match PySem.W.findCls K (.ref A) (.type "type") m with
  | some (.val u)=>decide (u=v)
  | _=>false)
def oexB (K:PySem.W.Frag) (C:Addr):Bool:=(match K.lookup C with
  | some ⟨.type "type",_,.cls cd,sl⟩=>(match cd.mro,sl.toList with
    | .ref C'::bm,[_,_,_,_,some (.builtin n),_]=>C' == C&&n == "ValueError.__new__"&&!cd.hasDel&&cd.hasDict&&PySem.HandSPX.refsVE bm
    | _,_=>false)
  | _=>false)&&He.eqO (PySem.W.findIn K (.ref C) "__setattr__") (some (some (.builtin "object.__setattr__")))&&decide (PySem.W.subIn K (.ref C) (.type "BaseException")=some true)&&decide (PySem.W.typeIn K (.ref C)=some (.type "type"))&&PySem.W.keepIn K (.ref C)
def nR (K:PySem.W.Frag) (C fI A:Addr) (ns:List Str):Bool:=oexB K C&&He.eqO (PySem.W.findIn K (.ref C) "__init__") (some (some (.ref fI)))&&decide (PySem.W.typeIn K (.ref fI)=some (.type "function")) &&
  (ns.all fun n=>He.eqO (PySem.W.findIn K (.ref C) n) (some none))&&clVB K A "__init__" (.builtin "ValueError.__init__")
def kvOf (e:DictEntry):Option (Str × Int):=match e.key,e.val with
  | .str x _,.int i _=>some (x,i)
  | _,_=>none
def kdVB (K:PySem.W.Frag) (a:Addr) (tbl:List (Str × Int)):Bool:=match K.lookup a with
  | some ⟨_,_,.dict es _,_⟩=>decide (es.toList.map kvOf=tbl.map some)
  | _=>false
end DL
namespace DL
open PySem
def kvS (e:DictEntry):Option (Str × Str):=match e.key,e.val with
  | .str x _,.str y _=>some (x,y)
  | _,_=>none
def kdSB (K:PySem.W.Frag) (a:Addr) (tbl:List (Str × Str)):Bool:=match K.lookup a with
  | some ⟨_,_,.dict es _,_⟩=>decide (es.toList.map kvS=tbl.map some)
  | _=>false
end DL
namespace DL
open PySem PySem.Spec PyProof.Rows L2 He
def valsF (g:Addr→Option Obj) (n:Addr):List Addr:=match g n with
  | some ⟨_,_,.dict es _,_⟩=>es.toList.flatMap fun e=>refV e.val
  | _=>[]
def nsF (g:Addr→Option Obj) (a:Addr):List Addr:=match g a with
  | some ⟨_,_,.cls cd,_⟩=>[cd.ns]
  | _=>[]
def cdF (g:Addr→Option Obj) (a:Addr):List Addr:=match g a with
  | some ⟨_,_,.func fd,_⟩=>refV fd.code++(refV fd.kwdefaults++refV fd.defaults)
  | _=>[]
def asF (g:Addr→Option Obj):List Addr:=
  (fun gl=>(fun ns=>(fun ms=>mainGlobals::cStatics::(gl++(ns++(ms++(gl++ms).flatMap (cdF g))))) (ns.flatMap (valsF g))) (gl.flatMap (nsF g))) (valsF g mainGlobals)
def obsF (fa:List Fa) (fn:List DefD) (ts:List Tab) (tf:List Defn) (ex:PySem.W.Frag→Bool) (g:Addr→Option Obj):AlX:=(fun K=>(obsT fa fn ts K,ex K&&tabsB g tf K)) (frT g (asF g))
theorem pJ {fa:List Fa} {fn:List DefD} {ts:List Tab} {tf:List Defn} {ex:PySem.W.Frag→Bool} {w:World} {h:Heap} (e:obsF fa fn ts tf ex h.get?=valX fn ts w):SaysX fa fn ts tf ex w h (frT h.get? (asF h.get?)):=by
  have e1:obsT fa fn ts (frT h.get? (asF h.get?))=valT fn ts w:=congrArg (fun z:AlX=>z.1) e
  have e2:(ex (frT h.get? (asF h.get?))&&tabsB h.get? tf (frT h.get? (asF h.get?)))=true:=congrArg (fun z:AlX=>z.2) e
  obtain ⟨h1,h2⟩:=ba e2
  have key:∀p∈tf,PySem.W.codeHdIn (frT h.get? (asF h.get?)) (cT (frT h.get? (asF h.get?)) p).1 (cT (frT h.get? (asF h.get?)) p).2=true∧∃o,h.get? (cT (frT h.get? (asF h.get?)) p).2=some o∧emptyTab o=true:=fun p hp=>by
    obtain ⟨h3,h4⟩:=ba (List.all_eq_true.mp h2 p hp)
    refine ⟨h3,?_⟩
    cases q:h.get? (cT (frT h.get? (asF h.get?)) p).2 with
    | none=>
      rw[q] at h4
      cases h4
    | some o=>
      rw[q] at h4
      exact ⟨o,rfl,h4⟩
  exact ⟨e1,h1,fun p hp=>(key p hp).1,fun p hp=>by
    obtain ⟨_,o,q,z⟩:=key p hp
    exact frT_none q z,fun p hp=>by
    obtain ⟨_,o,q,z⟩:=key p hp
    rw[q,emptyTab_eq z]⟩
def hookF (fa:List Fa) (fn:List DefD) (ts:List Tab) (tf:List Defn) (ex:PySem.W.Frag→Bool):PySem.W.Hook where
  α:=AlX
  obs:=fun s=>obsF fa fn ts tf ex s.heap.get?
  val:=fun w=>valX fn ts w
  says:=fun w h=>∃K:PySem.W.Frag,K.In h∧SaysX fa fn ts tf ex w h K
  of:=fun _ _ e=>⟨_,frT_in,pJ e⟩
  keeps:=fun _ _ _ ⟨K,hK,c⟩ k=>⟨K,PySem.W.Frag.In.keeps hK k,⟨c.t,c.more,c.hd,c.out,fun p hp=>k _ _ (c.empty p hp)⟩⟩
theorem rJ {fa:List Fa} {fn:List DefD} {ts:List Tab} {tf:List Defn} {ex:PySem.W.Frag→Bool} {g:Addr→Option Obj} {s:Shared} (h:∀a,g a=s.heap.get? a):obsF fa fn ts tf ex g=(hookF fa fn ts tf ex).obs s:=by
  have e:g=s.heap.get?:=funext h
  rw[e]<;>rfl
end DL
namespace DL
open PySem PySem.Spec PyProof.Rows L2 LamX
abbrev top (i:Nat):Stmt:=PySem.Challenge.pw_airhouse_k20_texts_refused.main.body.getD i (.Pass ⟨0,0,0,0⟩)
/-- the errors that are raised -/
def kindsHere:List Str:=["BadText","BadDeed"]
end DL
set_option maxHeartbeats 0
namespace DL
open PySem PySem.Spec PyProof.Rows L2 LamX
def df:He.DefD:=⟨("BadText",some "__init__"),"__init__","BadText.__init__",defArgs (inClass (top 24) 0),defBody (inClass (top 24) 0),defScope (inClass (top 24) 0),[],[]⟩
def d_shape_of:He.DefD:=⟨("shape_of",none),"shape_of","shape_of",defArgs (top 38),defBody (top 38),defScope (top 38),[],[]⟩
def d_is_number:He.DefD:=⟨("is_number",none),"is_number","is_number",defArgs (top 29),defBody (top 29),defScope (top 29),[],[]⟩
def d_is_ride:He.DefD:=⟨("is_ride",none),"is_ride","is_ride",defArgs (top 39),defBody (top 39),defScope (top 39),[],[]⟩
def d_is_part:He.DefD:=⟨("is_part",none),"is_part","is_part",defArgs (top 40),defBody (top 40),defScope (top 40),[],[]⟩
def d_number_of:He.DefD:=⟨("number_of",none),"number_of","number_of",defArgs (top 43),defBody (top 43),defScope (top 43),[],[]⟩
def d_part_of:He.DefD:=⟨("part_of",none),"part_of","part_of",defArgs (top 44),defBody (top 44),defScope (top 44),[],[]⟩
def d_deed_of:He.DefD:=⟨("deed_of",none),"deed_of","deed_of",defArgs (top 45),defBody (top 45),defScope (top 45),[],[]⟩
def d_read:He.DefD:=⟨("read",none),"read","read",defArgs (top 46),defBody (top 46),defScope (top 46),[],[]⟩
def fw:He.DefD:=⟨("_law_number",none),"_law_number","_law_number",defArgs (top 53),defBody (top 53),defScope (top 53),[],[]⟩
def iX:He.DefD:=⟨("_law_ride",none),"_law_ride","_law_ride",defArgs (top 54),defBody (top 54),defScope (top 54),[],[]⟩
def iY:He.DefD:=⟨("_law_part",none),"_law_part","_law_part",defArgs (top 55),defBody (top 55),defScope (top 55),[],[]⟩
def jb:He.DefD:=⟨("_law_due",none),"_law_due","_law_due",defArgs (top 56),defBody (top 56),defScope (top 56),[],[]⟩
def iZ:He.DefD:=⟨("_law_kind",none),"_law_kind","_law_kind",defArgs (top 51),defBody (top 51),defScope (top 51),[],[]⟩
def ic:He.DefD:=⟨("_law_same",none),"_law_same","_law_same",defArgs (top 50),defBody (top 50),defScope (top 50),[],[]⟩
def g5:He.DefD:=⟨("_law_drawn",none),"_law_drawn","_law_drawn",defArgs (top 49),defBody (top 49),defScope (top 49),[],[]⟩
def fz:He.DefD:=⟨("_law_spoilt",none),"_law_spoilt","_law_spoilt",defArgs (top 57),defBody (top 57),defScope (top 57),[],[]⟩
def g6:He.DefD:=⟨("_law_deeds",none),"_law_deeds","_law_deeds",defArgs (top 52),defBody (top 52),defScope (top 52),[],[]⟩
def d_part_word:He.DefD:=⟨("part_word",none),"part_word","part_word",defArgs (top 41),defBody (top 41),defScope (top 41),[],[]⟩
def dg:He.DefD:=⟨("BadDeed",some "__init__"),"__init__","BadDeed.__init__",defArgs (inClass (top 23) 0),defBody (inClass (top 23) 0),defScope (inClass (top 23) 0),[],[]⟩
def d_need_deeds:He.DefD:=⟨("need_deeds",none),"need_deeds","need_deeds",defArgs (top 32),defBody (top 32),defScope (top 32),[],[]⟩
def d_written:He.DefD:=⟨("written",none),"written","written",defArgs (top 42),defBody (top 42),defScope (top 42),[],[]⟩
def g7:He.DefD:=⟨("_law_start",none),"_law_start","_law_start",defArgs (top 48),defBody (top 48),defScope (top 48),[],[]⟩
def pK:He.DefD:=⟨("law",none),"law","law",defArgs (top 58),defBody (top 58),defScope (top 58),[],[]⟩
def hFn0:List He.DefD:=[df,d_shape_of,d_is_number,d_is_ride,d_is_part,d_number_of,d_part_of,d_deed_of,d_read,fw,iX,iY,jb,iZ,ic,g5,fz,g6,d_part_word,dg,d_need_deeds,d_written,g7,pK]
def hFn:List He.DefD:=hFn0
def hFa0:List He.Fa:=[.glo "AirError",.glo "BadChain",.glo "BadClasses",.glo "BadCount",.glo "BadDay",.glo "BadDeed",.glo "BadFleet",.glo "BadName",.glo "BadNet",.glo "BadPlace",.glo "BadText",.glo "BadTime",.glo "CannotFly",.glo "DEEDS",.glo "Left",.glo "NoBooking",.glo "NoClass",.glo "NoDuty",.glo "NoKind",.glo "NoLeg",.glo "NoPlane",.glo "NoSeat",.glo "NoWay",.glo "SHAPES",.glo "Taken",.glo "Unmended",.glo "_law_deeds",.glo "_law_drawn",.glo "_law_due",.glo "_law_kind"]
def hFa1:List He.Fa:=[.glo "_law_number",.glo "_law_part",.glo "_law_ride",.glo "_law_same",.glo "_law_spoilt",.glo "_law_start",.glo "deed_of",.glo "is_number",.glo "is_part",.glo "is_ride",.glo "need_deeds",.glo "number_of",.glo "part_of",.glo "part_word",.glo "read",.glo "shape_of",.glo "written",.int "MOST_DAY" 60,.int "MOST_FIGURES" 6,.int "MOST_NUMBER" 9999,.free "ValueError",.free "all",.free "bool",.free "enumerate",.free "int",.free "isinstance",.free "len",.free "list",.free "range",.free "str"]
def hFa2:List He.Fa:=[.free "tuple",.free "zip",.str "FIGURES" "0123456789",.str "LETTERS" "abcdefghijklmnopqrstuvwxyz",.str "MEND" "n",.glo "law"]
def hFa:List He.Fa:=hFa0++hFa1++hFa2
def hKinds:List He.Fa:=kinds.map .glo++[.glo "AirError"]++kindsHere.map fun C=>.exm C "AirError" true
def hAll:List He.Fa:=hFa++hKinds
def rK:List Str:=["__name__","AirError","BadNet","BadFleet","BadClasses","BadDay","BadPlace","BadTime","BadCount","BadChain","NoDuty","NoLeg","NoPlane","NoKind","Taken","CannotFly","NoWay","NoSeat","NoClass","BadName","NoBooking","Left","Unmended","BadDeed","BadText","MOST_DAY","MOST_NUMBER","LETTERS","is_number","DEEDS"]
def rL:List Str:=["need_deeds","FIGURES","MOST_FIGURES","SHAPES","MEND","shape_of","is_ride","is_part","part_word","written","number_of","part_of","deed_of","read","_law_start","_law_drawn","_law_same","_law_kind","_law_deeds","_law_number","_law_ride","_law_part","_law_due","_law_spoilt"]
def eK:List Str:=rK++rL
def hTf:List He.Defn:=lamDefs.map (·.1)
def nS:List He.Tab:=[(fun K=>He.ga K "DEEDS",["fly","sell","back","away","late","off","kind","turn","mend"]),(fun K=>He.ga K "SHAPES",["fly","sell","back","away","late","off","kind","turn"])]
def hOwn (K:PySem.W.Frag):Bool:=nR K (He.ga K "BadDeed") (He.ma K (He.ga K "BadDeed") "__init__") (He.ga K "AirError") ["number"]&&(nR K (He.ga K "BadText") (He.ma K (He.ga K "BadText") "__init__") (He.ga K "AirError") ["row"]&&(kdVB K (He.ga K "DEEDS") [("fly",2),("sell",3),("back",1),("away",1),("late",2),("off",1),("kind",2),("turn",1),("mend",1)]&&(kdSB K (He.ga K "SHAPES") [("fly","rw"),("sell","wvw"),("back","n"),("away","n"),("late","rn"),("off","r"),("kind","ww"),("turn","n")]&&true)))
def hEx (K:PySem.W.Frag):Bool:=(kI K kindsHere&&mI K)&&hOwn K
abbrev hR:PySem.W.OpenRow:=PySem.W.OpenLaw.row PySem.Challenge.rw_airhouse_k20_texts_refused
abbrev hHk:PySem.W.Hook:=hookF hAll hFn nS hTf hEx
def hOb (s:PySem.W.SharedT):He.AlX:=obsF hAll hFn nS hTf hEx (HandSHeadRun.getT s)
theorem hOb_eq (s:PySem.W.SharedT):hOb s=hHk.obs s.abs:=rJ (HandSHeadRun.getT_eq s)
theorem pL {σ α β γ:Type} {o:Option σ} {f:σ→α} {g:σ→β} {k:σ→γ} {a:α} {b:β} {c:γ} (h1:o.map (fun s=>(f s,g s))=some (a,b)) (h3:o.map k=some c):o.map (fun s=>(f s,g s,k s))=some (a,b,c):=by
  cases o with
  | none=>cases h1
  | some s=>cases h1; cases h3; rfl
theorem hPair {σ α β:Type} {o:Option σ} {f:σ→α × β} {v:α × β} (h1:o.map (fun s=>(f s).1)=some v.1) (h2:o.map (fun s=>(f s).2)=some v.2):o.map (fun s=>f s)=some v:=by
  cases o with
  | none=>cases h1
  | some s=>exact congrArg some (Prod.ext (Option.some.inj h1) (Option.some.inj h2))
open HandSHeadRun PySem.W in
theorem hRunA0 (w:World) (os:OsState):(endF (stepQ (denQ tabQ) hR.prog (w.withFollow "special-get-raises" false)) 20000 hR.prog (w.withFollow "special-get-raises" false) os).map (fun s=>(looksF hR.prog (boot_heap (w.withFollow "special-get-raises" false).params) s.abs,seenQ (PySem.W.view hR.prog [58]) eK (importedModules hR.prog.main.body) (fun s=>xlAt (PySem.W.view hR.prog [58]) [] s&&recOk hR.toRowW.records s) s.abs))=some (true,openGood (PySem.W.view hR.prog [58]) eK):=by
  kernel_rfl
open HandSHeadRun PySem.W in
theorem hRunB0 (w:World) (os:OsState):(endF (stepQ (denQ tabQ) hR.prog (w.withFollow "special-get-raises" false)) 20000 hR.prog (w.withFollow "special-get-raises" false) os).map (fun s=>(hOb s).1)=some ((hHk.val (w.withFollow "special-get-raises" false)).1):=by
  kernel_rfl
open HandSHeadRun PySem.W in
theorem hRunD0 (w:World) (os:OsState):(endF (stepQ (denQ tabQ) hR.prog (w.withFollow "special-get-raises" false)) 20000 hR.prog (w.withFollow "special-get-raises" false) os).map (fun s=>(hOb s).2)=some ((hHk.val (w.withFollow "special-get-raises" false)).2):=by
  kernel_rfl
open HandSHeadRun PySem.W in
theorem hRunC0 (w:World) (os:OsState):(endF (stepQ (denQ tabQ) hR.prog (w.withFollow "special-get-raises" false)) 20000 hR.prog (w.withFollow "special-get-raises" false) os).map (fun s=>hOb s)=some (hHk.val (w.withFollow "special-get-raises" false)):=hPair (hRunB0 w os) (hRunD0 w os)
theorem hRun0 (w:World):HandSHeadRun.RunEq hR (PySem.W.view hR.prog [58]) hHk hOb 20000 eK (w.withFollow "special-get-raises" false):=fun os=>pL (hRunA0 w os) (hRunC0 w os)
open HandSHeadRun PySem.W in
theorem hRunA1 (w:World) (os:OsState):(endF (stepQ (denQ tabQ) hR.prog (w.withFollow "special-get-raises" true)) 20000 hR.prog (w.withFollow "special-get-raises" true) os).map (fun s=>(looksF hR.prog (boot_heap (w.withFollow "special-get-raises" true).params) s.abs,seenQ (PySem.W.view hR.prog [58]) eK (importedModules hR.prog.main.body) (fun s=>xlAt (PySem.W.view hR.prog [58]) [] s&&recOk hR.toRowW.records s) s.abs))=some (true,openGood (PySem.W.view hR.prog [58]) eK):=by
  kernel_rfl
open HandSHeadRun PySem.W in
theorem hRunB1 (w:World) (os:OsState):(endF (stepQ (denQ tabQ) hR.prog (w.withFollow "special-get-raises" true)) 20000 hR.prog (w.withFollow "special-get-raises" true) os).map (fun s=>(hOb s).1)=some ((hHk.val (w.withFollow "special-get-raises" true)).1):=by
  kernel_rfl
open HandSHeadRun PySem.W in
theorem hRunD1 (w:World) (os:OsState):(endF (stepQ (denQ tabQ) hR.prog (w.withFollow "special-get-raises" true)) 20000 hR.prog (w.withFollow "special-get-raises" true) os).map (fun s=>(hOb s).2)=some ((hHk.val (w.withFollow "special-get-raises" true)).2):=by
  kernel_rfl
open HandSHeadRun PySem.W in
theorem hRunC1 (w:World) (os:OsState):(endF (stepQ (denQ tabQ) hR.prog (w.withFollow "special-get-raises" true)) 20000 hR.prog (w.withFollow "special-get-raises" true) os).map (fun s=>hOb s)=some (hHk.val (w.withFollow "special-get-raises" true)):=hPair (hRunB1 w os) (hRunD1 w os)
theorem hRun1 (w:World):HandSHeadRun.RunEq hR (PySem.W.view hR.prog [58]) hHk hOb 20000 eK (w.withFollow "special-get-raises" true):=fun os=>pL (hRunA1 w os) (hRunC1 w os)
theorem hRun (w:World):HandSHeadRun.RunEq hR (PySem.W.view hR.prog [58]) hHk hOb 20000 eK w:=
  PySem.W.byRow2 "special-get-raises" (P:=fun w=>HandSHeadRun.RunEq hR (PySem.W.view hR.prog [58]) hHk hOb 20000 eK w) hRun0 hRun1 w
end DL
namespace DL
open PySem PySem.Spec PyProof.Rows L2
inductive D where
  | none|bool (b:Bool)|int (i:Int)|str (x:Str)|ty (n:String)
  | tup (xs:List D)|lst (xs:List D)|ro (xs:List D)|loc (l:Nat)|glo (x:Str)|adr (a:Addr)|tpn (xs:List D)
  | clo (k:Nat) (b:Bool) (q:Str) (F:Value→Addr→Value→Value→Obj)
  | exn (a dd:Addr) (ns:List Str) (xs:List D)
  deriving Inhabited
inductive O where
  | lst (xs:List D)|dct (t:Bool) (kvs:List (D × D))|ins (C:Str) (fs:List (Str × D))|fdc (t:Bool) (kvs:List (D × D))
  deriving Inhabited
abbrev Sto:=List O
abbrev En:=List (Option D)
structure XV where
  cls:Str
  fs:List (Str × D)
def cV:Key→D
  | .inl i=>.int i
  | .inr x=>.str x
def di (ks:List Key):D:=.tup (ks.map cV)
/-- where what changes stands: what is named by its place,and what is being made -/
structure Mu where
  l:List Addr
  h:List Addr
instance:Membership Addr Mu:=⟨fun μ a=>a∈μ.l∨a∈μ.h⟩
def Mu.push (μ:Mu) (p:Addr):Mu:=⟨μ.l++[p],μ.h⟩
def Mu.hide (μ:Mu) (p:Addr):Mu:=⟨μ.l,p::μ.h⟩
theorem Mu.mem {μ:Mu} {a:Addr}:a∈μ↔a∈μ.l∨a∈μ.h:=Iff.rfl
/-- the function object o stands at f -/
def FunO (f:Addr) (o:Obj):HO:=.ext fun h=>h.get? f=some o
/-- the defaults of a lambda: none,or the one number 0 -/
def DfO (b:Bool) (H:Hp) (μ:Mu) (dv:Value):Prop:=b=true→∃T,dv=.ref T∧H T=some (.tup [.int 0])∧T∉μ
section
variable (K:PySem.W.Frag) (mg:Str→Option Value)
def SeqL (μ:Mu) (H:Hp) (a:Addr) (vs:List V):Prop:=(Rd H a (.lst vs)∧a∉μ)∨SqL K (fun _=>none) a vs
mutual
def Rep (μ:Mu) (H:Hp):D→V→Prop
  | .none,v=>v=.non
  | .bool b,v=>v=.bl b
  | .int i,v=>v=.int i
  | .str x,v=>v=.str x
  | .ty n,v=>v=.ty n
  | .tup ds,v=>∃a vs,v=.ref a∧H a=some (.tup vs)∧a∉μ∧RepAll μ H ds vs
  | .lst ds,v=>∃a vs,v=.ref a∧H a=some (.lst vs)∧a∉μ∧RepAll μ H ds vs
  | .ro ds,v=>∃a vs,v=.ref a∧SeqL K μ H a vs∧RepAll μ H ds vs
  | .loc l,v=>∃a,v=.ref a∧μ.l[l]?=some a
  | .glo x,v=>∃a,v=.ref a∧mg x=some (.ref a)
  | .adr a,v=>v=.ref a
  | .tpn ds,v=>∃a vs o,v=.ref a∧(H a=some (.frz o (.tup vs))∧o.dict=none)∧a∉μ∧RepAll μ H ds vs
  | .exn a dd ns ds,v=>∃vs,v=.ref a∧H dd=some (.xd (ns.zip vs))∧dd∉μ∧RepAll μ H ds vs
  | .clo _ b q F,v=>∃f c' pm ctv dv,v=.ref f∧(H f=some (FunO f (F pm c' ctv dv))∧f∉μ)∧(H c'=some (LamX.CodeO c' q)∧c'∉μ)∧DfO b H μ dv
def RepAll (μ:Mu) (H:Hp):List D→List V→Prop
  | [],vs=>vs=[]
  | d::ds,vs=>∃v r,vs=v::r∧Rep μ H d v∧RepAll μ H ds r
end
def RepO (μ:Mu) (H:Hp):O→Addr→Prop
  | .lst ds,a=>∃vs,H a=some (.lst vs)∧RepAll K mg μ H ds vs
  | .dct false kvs,a=>∃vs,∃ks:List Key,(H a=some (.dK (ks.zip vs))∧kvs.map (·.1)=ks.map cV)∧RepAll K mg μ H (kvs.map (·.2)) vs
  | .dct true kvs,a=>∃vs,∃ks:List (List Key),(H a=some (.dT (ks.zip vs))∧kvs.map (·.1)=ks.map di)∧RepAll K mg μ H (kvs.map (·.2)) vs
  | .ins C fs,a=>∃Ca dx vs,mg C=some (.ref Ca)∧H a=some (.ins Ca dx ((fs.map (·.1)).zip vs))∧RepAll K mg μ H (fs.map (·.2)) vs
  | .fdc false kvs,a=>∃vs,∃ks:List Key,((∃od,H a=some (.frz od (.dK (ks.zip vs))))∧kvs.map (·.1)=ks.map cV)∧RepAll K mg μ H (kvs.map (·.2)) vs
  | .fdc true kvs,a=>∃vs,∃ks:List (List Key),((∃od,H a=some (.frz od (.dT (ks.zip vs))))∧kvs.map (·.1)=ks.map di)∧RepAll K mg μ H (kvs.map (·.2)) vs
/-- no table of code objects -/
def NTb (o:HO):Prop:=∀ps,o≠.tbl ps
/-- what may be hidden -/
def Hdn (o:HO):Prop:=(∃xs,o=.lst xs)∨(∃kvs,o=.dK kvs)∨∃kvs,o=.dT kvs
theorem Hdn.ntb {o:HO} (h:Hdn o) (ps:Array Value):o≠.tbl ps:=by
  rcases h with ⟨_,rfl⟩|⟨_,rfl⟩|⟨_,rfl⟩<;>exact nofun
theorem Hdn.nc {o:HO} (h:Hdn o) (c:Addr) (q:Str):o≠LamX.CodeO c q:=by
  unfold LamX.CodeO
  rcases h with ⟨_,rfl⟩|⟨_,rfl⟩|⟨_,rfl⟩<;>exact nofun
structure RelS (μ:Mu) (H:Hp) (S:Sto):Prop where
  len:S.length=μ.l.length
  nd:μ.l.Nodup
  dis:∀a∈μ.l,a∉μ.h
  hid:∀a∈μ.h,∃u,H a=some u∧Hdn u
  at_:∀(l:Nat) (o:O),S[l]?=some o→∃a,μ.l[l]?=some a∧RepO K mg μ H o a
  tab:LamX.Tabs (tbs K) H
structure RelE (μ:Mu) (H:Hp) (env:En) (σ:L2.St):Prop where
  len:env.length=σ.length
  at_:∀(i:Nat) (d:D),env[i]?=some (some d)→∃v,σ[i]?=some (some v)∧Rep K mg μ H d v
structure Rl (μ:Mu) (H:Hp) (env:En) (σ:L2.St) (S:Sto):Prop where
  env:RelE K mg μ H env σ
  sto:RelS K mg μ H S
def RepX (μ:Mu) (H:Hp) (e:XV) (cls:Value) (dd:Option Addr):Prop:=
  ∃C,mg e.cls=some (.ref C)∧cls=.ref C∧((e.fs=[]∧dd=none)∨e.fs≠[]∧∃d vs,dd=some d∧H d=some (.xd ((e.fs.map (·.1)).zip vs))∧RepAll K mg μ H (e.fs.map (·.2)) vs)
end
/-- what stays as code runs -/
structure StpW (μ:Mu) (H:Hp) (μ':Mu) (H':Hp):Prop where
  pre:∃t,μ'.l=μ.l++t
  new:∀a∈μ',a∈μ∨∀o,H a=some o→¬NTb o
  keep':∀a o,H a=some o→a∉μ→NTb o→H' a=some o
/-- .. what is locked among it -/
structure Stp (μ:Mu) (H:Hp) (μ':Mu) (H':Hp):Prop extends StpW μ H μ' H' where
  kf:∀a od u,H a=some (.frz od u)→H' a=some (.frz od u)
structure Step (μ:Mu) (H:Hp) (μ':Mu) (H':Hp):Prop extends Stp μ H μ' H' where
  hid:μ'.h=μ.h
  hk':∀a u,a∈μ.h→H a=some u→NTb u→H' a=some u
instance {μ μ':Mu} {H H':Hp}:Coe (Stp μ H μ' H') (StpW μ H μ' H'):=⟨Stp.toStpW⟩
theorem StpW.keep {μ μ':Mu} {H H':Hp} (s:StpW μ H μ' H') (a:Addr) (o:HO) (h:H a=some o) (n:a∉μ) (t:NTb o:=by exact fun _ z=>nomatch z):H' a=some o:=s.keep' a o h n t
theorem Step.hk {μ μ':Mu} {H H':Hp} (s:Step μ H μ' H') (a:Addr) (u:HO) (h:a∈μ.h) (e:H a=some u) (t:NTb u:=by exact fun _ z=>nomatch z):H' a=some u:=s.hk' a u h e t
def Sm (H H':Hp):Prop:=∀b o,H b=some o→H' b=some o
theorem Sm.rfl {H:Hp}:Sm H H:=fun _ _ h=>h
theorem Sm.trans {H H1 H2:Hp} (a:Sm H H1) (b:Sm H1 H2):Sm H H2:=fun c o h=>b c o (a c o h)
theorem Sm.upd {H:Hp} {p:Addr} {o:HO} (h:H p=none):Sm H (upd H p o):=fun b u e=>by
  rw[upd_ne (ne_of_none e h)]; exact e
section
variable {μ μ' μ2:Mu} {H H' H2:Hp}
theorem Stp.refl:Stp μ H μ H:=⟨⟨⟨[],by simp⟩,fun _ h=>.inl h,fun _ _ h _ _=>h⟩,fun _ _ _ h=>h⟩
theorem Step.refl:Step μ H μ H:=⟨.refl,rfl,fun _ _ _ h _=>h⟩
theorem Step.of_sm (s:Sm H H'):Step μ H μ H':=⟨⟨⟨⟨[],by simp⟩,fun _ h=>.inl h,fun a o h _ _=>s a o h⟩,fun a _ _ h=>s a _ h⟩,rfl,fun a u _ h _=>s a u h⟩
theorem StpW.notin (s:StpW μ H μ' H') {a:Addr} {o:HO} (h:H a=some o) (n:a∉μ) (t:NTb o:=by exact fun _ z=>nomatch z):a∉μ':=fun z=>by
  rcases s.new a z with e|e
  · exact n e
  · exact e o h t
theorem Step.notin (s:Step μ H μ' H') {a:Addr} {o:HO} (h:H a=some o) (n:a∉μ) (t:NTb o:=by exact fun _ z=>nomatch z):a∉μ':=s.toStp.notin h n t
theorem Stp.trans (s:Stp μ H μ' H') (t:Stp μ' H' μ2 H2):Stp μ H μ2 H2:=by
  obtain ⟨x,hx⟩:=s.pre
  obtain ⟨y,hy⟩:=t.pre
  refine ⟨⟨⟨x++y,by rw[hy,hx,List.append_assoc]⟩,fun a ha=>?_,fun a o h n nt=>t.keep a o (s.keep a o h n nt) (s.notin h n nt) nt⟩,fun a od u h=>t.kf a od u (s.kf a od u h)⟩
  rcases t.new a ha with e|e
  · exact s.new a e
  · by_cases h:a∈μ
    · exact .inl h
    · exact .inr fun o q nt=>e o (s.keep a o q h nt) nt
theorem Step.trans (s:Step μ H μ' H') (t:Step μ' H' μ2 H2):Step μ H μ2 H2:=⟨s.toStp.trans t.toStp,t.hid.trans s.hid,fun a u ha h nt=>t.hk a u (by rw[s.hid]; exact ha) (s.hk a u ha h nt) nt⟩
theorem StpW.get (s:StpW μ H μ' H') {l:Nat} {a:Addr} (h:μ.l[l]?=some a):μ'.l[l]?=some a:=by
  obtain ⟨t,e⟩:=s.pre
  have hl:l<μ.l.length:=(List.getElem?_eq_some_iff.mp h).1
  rw[e,List.getElem?_append_left hl]; exact h
theorem Step.get (s:Step μ H μ' H') {l:Nat} {a:Addr} (h:μ.l[l]?=some a):μ'.l[l]?=some a:=s.toStp.get h
/-- a new one at p -/
theorem Step.new_loc {p:Addr} {o:HO} (h:H p=none):Step μ H (μ.push p) (upd H p o):=
  ⟨⟨⟨⟨[p],rfl⟩,fun a ha=>by
    rcases ha with ha|ha
    · rcases List.mem_append.mp ha with e|e
      · exact .inl (.inl e)
      · have:a=p:=by simpa using e
        subst this; exact .inr fun o q=>by rw[h] at q; cases q
    · exact .inl (.inr ha),fun a u e _ _=>(by rw[upd_ne (ne_of_none e h)]; exact e)⟩,fun a _ _ e=>(by rw[upd_ne (ne_of_none e h)]; exact e)⟩,rfl,fun a u _ e _=>by rw[upd_ne (ne_of_none e h)]; exact e⟩
theorem Stp.new_hid {p:Addr} {o:HO} (h:H p=none):Stp μ H (μ.hide p) (upd H p o):=
  ⟨⟨⟨[],by simp[Mu.hide]⟩,fun a ha=>by
    rcases ha with ha|ha
    · exact .inl (.inl ha)
    · rcases List.mem_cons.mp ha with e|e
      · subst e; exact .inr fun o q=>by rw[h] at q; cases q
      · exact .inl (.inr e),fun a u e _ _=>(by rw[upd_ne (ne_of_none e h)]; exact e)⟩,fun a _ _ e=>(by rw[upd_ne (ne_of_none e h)]; exact e)⟩
/-- not locked -/
def NF (H:Hp) (p:Addr):Prop:=∀od u,H p≠some (.frz od u)
theorem NF.of {H:Hp} {p:Addr} {w:HO} (h:H p=some w) (hw:∀od u,w≠.frz od u:=by exact fun _ _ z=>nomatch z):NF H p:=fun od u z=>by
  rw[h] at z; exact hw od u (Option.some.inj z)
theorem NF.ne {H:Hp} {p b:Addr} {od:Obj} {u:HO} (n:NF H p) (e:H b=some (.frz od u)):b≠p:=fun z=>n od u (z▸e)
theorem Hdn.nf {H:Hp} {p:Addr} {u:HO} (e:H p=some u) (h:Hdn u):NF H p:=.of e (by rcases h with ⟨_,rfl⟩|⟨_,rfl⟩|⟨_,rfl⟩<;>exact fun _ _ z=>nomatch z)
theorem Stp.write_hid {p:Addr} {o:HO} (h:p∈μ.h) (nf:NF H p):Stp μ H μ (upd H p o):=
  ⟨⟨⟨[],by simp⟩,fun _ h=>.inl h,fun b u e n _=>(by
    have:b≠p:=fun z=>n (z▸.inr h)
    rw[upd_ne this]; exact e)⟩,fun b _ _ e=>(by rw[upd_ne (nf.ne e)]; exact e)⟩
theorem Step.write' {l:Nat} {a:Addr} {o:HO} (h:μ.l[l]?=some a) (hd:a∉μ.h) (nf:NF H a):Step μ H μ (upd H a o):=
  ⟨⟨⟨⟨[],by simp⟩,fun _ h=>.inl h,fun b u e n _=>(by
    have:b≠a:=fun z=>n (z▸.inl (List.mem_of_getElem? h))
    rw[upd_ne this]; exact e)⟩,fun b _ _ e=>(by rw[upd_ne (nf.ne e)]; exact e)⟩,rfl,fun b u hb e _=>by
    have:b≠a:=fun z=>hd (z▸hb)
    rw[upd_ne this]; exact e⟩
variable {K:PySem.W.Frag} {mg:Str→Option Value}
theorem SeqL.sq {a:Addr} {vs:List V} (h:SeqL K μ H a vs):SqL K H a vs:=by
  rcases h with h|h|h
  · exact .inl h.1
  · rcases h with z|⟨o,z⟩<;>cases z
  · exact .inr h
theorem lI (s:StpW μ H μ' H') {a:Addr} {u:HO} (h:Rd H a u) (n:a∉μ) (t:NTb u:=by exact fun _ z=>nomatch z):Rd H' a u∧a∉μ':=by
  rcases h with h|⟨o,h⟩
  · exact ⟨.inl (s.keep _ _ h n t),s.notin h n t⟩
  · exact ⟨.inr ⟨o,s.keep _ _ h n⟩,s.notin h n⟩
theorem SeqL.stpW (s:StpW μ H μ' H') {a:Addr} {vs:List V} (h:SeqL K μ H a vs):SeqL K μ' H' a vs:=by
  rcases h with h|h
  · exact .inl (lI s h.1 h.2)
  · exact .inr h
mutual
theorem Rep.stpW (s:StpW μ H μ' H'):∀(d:D) (v:V),Rep K mg μ H d v→Rep K mg μ' H' d v
  | .none,_,h=>by unfold Rep at *; exact h
  | .bool _,_,h=>by unfold Rep at *; exact h
  | .int _,_,h=>by unfold Rep at *; exact h
  | .str _,_,h=>by unfold Rep at *; exact h
  | .ty _,_,h=>by unfold Rep at *; exact h
  | .tup ds,_,h=>by
    unfold Rep at *
    obtain ⟨a,vs,e,h1,n,h2⟩:=h
    exact ⟨a,vs,e,s.keep _ _ h1 n,s.notin h1 n,RepAll.stpW s ds vs h2⟩
  | .lst ds,_,h=>by
    unfold Rep at *
    obtain ⟨a,vs,e,h1,n,h2⟩:=h
    exact ⟨a,vs,e,s.keep _ _ h1 n,s.notin h1 n,RepAll.stpW s ds vs h2⟩
  | .ro ds,_,h=>by
    unfold Rep at *
    obtain ⟨a,vs,e,h1,h2⟩:=h
    exact ⟨a,vs,e,h1.stpW s,RepAll.stpW s ds vs h2⟩
  | .loc l,_,h=>by
    unfold Rep at *
    obtain ⟨a,e,h1⟩:=h
    exact ⟨a,e,s.get h1⟩
  | .glo _,_,h=>by unfold Rep at *; exact h
  | .adr _,_,h=>by unfold Rep at *; exact h
  | .exn a dd ns ds,_,h=>by
    unfold Rep at *
    obtain ⟨vs,e,h1,n,h2⟩:=h
    exact ⟨vs,e,s.keep _ _ h1 n,s.notin h1 n,RepAll.stpW s ds vs h2⟩
  | .clo _ b q F,_,h=>by
    unfold Rep at *
    obtain ⟨f,c',pm,ctv,dv,e,⟨h1,n1⟩,⟨h2,n2⟩,h3⟩:=h
    have t1:NTb (FunO f (F pm c' ctv dv)):=fun _ z=>by unfold FunO at z; cases z
    have t2:NTb (LamX.CodeO c' q):=fun _ z=>by unfold LamX.CodeO at z; cases z
    refine ⟨f,c',pm,ctv,dv,e,⟨s.keep _ _ h1 n1 t1,s.notin h1 n1 t1⟩,⟨s.keep _ _ h2 n2 t2,s.notin h2 n2 t2⟩,fun hb=>?_⟩
    obtain ⟨T,h3,h4,h5⟩:=h3 hb
    exact ⟨T,h3,s.keep _ _ h4 h5,s.notin h4 h5⟩
  | .tpn ds,_,h=>by
    unfold Rep at *
    obtain ⟨a,vs,o,e,⟨h1,hd⟩,n,h2⟩:=h
    exact ⟨a,vs,o,e,⟨s.keep _ _ h1 n,hd⟩,s.notin h1 n,RepAll.stpW s ds vs h2⟩
theorem RepAll.stpW (s:StpW μ H μ' H'):∀(ds:List D) (vs:List V),RepAll K mg μ H ds vs→RepAll K mg μ' H' ds vs
  | [],_,h=>by unfold RepAll at *; exact h
  | d::ds,_,h=>by
    unfold RepAll at *
    obtain ⟨v,r,e,h1,h2⟩:=h
    exact ⟨v,r,e,Rep.stpW s d v h1,RepAll.stpW s ds r h2⟩
end
theorem c8 (s:Stp μ H μ' H') {a:Addr} {u:HO} (h:Rd H a u) (n:a∉μ) (t:NTb u:=by exact fun _ z=>nomatch z):Rd H' a u∧a∉μ':=lI s.toStpW h n t
theorem SeqL.stp (s:Stp μ H μ' H') {a:Addr} {vs:List V} (h:SeqL K μ H a vs):SeqL K μ' H' a vs:=h.stpW s.toStpW
theorem Rep.stp (s:Stp μ H μ' H') (d:D) (v:V) (h:Rep K mg μ H d v):Rep K mg μ' H' d v:=Rep.stpW s.toStpW d v h
theorem RepAll.stp (s:Stp μ H μ' H') (ds:List D) (vs:List V) (h:RepAll K mg μ H ds vs):RepAll K mg μ' H' ds vs:=RepAll.stpW s.toStpW ds vs h
theorem Rep.step (s:Step μ H μ' H') (d:D) (v:V) (h:Rep K mg μ H d v):Rep K mg μ' H' d v:=Rep.stp s.toStp d v h
theorem RepAll.step (s:Step μ H μ' H') (d:List D) (v:List V) (h:RepAll K mg μ H d v):RepAll K mg μ' H' d v:=RepAll.stp s.toStp d v h
theorem SeqL.step (s:Step μ H μ' H') {a:Addr} {vs:List V} (h:SeqL K μ H a vs):SeqL K μ' H' a vs:=h.stp s.toStp
theorem RepAll.length:∀ {ds:List D} {vs:List V},RepAll K mg μ H ds vs→ds.length=vs.length
  | [],_,h=>by unfold RepAll at h; subst h; rfl
  | d::ds,_,h=>by
    unfold RepAll at h
    obtain ⟨v,r,rfl,_,h2⟩:=h
    simp[RepAll.length h2]
theorem RepAll.get:∀ {ds:List D} {vs:List V} {i:Nat} {d:D},RepAll K mg μ H ds vs→ds[i]?=some d→∃v,vs[i]?=some v∧Rep K mg μ H d v
  | [],_,_,_,_,e=>by simp at e
  | d::ds,_,0,_,h,e=>by
    unfold RepAll at h
    obtain ⟨v,r,rfl,h1,_⟩:=h
    simp at e; subst e
    exact ⟨v,rfl,h1⟩
  | d::ds,_,i+1,_,h,e=>by
    unfold RepAll at h
    obtain ⟨v,r,rfl,_,h2⟩:=h
    obtain ⟨u,e1,e2⟩:=RepAll.get (i:=i) h2 (by simpa using e)
    exact ⟨u,by simpa using e1,e2⟩
theorem RepAll.nil:RepAll K mg μ H [] []:=by unfold RepAll; rfl
theorem RepAll.cons {d:D} {ds:List D} {v:V} {vs:List V} (h:Rep K mg μ H d v) (t:RepAll K mg μ H ds vs):RepAll K mg μ H (d::ds) (v::vs):=by
  unfold RepAll; exact ⟨v,vs,rfl,h,t⟩
theorem RepAll.append:∀ {ds es:List D} {vs us:List V},RepAll K mg μ H ds vs→RepAll K mg μ H es us→RepAll K mg μ H (ds++es) (vs++us)
  | [],_,_,_,h,t=>by unfold RepAll at h; subst h; exact t
  | d::ds,_,_,_,h,t=>by
    unfold RepAll at h
    obtain ⟨v,r,rfl,h1,h2⟩:=h
    exact .cons h1 (RepAll.append h2 t)
theorem RepAll.take:∀ {ds:List D} {vs:List V} (n:Nat),RepAll K mg μ H ds vs→RepAll K mg μ H (ds.take n) (vs.take n)
  | _,_,0,_=>by simp only[List.take_zero]; exact .nil
  | [],_,n+1,h=>by unfold RepAll at h; subst h; simp only[List.take_nil]; exact .nil
  | d::ds,_,n+1,h=>by
    unfold RepAll at h
    obtain ⟨v,r,rfl,h1,h2⟩:=h
    exact .cons h1 (RepAll.take n h2)
theorem RepAll.drop:∀ {ds:List D} {vs:List V} (n:Nat),RepAll K mg μ H ds vs→RepAll K mg μ H (ds.drop n) (vs.drop n)
  | _,_,0,h=>h
  | [],_,n+1,h=>by unfold RepAll at h; subst h; simp only[List.drop_nil]; exact .nil
  | d::ds,_,n+1,h=>by
    unfold RepAll at h
    obtain ⟨v,r,rfl,h1,h2⟩:=h
    exact RepAll.drop n h2
theorem RepAll.set {d:D} {v:V} (r:Rep K mg μ H d v):∀ {ds:List D} {vs:List V} (i:Nat),RepAll K mg μ H ds vs→RepAll K mg μ H (ds.set i d) (vs.set i v)
  | [],_,i,h=>by unfold RepAll at h; subst h; exact .nil
  | e::ds,_,0,h=>by
    unfold RepAll at h
    obtain ⟨w,q,rfl,h1,h2⟩:=h
    exact .cons r h2
  | e::ds,_,i+1,h=>by
    unfold RepAll at h
    obtain ⟨w,q,rfl,h1,h2⟩:=h
    exact .cons h1 (RepAll.set r i h2)
theorem RepO.step_sm (s:Sm H H') {o:O} {a:Addr} (h:RepO K mg μ H o a):RepO K mg μ H' o a:=by
  have st:Step μ H μ H':=.of_sm s
  cases o with
  | lst ds=>obtain ⟨vs,h1,h2⟩:=h; exact ⟨vs,s _ _ h1,RepAll.step st _ _ h2⟩
  | dct t kvs=>
    cases t<;>(obtain ⟨vs,ks,⟨e,k⟩,h2⟩:=h; exact ⟨vs,ks,⟨s _ _ e,k⟩,RepAll.step st _ _ h2⟩)
  | ins C fs=>obtain ⟨Ca,dx,vs,g,h1,h2⟩:=h; exact ⟨Ca,dx,vs,g,s _ _ h1,RepAll.step st _ _ h2⟩
  | fdc t kvs=>
    cases t<;>(obtain ⟨vs,ks,⟨⟨od,e⟩,k⟩,h2⟩:=h; exact ⟨vs,ks,⟨⟨od,s _ _ e⟩,k⟩,RepAll.step st _ _ h2⟩)
/-- its own object stays -/
theorem RepO.stepW (st:StpW μ H μ' H') {o:O} {a:Addr} (e:∀u,H a=some u→H' a=some u) (h:RepO K mg μ H o a):RepO K mg μ' H' o a:=by
  cases o with
  | lst ds=>obtain ⟨vs,h1,h2⟩:=h; exact ⟨vs,e _ h1,RepAll.stpW st _ _ h2⟩
  | dct t kvs=>
    cases t<;>(obtain ⟨vs,ks,⟨q,k⟩,h2⟩:=h; exact ⟨vs,ks,⟨e _ q,k⟩,RepAll.stpW st _ _ h2⟩)
  | ins C fs=>obtain ⟨Ca,dx,vs,g,h1,h2⟩:=h; exact ⟨Ca,dx,vs,g,e _ h1,RepAll.stpW st _ _ h2⟩
  | fdc t kvs=>
    cases t<;>(obtain ⟨vs,ks,⟨⟨od,q⟩,k⟩,h2⟩:=h; exact ⟨vs,ks,⟨⟨od,e _ q⟩,k⟩,RepAll.stpW st _ _ h2⟩)
theorem RepO.step (st:Stp μ H μ' H') {o:O} {a:Addr} (e:∀u,H a=Option.some u→H' a=Option.some u) (h:RepO K mg μ H o a):RepO K mg μ' H' o a:=h.stepW st.toStpW e
theorem RepO.some {o:O} {a:Addr} (h:RepO K mg μ H o a):∃u,H a=some u:=by
  cases o with
  | lst ds=>obtain ⟨vs,h1,h2⟩:=h; exact ⟨_,h1⟩
  | dct t kvs=>
    cases t<;>(obtain ⟨vs,ks,⟨q,k⟩,h2⟩:=h; exact ⟨_,q⟩)
  | ins C fs=>obtain ⟨Ca,dx,vs,g,h1,h2⟩:=h; exact ⟨_,h1⟩
  | fdc t kvs=>
    cases t<;>(obtain ⟨vs,ks,⟨⟨od,q⟩,k⟩,h2⟩:=h; exact ⟨_,q⟩)
theorem RepO.nt {o:O} {a:Addr} (h:RepO K mg μ H o a) {ps:Array Value} (e:H a=Option.some (HO.tbl ps)):False:=by
  cases o with
  | lst ds=>obtain ⟨vs,h1,h2⟩:=h; rw[e] at h1; cases h1
  | dct t kvs=>
    cases t<;>(obtain ⟨vs,ks,⟨q,k⟩,h2⟩:=h; rw[e] at q; cases q)
  | ins C fs=>obtain ⟨Ca,dx,vs,g,h1,h2⟩:=h; rw[e] at h1; cases h1
  | fdc t kvs=>
    cases t<;>(obtain ⟨vs,ks,⟨⟨od,q⟩,k⟩,h2⟩:=h; rw[e] at q; cases q)
variable {S:Sto} {env:En} {σ:L2.St}
theorem RelS.sm (s:Sm H H') (h:RelS K mg μ H S):RelS K mg μ H' S:=
  ⟨h.len,h.nd,h.dis,fun a ha=>let ⟨u,e,t⟩:=h.hid a ha; ⟨u,s a u e,t⟩,fun l o e=>let ⟨a,h1,h2⟩:=h.at_ l o e; ⟨a,h1,h2.step_sm s⟩,h.tab.ext s⟩
theorem RelE.stpW (s:StpW μ H μ' H') (h:RelE K mg μ H env σ):RelE K mg μ' H' env σ:=
  ⟨h.len,fun i d e=>let ⟨v,h1,h2⟩:=h.at_ i d e; ⟨v,h1,Rep.stpW s _ _ h2⟩⟩
theorem RelE.stp (s:Stp μ H μ' H') (h:RelE K mg μ H env σ):RelE K mg μ' H' env σ:=h.stpW s.toStpW
theorem RelE.step (s:Step μ H μ' H') (h:RelE K mg μ H env σ):RelE K mg μ' H' env σ:=h.stp s.toStp
theorem RelE.set (h:RelE K mg μ H env σ) {i:Nat} {d:D} {v:V} (r:Rep K mg μ H d v):RelE K mg μ H (env.set i (some d)) (σ.set i (some v)):=by
  refine ⟨by simp[h.len],fun j e q=>?_⟩
  by_cases hj:j=i
  · subst hj
    have hl:j<env.length:=by
      have:=(List.getElem?_eq_some_iff.mp q).1; simpa using this
    rw[List.getElem?_set_self hl] at q
    cases q
    exact ⟨v,by rw[List.getElem?_set_self (by rw[←h.len]; exact hl)],r⟩
  · rw[List.getElem?_set_ne (Ne.symm hj)] at q
    rw[List.getElem?_set_ne (Ne.symm hj)]
    exact h.at_ j e q
theorem Rl.sm (s:Sm H H') (h:Rl K mg μ H env σ S):Rl K mg μ H' env σ S:=⟨h.env.step (.of_sm s),h.sto.sm s⟩
theorem RelS.notin (rs:RelS K mg μ H S) {p:Addr} (hp:H p=none):p∉μ.l:=fun z=>by
  obtain ⟨l,hl,e⟩:=List.getElem_of_mem z
  obtain ⟨a',h1,h2⟩:=rs.at_ l (S[l]'(by rw[rs.len]; exact hl)) (List.getElem?_eq_getElem (by rw[rs.len]; exact hl))
  rw[List.getElem?_eq_getElem hl,e] at h1; cases h1
  obtain ⟨u,hu⟩:=h2.some
  rw[hp] at hu; cases hu
theorem RelS.notinH (rs:RelS K mg μ H S) {p:Addr} (hp:H p=none):p∉μ.h:=fun z=>by
  obtain ⟨u,e,_⟩:=rs.hid p z
  rw[hp] at e; cases e
theorem RelS.fresh (rs:RelS K mg μ H S) {p:Addr} (hp:H p=none):p∉μ:=fun z=>z.elim (rs.notin hp) (rs.notinH hp)
theorem RelS.ntab (rs:RelS K mg μ H S) {l:Nat} {a:Addr} (hl:μ.l[l]?=some a) {ps:Array Value} (e:H a=Option.some (HO.tbl ps)):False:=by
  have hl2:l<S.length:=by rw[rs.len]; exact (List.getElem?_eq_some_iff.mp hl).1
  obtain ⟨a',h1,h2⟩:=rs.at_ l _ (List.getElem?_eq_getElem hl2)
  rw[hl] at h1; cases h1
  exact h2.nt e
theorem lJ {T:List (Addr × Str)} {p:Addr} {ho:HO} (h:LamX.Tabs T H) (n:∀ps,H p≠some (.tbl ps)) (nc:∀c q,H p≠some (LamX.CodeO c q)):LamX.Tabs T (upd H p ho):=fun q hq=>by
  obtain ⟨ps,h1,h2,h3⟩:=h q hq
  refine ⟨ps,by rw[upd_ne fun z=>n ps (by rw[←z]; exact h1)]; exact h1,h2,fun pos cv e=>?_⟩
  obtain ⟨c,e1,e2⟩:=h3 pos cv e
  exact ⟨c,e1,by rw[upd_ne fun z=>nc c q.2 (by rw[←z]; exact e2)]; exact e2⟩
theorem RepO.nc {o:O} {a c:Addr} {q:Str} (h:RepO K mg μ H o a) (e:H a=Option.some (LamX.CodeO c q)):False:=by
  unfold LamX.CodeO at e
  cases o with
  | lst ds=>obtain ⟨vs,h1,h2⟩:=h; rw[e] at h1; cases h1
  | dct t kvs=>
    cases t<;>(obtain ⟨vs,ks,⟨q,k⟩,h2⟩:=h; rw[e] at q; cases q)
  | ins C fs=>obtain ⟨Ca,dx,vs,g,h1,h2⟩:=h; rw[e] at h1; cases h1
  | fdc t kvs=>
    cases t<;>(obtain ⟨vs,ks,⟨⟨od,q⟩,k⟩,h2⟩:=h; rw[e] at q; cases q)
theorem RelS.ncode (rs:RelS K mg μ H S) {l:Nat} {a c:Addr} {q:Str} (hl:μ.l[l]?=some a) (e:H a=Option.some (LamX.CodeO c q)):False:=by
  have hl2:l<S.length:=by rw[rs.len]; exact (List.getElem?_eq_some_iff.mp hl).1
  obtain ⟨a',h1,h2⟩:=rs.at_ l _ (List.getElem?_eq_getElem hl2)
  rw[hl] at h1; cases h1
  exact h2.nc e
/-- a new object -/
theorem RelS.push (h:RelS K mg μ H S) {p:Addr} {ho:HO} {o:O} (hp:H p=none) (r:RepO K mg (μ.push p) (upd H p ho) o p):RelS K mg (μ.push p) (upd H p ho) (S++[o]):=by
  have st:Step μ H (μ.push p) (upd H p ho):=.new_loc hp
  have np:p∉μ.l:=h.notin hp
  have hh:p∉μ.h:=h.notinH hp
  refine ⟨by simp[h.len,Mu.push],List.nodup_append.mpr ⟨h.nd,by simp,fun a ha b hb=>?_⟩,fun a ha=>?_,fun a ha=>?_,fun l u e=>?_,h.tab.ext (Sm.upd hp)⟩
  · have:b=p:=by simpa using hb
    subst this
    exact fun z=>np (z▸ha)
  · rcases List.mem_append.mp ha with e|e
    · exact h.dis a e
    · have:a=p:=by simpa using e
      subst this; exact hh
  · obtain ⟨u,e,t⟩:=h.hid a ha
    exact ⟨u,by rw[upd_ne (ne_of_none e hp)]; exact e,t⟩
  · by_cases hl:l<S.length
    · rw[List.getElem?_append_left hl] at e
      obtain ⟨a,h1,h2⟩:=h.at_ l u e
      exact ⟨a,st.get h1,h2.step st.toStp fun w q=>by rw[upd_ne (ne_of_none q hp)]; exact q⟩
    · rw[List.getElem?_append_right (by omega)] at e
      have hl2:l - S.length=0:=by
        have:=(List.getElem?_eq_some_iff.mp e).1
        simp at this; omega
      rw[hl2] at e
      simp at e
      subst e
      have:l=S.length:=by omega
      subst this
      exact ⟨p,by rw[h.len]; simp[Mu.push],r⟩
/-- an object written -/
theorem RelS.write (h:RelS K mg μ H S) {l:Nat} {p:Addr} {ho:HO} {o:O} (hp:μ.l[l]?=some p) (nf:NF H p) (r:RepO K mg μ (upd H p ho) o p):RelS K mg μ (upd H p ho) (S.set l o):=by
  have st:Step μ H μ (upd H p ho):=.write' hp (h.dis p (List.mem_of_getElem? hp)) nf
  refine ⟨by simp[h.len],h.nd,h.dis,fun a ha=>?_,fun j u e=>?_,lJ h.tab (fun ps z=>h.ntab hp z) fun c q z=>h.ncode hp z⟩
  · obtain ⟨u,e,t⟩:=h.hid a ha
    by_cases hap:a=p
    · subst hap
      exact absurd ha (h.dis a (List.mem_of_getElem? hp))
    · exact ⟨u,by rw[upd_ne hap]; exact e,t⟩
  by_cases hj:j=l
  · subst hj
    have hl:j<S.length:=by
      have:=(List.getElem?_eq_some_iff.mp e).1; simpa using this
    rw[List.getElem?_set_self hl] at e
    cases e
    exact ⟨p,hp,r⟩
  · rw[List.getElem?_set_ne (Ne.symm hj)] at e
    obtain ⟨a,h1,h2⟩:=h.at_ j u e
    have na:a≠p:=fun z=>by
      subst z
      have e1:=List.getElem?_eq_some_iff.mp h1
      have e2:=List.getElem?_eq_some_iff.mp hp
      exact hj ((List.getElem_inj h.nd).mp (e1.2.trans e2.2.symm))
    exact ⟨a,h1,h2.step st.toStp fun w q=>by rw[upd_ne na]; exact q⟩
theorem Step.write (h:RelS K mg μ H S) {l:Nat} {a:Addr} {o:HO} (hp:μ.l[l]?=some a) (nf:NF H a):Step μ H μ (upd H a o):=.write' hp (h.dis a (List.mem_of_getElem? hp)) nf
/-- something hidden is made,is written -/
theorem RelS.hide (h:RelS K mg μ H S) {p:Addr} {ho:HO} (hp:H p=none) (ht:Hdn ho:=by first|exact .inl ⟨_,rfl⟩|exact .inr (.inl ⟨_,rfl⟩)|exact .inr (.inr ⟨_,rfl⟩)):RelS K mg (μ.hide p) (upd H p ho) S:=by
  have st:Stp μ H (μ.hide p) (upd H p ho):=.new_hid hp
  have np:=h.notin hp
  refine ⟨h.len,h.nd,fun a ha=>?_,fun a ha=>?_,fun l o e=>?_,h.tab.ext (Sm.upd hp)⟩
  · intro z
    rcases List.mem_cons.mp z with e|e
    · subst e; exact np ha
    · exact h.dis a ha e
  · rcases List.mem_cons.mp ha with e|e
    · subst e; exact ⟨_,upd_same,ht⟩
    · obtain ⟨u,e,t⟩:=h.hid a e
      exact ⟨u,by rw[upd_ne (ne_of_none e hp)]; exact e,t⟩
  · obtain ⟨a,h1,h2⟩:=h.at_ l o e
    exact ⟨a,h1,h2.step st fun u q=>by rw[upd_ne (ne_of_none q hp)]; exact q⟩
theorem RelS.write_hid (h:RelS K mg μ H S) {p:Addr} {ho:HO} (hp:p∈μ.h) (ht:Hdn ho:=by first|exact .inl ⟨_,rfl⟩|exact .inr (.inl ⟨_,rfl⟩)|exact .inr (.inr ⟨_,rfl⟩)):RelS K mg μ (upd H p ho) S:=by
  have st:Stp μ H μ (upd H p ho):=.write_hid hp (by obtain ⟨u,e,t⟩:=h.hid p hp; exact Hdn.nf e t)
  refine ⟨h.len,h.nd,h.dis,fun a ha=>?_,fun l o e=>?_,lJ h.tab (fun ps z=>?_) fun c q z=>?_⟩
  · obtain ⟨u,e,t⟩:=h.hid a ha
    by_cases hap:a=p
    · exact ⟨_,by rw[hap]; exact upd_same,ht⟩
    · exact ⟨u,by rw[upd_ne hap]; exact e,t⟩
  rotate_left
  · obtain ⟨u,e,t⟩:=h.hid p hp
    rw[z] at e; cases e
    exact t.ntb ps rfl
  · obtain ⟨u,e,t⟩:=h.hid p hp
    rw[z] at e; cases e
    exact t.nc c q rfl
  obtain ⟨a,h1,h2⟩:=h.at_ l o e
  have na:a≠p:=fun z=>h.dis a (List.mem_of_getElem? h1) (z▸hp)
  exact ⟨a,h1,h2.step st fun u q=>by rw[upd_ne na]; exact q⟩
/-- less is hidden -/
theorem Stp.unhide {h':List Addr} (hs:∀a∈h',a∈μ.h):Stp μ H ⟨μ.l,h'⟩ H:=⟨⟨⟨[],by simp⟩,fun a ha=>.inl (ha.elim .inl fun z=>.inr (hs a z)),fun _ _ e _ _=>e⟩,fun _ _ _ e=>e⟩
theorem RelS.unhide {h':List Addr} (hs:∀a∈h',a∈μ.h) (h:RelS K mg μ H S):RelS K mg ⟨μ.l,h'⟩ H S:=
  ⟨h.len,h.nd,fun a ha z=>h.dis a ha (hs a z),fun a ha=>h.hid a (hs a ha),fun l o e=>let ⟨a,h1,h2⟩:=h.at_ l o e; ⟨a,h1,h2.step (.unhide hs) fun _ q=>q⟩,h.tab⟩
end
end DL
namespace DL
open PySem PySem.Spec PyProof.Rows L2
inductive Res (α:Type) where
  | ok (a:α) (S:Sto)|exc (e:XV) (S:Sto)|stuck
abbrev ME:=En→Sto→Res D
abbrev MA:=En→Sto→Res (List D)
abbrev MT:=En→Sto→Res Bool
def Res.bind {α β:Type}:Res α→(α→Sto→Res β)→Res β
  | .ok a S,f=>f a S
  | .exc e S,_=>.exc e S
  | .stuck,_=>.stuck
def ofO {α:Type} (S:Sto):Option α→Res α
  | some a=>.ok a S
  | none=>.stuck
section
variable (K:PySem.W.Frag) (mg:Str→Option Value)
def Out {α β:Type} (W:WX) (σ:L2.St) (μ:Mu) (H:Hp) (R:Mu→Hp→α→β→Prop) (Q:β→Hp→Prop):Res α→Prop
  | .ok a S=>∀μ' H' b,Step μ H μ' H'→RelS K mg μ' H' S→R μ' H' a b→Q b H'
  | .exc e S=>∀μ' H' cls dd,Step μ H μ' H'→RelS K mg μ' H' S→RepX K mg μ' H' e cls dd→W cls dd σ H'
  | .stuck=>False
end
section
variable {K:PySem.W.Frag} {mg:Str→Option Value} {α α' β β':Type} {W:WX} {σ:L2.St} {μ μ1:Mu} {H H1:Hp} {R:Mu→Hp→α→β→Prop} {R':Mu→Hp→α'→β'→Prop}
theorem Out.of_step {Q:β→Hp→Prop} {r:Res α} (st:Step μ H μ1 H1) (o:Out K mg W σ μ H R Q r):Out K mg W σ μ1 H1 R Q r:=by
  cases r with
  | ok a S=>exact fun μ' H' b s=>o μ' H' b (st.trans s)
  | exc e S=>exact fun μ' H' c d s=>o μ' H' c d (st.trans s)
  | stuck=>exact o
theorem Out.mono {Q Q':β→Hp→Prop} {r:Res α} (o:Out K mg W σ μ H R Q r) (h:∀b H',Q b H'→Q' b H'):Out K mg W σ μ H R Q' r:=by
  cases r with
  | ok a S=>exact fun μ' H' b s t u=>h _ _ (o μ' H' b s t u)
  | exc e S=>exact o
  | stuck=>exact o
theorem Out.bind {Q:β'→Hp→Prop} {r:Res α} {f:α→Sto→Res α'} (o:Out K mg W σ μ H R' Q (r.bind f)) :
    Out K mg W σ μ H R (fun b H1=>∃μ1 S1 a,Step μ H μ1 H1∧RelS K mg μ1 H1 S1∧R μ1 H1 a b∧Out K mg W σ μ1 H1 R' Q (f a S1)) r:=by
  cases r with
  | ok a S=>exact fun μ' H' b s t u=>⟨μ',S,a,s,t,u,Out.of_step s o⟩
  | exc e S=>exact o
  | stuck=>exact o
end
/-- the reading of a computation -/
def tM (X:Cx) {α β:Type} (R:Mu→Hp→α→β→Prop) (W:WX) (m:En→Sto→Res α):L2.St→Hp→(β→Hp→Prop)→Prop:=fun σ H Q=>
  ∃env S μ,Rl X.K X.mg μ H env σ S∧Out X.K X.mg W σ μ H R Q (m env S)
abbrev tE (X:Cx) (W:WX) (m:ME):TE:=tM X (fun μ H a b=>Rep X.K X.mg μ H a b) W m
abbrev tAs (X:Cx) (W:WX) (m:MA):TA:=tM X (fun μ H a b=>RepAll X.K X.mg μ H a b) W m
abbrev tT (X:Cx) (W:WX) (m:MT):TT:=tM X (fun _ _ a b=>b=a) W m
theorem bf {X:Cx} {e:Expr} {t t':TE} (h:PE X e t) (i:∀σ H Q,t' σ H Q→t σ H Q):PE X e t':=⟨fun pins s σ H Q I w=>h.run pins s σ H Q I (i σ H Q w)⟩
theorem jc {X:Cx} {e:Expr} {t t':TT} (h:PT X e t) (i:∀σ H Q,t' σ H Q→t σ H Q):PT X e t':=⟨fun pins s σ H Q I w=>h.run pins s σ H Q I (i σ H Q w)⟩
theorem pw_to {X:Cx} {e:Expr} {t t':TT} (h:PW X e t) (i:∀σ H Q,t' σ H Q→t σ H Q):PW X e t':=⟨fun wh pins s σ H Q I w=>h.run wh pins s σ H Q I (i σ H Q w)⟩
theorem pa_to {X:Cx} {e:List Expr} {t t':TA} (h:PA X e t) (i:∀σ H Q,t' σ H Q→t σ H Q):PA X e t':=⟨fun p pins s σ H Q I w=>h.run p pins s σ H Q I (i σ H Q w)⟩
def vt:D→D
  | .tpn xs=>.tup xs
  | d=>d
def view0 (S:Sto):D→D
  | .loc l=>match S[l]? with
    | some (.lst xs)=>.lst xs
    | _=>.loc l
  | d=>d
def view (S:Sto) (d:D):D:=vt (view0 S d)
section
variable (K:PySem.W.Frag) (mg:Str→Option Value)
def RepV (μ:Mu) (H:Hp):D→V→Prop
  | .lst ds,v=>∃a vs,v=.ref a∧H a=some (.lst vs)∧RepAll K mg μ H ds vs
  | d,v=>Rep K mg μ H d v
def RepW (μ:Mu) (H:Hp):D→V→Prop
  | .lst ds,v=>∃a vs,v=.ref a∧H a=some (.lst vs)∧RepAll K mg μ H ds vs
  | .tup ds,v=>∃a vs,v=.ref a∧Rd H a (.tup vs)∧RepAll K mg μ H ds vs∧a∉μ
  | d,v=>Rep K mg μ H d v
end
section
variable {K:PySem.W.Frag} {mg:Str→Option Value} {μ μ1:Mu} {H H1:Hp} {S:Sto}
theorem Rep.wv {d:D} {v:V} (h:Rep K mg μ H d v):RepV K mg μ H d v:=by
  cases d with
  | lst ds=>
    unfold Rep at h
    obtain ⟨a,vs,e,h1,_,h2⟩:=h
    exact ⟨a,vs,e,h1,h2⟩
  | _=>exact h
theorem RepV.vt {d:D} {v:V} (h:RepV K mg μ H d v):RepW K mg μ H (vt d) v:=by
  cases d with
  | lst ds=>exact h
  | tup ds=>
    have h:Rep K mg μ H (.tup ds) v:=h
    unfold Rep at h
    obtain ⟨a,vs,e,h1,n,h2⟩:=h
    exact ⟨a,vs,e,.of h1,h2,n⟩
  | tpn ds=>
    have h:Rep K mg μ H (.tpn ds) v:=h
    unfold Rep at h
    obtain ⟨a,vs,o,e,⟨h1,_⟩,n,h2⟩:=h
    exact ⟨a,vs,e,.inr ⟨o,h1⟩,h2,n⟩
  | _=>exact h
theorem Rep.w {d:D} {v:V} (h:Rep K mg μ H d v):RepW K mg μ H d v:=by
  cases d with
  | lst ds=>exact h.wv
  | tup ds=>exact h.wv.vt
  | _=>exact h
theorem RelS.view0 (rs:RelS K mg μ H S) {d:D} {v:V} (h:Rep K mg μ H d v):RepV K mg μ H (view0 S d) v:=by
  cases d with
  | loc l=>
    show RepV K mg μ H (match S[l]? with|some (.lst xs)=>.lst xs|_=>.loc l) v
    split
    · rename_i xs e
      unfold Rep at h
      obtain ⟨a,ev,ha⟩:=h
      obtain ⟨a',h1,vs,h2,h3⟩:=rs.at_ l _ e
      rw[ha] at h1; cases h1
      exact ⟨a,vs,ev,h2,h3⟩
    · exact h.wv
  | _=>exact h.wv
theorem RelS.view (rs:RelS K mg μ H S) {d:D} {v:V} (h:Rep K mg μ H d v):RepW K mg μ H (view S d) v:=(rs.view0 h).vt
end
def rS (K:PySem.W.Frag) (mg:Str→Option Value) (f:Sto→D→D→Option D):R2:=fun x y H Q=>
  ∃μ S a b d,RelS K mg μ H S∧Rep K mg μ H a x∧Rep K mg μ H b y∧f S a b=some d∧∀H' v,Sm H H'→Rep K mg μ H' d v→Q v H'
def lv (f:D→D→Option D):Sto→D→D→Option D:=fun S a b=>f (view S a) (view S b)
def lv0 (f:D→D→Option D):Sto→D→D→Option D:=fun S a b=>f (view0 S a) (view0 S b)
abbrev rP (K:PySem.W.Frag) (mg:Str→Option Value) (f:D→D→Option D):R2:=rS K mg (lv f)
def aL (f:Sto→D→D→Option D) (ma mb:ME):ME:=fun env S=>(ma env S).bind fun a S=>(mb env S).bind fun b S=>ofO S (f S a b)
section
variable {X:Cx} {W:WX} {a b:Expr} {pos:Pos} {ma mb:ME}
theorem nT {f:Sto→D→D→Option D} {σ:L2.St} {H:Hp} {Q:VK} (h:tE X W (aL f ma mb) σ H Q):tOp (rS X.K X.mg f) (tE X W ma) (tE X W mb) σ H Q:=by
  obtain ⟨env,S,μ,rl,o⟩:=h
  refine ⟨env,S,μ,rl,(Out.bind o).mono fun x H1 ⟨μ1,S1,da,st,rs,ra,o1⟩=>?_⟩
  refine ⟨env,S1,μ1,⟨rl.env.step st,rs⟩,(Out.bind o1).mono fun y H2 ⟨μ2,S2,db,st2,rs2,rb,o2⟩=>?_⟩
  cases e:f S2 da db with
  | none=>rw[e] at o2; exact o2.elim
  | some d=>
    rw[e] at o2
    exact ⟨μ2,S2,_,_,d,rs2,Rep.step st2 _ _ ra,rb,e,fun H' v sm r=>o2 μ2 H' v (.of_sm sm) (rs2.sm sm) r⟩
theorem aS {op:Operator} {f:Sto→D→D→Option D} (ho:OpR X (binaryOp op) (rS X.K X.mg f)) (ha:PE X a (tE X W ma)) (hb:PE X b (tE X W mb)):PE X (.BinOp a op b pos) (tE X W (aL f ma mb)):=
  bf (pe_op ho ha hb) fun _ _ _ h=>nT h
theorem dC {op:CmpOp} {f:Sto→D→D→Option D} (ho:OpR X (compareOp op) (rS X.K X.mg f)) (ha:PE X a (tE X W ma)) (hb:PE X b (tE X W mb)) (hm:behindInMarks op b=false):PE X (.Compare a [op] [b] pos) (tE X W (aL f ma mb)):=
  bf (pe_cmpR ho ha hb hm) fun _ _ _ h=>nT h
/-- a computation whose value is a bool,as a test -/
def tOf (m:ME):MT:=fun env S=>(m env S).bind fun d S=>match d with
  | .bool b=>.ok b S
  | _=>.stuck
theorem t_of {m:ME} {σ:L2.St} {H:Hp} {Q:Bool→Hp→Prop} (h:tT X W (tOf m) σ H Q):tTest (tE X W m) σ H Q:=by
  obtain ⟨env,S,μ,rl,o⟩:=h
  refine ⟨env,S,μ,rl,(Out.bind o).mono fun x H1 ⟨μ1,S1,d,st,rs,r,o1⟩=>?_⟩
  cases d with
  | bool b=>unfold Rep at r; exact ⟨b,r,o1 μ1 H1 b .refl rs rfl⟩
  | _=>exact o1.elim
theorem aR {op:CmpOp} {f:Sto→D→D→Option D} (ho:OpR X (compareOp op) (rS X.K X.mg f)) (ha:PE X a (tE X W ma)) (hb:PE X b (tE X W mb)) (hm:behindInMarks op b=false):PT X (.Compare a [op] [b] pos) (tT X W (tOf (aL f ma mb))):=
  jc (pt_cmpR ho ha hb hm) fun σ H Q h=>by
    obtain h:=t_of h
    obtain ⟨env,S,μ,rl,o⟩:=h
    exact nT ⟨env,S,μ,rl,o⟩
end
def oI (g:Int→Int→Int):D→D→Option D
  | .int i,.int j=>some (.int (g i j))
  | _,_=>none
def oIC (C:Int→Int→Bool) (g:Int→Int→Int):D→D→Option D
  | .int i,.int j=>if C i j then some (.int (g i j)) else none
  | _,_=>none
def oIB (g:Int→Int→Bool):D→D→Option D
  | .int i,.int j=>some (.bool (g i j))
  | _,_=>none
theorem RepW.int {K:PySem.W.Frag} {mg:Str→Option Value} {μ:Mu} {H:Hp} {i:Int} {v:V} (h:RepW K mg μ H (.int i) v):v=.int i:=by
  have h:Rep K mg μ H (.int i) v:=h
  unfold Rep at h; exact h
theorem RepW.str {K:PySem.W.Frag} {mg:Str→Option Value} {μ:Mu} {H:Hp} {i:Str} {v:V} (h:RepW K mg μ H (.str i) v):v=.str i:=by
  have h:Rep K mg μ H (.str i) v:=h
  unfold Rep at h; exact h
theorem RepW.tup {K:PySem.W.Frag} {mg:Str→Option Value} {μ:Mu} {H:Hp} {ds:List D} {v:V} (h:RepW K mg μ H (.tup ds) v):∃a vs,v=.ref a∧Rd H a (.tup vs)∧RepAll K mg μ H ds vs∧a∉μ:=h
section
variable {X:Cx}
theorem au {K:PySem.W.Frag} {mg:Str→Option Value} {μ:Mu} {H:Hp} (i:Int):Rep K mg μ H (.int i) (.int i):=by unfold Rep; rfl
theorem bI {K:PySem.W.Frag} {mg:Str→Option Value} {μ:Mu} {H:Hp} (i:Bool):Rep K mg μ H (.bool i) (.bl i):=by unfold Rep; rfl
theorem bL {K:PySem.W.Frag} {mg:Str→Option Value} {μ:Mu} {H:Hp} (i:Str):Rep K mg μ H (.str i) (.str i):=by unfold Rep; rfl
theorem ie {K:PySem.W.Frag} {mg:Str→Option Value} {μ:Mu} {H:Hp}:Rep K mg μ H .none .non:=by unfold Rep; rfl
theorem rN {f:Value→Value→Sem Value} {r r':R2} (h:OpR X f r) (i:∀x y H Q,r' x y H Q→r x y H Q):OpR X f r':=fun pins s σ H x y v u Q I rx ry w=>h pins s σ H x y v u Q I rx ry (i _ _ _ _ w)
/-- an operator over views -/
theorem jd {f:Value→Value→Sem Value} {g:D→D→Option D} {r:R2} (h:OpR X f r)
    (i:∀μ x y H Q a b d,RepW X.K X.mg μ H a x→RepW X.K X.mg μ H b y→g a b=some d→(∀H' v,Sm H H'→Rep X.K X.mg μ H' d v→Q v H')→r x y H Q):OpR X f (rP X.K X.mg g):=
  rN h fun x y H Q ⟨μ,S,a,b,d,rs,ra,rb,e,q⟩=>i μ x y H Q _ _ d (rs.view ra) (rs.view rb) e q
theorem opI_D {f:Value→Value→Sem Value} {g:Int→Int→Int} (h:OpR X f (rI0 fun i j=>.int (g i j))):OpR X f (rP X.K X.mg (oI g)):=jd h fun μ x y H Q a b d ra rb e q=>by
  unfold oI at e
  split at e
  · cases e
    exact ⟨_,_,ra.int,rb.int,q H _ .rfl (au _)⟩
  · cases e
theorem kJ {f:Value→Value→Sem Value} {C:Int→Int→Prop} {Cb:Int→Int→Bool} {g:Int→Int→Int} (hC:∀i j,Cb i j=true→C i j) (h:OpR X f (rI C fun i j=>.int (g i j))):OpR X f (rP X.K X.mg (oIC Cb g)):=jd h fun μ x y H Q a b d ra rb e q=>by
  unfold oIC at e
  split at e
  · split at e
    · rename_i hc
      cases e
      exact ⟨_,_,ra.int,rb.int,hC _ _ hc,q H _ .rfl (au _)⟩
    · cases e
  · cases e
theorem kK {f:Value→Value→Sem Value} {g:Int→Int→Bool} (h:OpR X f (rI0 fun i j=>.bl (g i j))):OpR X f (rP X.K X.mg (oIB g)):=jd h fun μ x y H Q a b d ra rb e q=>by
  unfold oIB at e
  split at e
  · cases e
    exact ⟨_,_,ra.int,rb.int,q H _ .rfl (bI _)⟩
  · cases e
def bG (i j:Int):Bool:=(decide (-(2 ^ 64)<i)&&decide (i<2 ^ 64))||(decide (-(2 ^ 64)<j)&&decide (j<2 ^ 64))
def fT (_ j:Int):Bool:=decide (0<j)&&decide (j<1073741824)
def dW (_ j:Int):Bool:=decide (0<j)
def cPow (i j:Int):Bool:=decide (0≤j)&&decide (j≤1000000)&&decide (i.natAbs<2 ^ 64)
abbrev dSub:=oI (fun i j=>i - j)
abbrev pM:=oIC bG (fun i j=>i*j)
abbrev dDiv:=oIC fT (fun i j=>i / j)
abbrev dMod:=oIC dW (fun i j=>i % j)
abbrev dPow:=oIC cPow (fun i j=>i ^ j.toNat)
abbrev dLt:=oIB (fun i j=>decide (i<j))
abbrev dLe:=oIB (fun i j=>decide (i≤j))
abbrev dGt:=oIB (fun i j=>decide (j<i))
abbrev dGe:=oIB (fun i j=>decide (j≤i))
theorem o_sub:OpR X (binaryOp .Sub) (rP X.K X.mg dSub):=opI_D op_sub
theorem pN:OpR X (binaryOp .Mult) (rP X.K X.mg pM):=kJ (fun i j h=>by
  simp only[bG,Bool.or_eq_true,Bool.and_eq_true,decide_eq_true_eq] at h; exact h) op_mul
theorem pO:OpR X (binaryOp .FloorDiv) (rP X.K X.mg dDiv):=kJ (fun i j h=>by
  simp only[fT,Bool.and_eq_true,decide_eq_true_eq] at h; exact h) op_fdiv
theorem lK:OpR X (binaryOp .Mod) (rP X.K X.mg dMod):=kJ (C:=fun _ j=>0<j) (fun i j h=>by
  simp only[dW,decide_eq_true_eq] at h; exact h) op_mod
theorem o_pow:OpR X (binaryOp .Pow) (rP X.K X.mg dPow):=kJ (fun i j h=>by
  simp only[cPow,Bool.and_eq_true,decide_eq_true_eq] at h; exact ⟨h.1.1,h.1.2,h.2⟩) op_pow
theorem o_lt:OpR X (compareOp .Lt) (rP X.K X.mg dLt):=kK op_lt
theorem kL:OpR X (compareOp .LtE) (rP X.K X.mg dLe):=kK op_le
theorem o_gt:OpR X (compareOp .Gt) (rP X.K X.mg dGt):=kK op_gt
theorem o_ge:OpR X (compareOp .GtE) (rP X.K X.mg dGe):=kK op_ge
def bO:D→D→Option D
  | .int i,.int j=>some (.int (i+j))
  | .str x,.str y=>if x.length+y.length≤1000000 then some (.str (x++y)) else none
  | .tup xs,.tup ys=>if xs.length+ys.length≤1000000 then some (.tup (xs++ys)) else none
  | .lst xs,.lst ys=>if xs.length+ys.length≤1000000 then some (.lst (xs++ys)) else none
  | .tpn xs,.tup ys=>if xs.length+ys.length≤1000000 then some (if xs=[] then .tup ys else if ys=[] then .tpn xs else .tup (xs++ys)) else none
  | .tup xs,.tpn ys=>if xs.length+ys.length≤1000000 then some (if xs=[] then .tpn ys else .tup (xs++ys)) else none
  | .tpn xs,.tpn ys=>if xs.length+ys.length≤1000000 then some (if xs=[] then .tpn ys else if ys=[] then .tpn xs else .tup (xs++ys)) else none
  | _,_=>none
theorem bh {n:Nat} (h:n≤1000000):n≤sizeLine:=by rw[sizeLine_eq]; omega
end
end DL
namespace DL
open PySem PySem.Spec PyProof.Rows L2
theorem bF {K:PySem.W.Frag} {mg:Str→Option Value} {μ:Mu} {H:Hp} {S:Sto} (rs:RelS K mg μ H S) {p:Addr} (hp:H p=none) {ds:List D} {vs:List V} (l:RepAll K mg μ H ds vs) :
    Rep K mg μ (upd H p (.tup vs)) (.tup ds) (.ref p):=by
  unfold Rep
  exact ⟨p,vs,rfl,upd_same,rs.fresh hp,RepAll.step (.of_sm (.upd hp)) _ _ l⟩
theorem bw {K:PySem.W.Frag} {mg:Str→Option Value} {μ:Mu} {H:Hp} {S:Sto} (rs:RelS K mg μ H S) {p:Addr} (hp:H p=none) {ds:List D} {vs:List V} (l:RepAll K mg μ H ds vs) :
    Rep K mg μ (upd H p (.lst vs)) (.lst ds) (.ref p):=by
  unfold Rep
  exact ⟨p,vs,rfl,upd_same,rs.fresh hp,RepAll.step (.of_sm (.upd hp)) _ _ l⟩
section
variable {X:Cx}
theorem RepV.int {K:PySem.W.Frag} {mg:Str→Option Value} {μ:Mu} {H:Hp} {i:Int} {v:V} (h:RepV K mg μ H (.int i) v):v=.int i:=RepW.int h
theorem RepV.str {K:PySem.W.Frag} {mg:Str→Option Value} {μ:Mu} {H:Hp} {i:Str} {v:V} (h:RepV K mg μ H (.str i) v):v=.str i:=RepW.str h
theorem f6 {pins:List (Addr × Obj)} {s:Shared} {σ:L2.St} {H:Hp} {x y:V} {v u:Value} {Q:VK} {μ:Mu} {S:Sto} {a b d:D} {xs ys:List D} (I:L2.Inv X pins σ H s) (rx:L2.RelV x v) (ry:L2.RelV y u) (rs:RelS X.K X.mg μ H S)
    (ra:RepV X.K X.mg μ H a x) (rb:RepV X.K X.mg μ H b y) (va:vt a=.tup xs) (vb:vt b=.tup ys) (hz:xs.length+ys.length≤1000000)
    (h1:xs=[]→d=b) (h2:xs≠[]→ys=[]→d=a) (h3:xs≠[]→ys≠[]→d=.tup (xs++ys)) (q:∀H' v,Sm H H'→Rep X.K X.mg μ H' d v→Q v H') :
    wpAny (model X.prog X.w) X.A (binaryOp .Add v u) (EP X pins σ Q) X.xe s:=by
  have wa:=ra.vt
  have wb:=rb.vt
  rw[va] at wa
  rw[vb] at wb
  have ra':Rep X.K X.mg μ H a x:=by
    cases a with
    | tup z=>exact ra
    | tpn z=>exact ra
    | _=>cases va
  have rb':Rep X.K X.mg μ H b y:=by
    cases b with
    | tup z=>exact rb
    | tpn z=>exact rb
    | _=>cases vb
  obtain ⟨p,vs,rfl,ha,la,sa⟩:=wa
  obtain ⟨p',us,rfl,hb,lb,sb⟩:=wb
  refine op_catA pins s σ H _ _ v u Q I rx ry ⟨p,p',vs,us,rfl,rfl,.inl ha,.inl hb,?_,fun h=>q H _ .rfl ?_,fun h0 h=>q H _ .rfl ?_,fun h0 h p hp=>q _ _ (.upd hp) ?_⟩
  · rw[←la.length,←lb.length]; exact bh hz
  · subst h
    have:xs=[]:=List.length_eq_zero_iff.mp la.length
    rw[h1 this]; exact rb'
  · subst h
    have e2:ys=[]:=List.length_eq_zero_iff.mp lb.length
    have e1:xs≠[]:=fun z=>h0 (by subst z; exact List.length_eq_zero_iff.mp la.length.symm)
    rw[h2 e1 e2]; exact ra'
  · have e1:xs≠[]:=fun z=>h0 (by subst z; exact List.length_eq_zero_iff.mp la.length.symm)
    have e2:ys≠[]:=fun z=>h (by subst z; exact List.length_eq_zero_iff.mp lb.length.symm)
    rw[h3 e1 e2]
    exact bF rs hp (la.append lb)
theorem bP:OpR X (binaryOp .Add) (rS X.K X.mg (lv0 bO)):=by
  intro pins s σ H x y v u Q I rx ry ⟨μ,S,a,b,d,rs,ra,rb,e,q⟩
  have ra:=rs.view0 ra
  have rb:=rs.view0 rb
  simp only[lv0] at e
  generalize view0 S a=a at *
  generalize view0 S b=b at *
  unfold bO at e
  split at e
  · cases e
    exact op_add pins s σ H x y v u Q I rx ry ⟨_,_,ra.int,rb.int,q H _ .rfl (au _)⟩
  · split at e
    · rename_i hz
      cases e
      exact op_add_str pins s σ H x y v u Q I rx ry ⟨_,_,ra.str,rb.str,bh hz,q H _ .rfl (bL _)⟩
    · cases e
  · split at e
    · rename_i xs ys hz
      cases e
      exact f6 I rx ry rs ra rb rfl rfl hz (fun h=>by subst h; rfl) (fun _ h=>by subst h; rw[List.append_nil]) (fun _ _=>rfl) q
    · cases e
  · split at e
    · rename_i xs ys hz
      cases e
      obtain ⟨a,vs,ea,ha,la⟩:=ra
      obtain ⟨b,us,eb,hb,lb⟩:=rb
      refine op_cat pins s σ H x y v u Q I rx ry ⟨a,b,vs,us,ea,eb,ha,hb,by rw[←la.length,←lb.length]; exact bh hz,fun p hp=>q _ _ (.upd hp) ?_⟩
      exact bw rs hp (la.append lb)
    · cases e
  · split at e
    · rename_i xs ys hz
      cases e
      exact f6 I rx ry rs ra rb rfl rfl hz (fun h=>by rw[if_pos h]) (fun h h'=>by rw[if_neg h,if_pos h']) (fun h h'=>by rw[if_neg h,if_neg h']) q
    · cases e
  · split at e
    · rename_i xs ys hz
      cases e
      exact f6 I rx ry rs ra rb rfl rfl hz (fun h=>by rw[if_pos h]) (fun h h'=>by rw[if_neg h,h',List.append_nil]) (fun h h'=>by rw[if_neg h]) q
    · cases e
  · split at e
    · rename_i xs ys hz
      cases e
      exact f6 I rx ry rs ra rb rfl rfl hz (fun h=>by rw[if_pos h]) (fun h h'=>by rw[if_neg h,if_pos h']) (fun h h'=>by rw[if_neg h,if_neg h']) q
    · cases e
  · cases e
end
def dok:Nat→D→Bool
  | _,.none=>true
  | _,.bool _=>true
  | _,.int _=>true
  | _,.str x=>PyData.strOk x
  | n+1,.tup xs=>xs.all (dok n)
  | n+1,.lst xs=>xs.all (dok n)
  | n+1,.tpn xs=>xs.all (dok n)
  | _,_=>false
mutual
def pdF:D→PyData
  | .none=>.none
  | .bool b=>.bool b
  | .int i=>.int i
  | .str x=>.str x
  | .tup xs=>.tuple (pdFs xs)
  | .lst xs=>.list (pdFs xs)
  | .tpn xs=>.tuple (pdFs xs)
  | .ro _=>.none
  | .ty _=>.none
  | .loc _=>.none
  | .glo _=>.none
  | .adr _=>.none
  | .clo _ _ _ _=>.none
  | .exn _ _ _ _=>.none
def pdFs:List D→List PyData
  | []=>[]
  | d::ds=>pdF d::pdFs ds
end
theorem iR:∀(ds:List D) (n:Nat),(∀d∈ds,(pdF d).canLay0=true∧(pdF d).depth≤n)→PyData.canLayAll0 (pdFs ds)=true∧PyData.depthAll (pdFs ds)≤n
  | [],n,_=>⟨by unfold pdFs PyData.canLayAll0; rfl,by unfold pdFs PyData.depthAll; omega⟩
  | d::ds,n,h=>by
    obtain ⟨a,b⟩:=h d List.mem_cons_self
    obtain ⟨c,e⟩:=iR ds n fun x hx=>h x (List.mem_cons_of_mem _ hx)
    unfold pdFs PyData.canLayAll0 PyData.depthAll
    exact ⟨by rw[a,c]; rfl,by omega⟩
theorem eL:∀(n:Nat) (d:D),dok n d=true→(pdF d).canLay0=true∧(pdF d).depth≤n
  | n,.none,_=>by unfold pdF PyData.canLay0 PyData.depth; exact ⟨rfl,Nat.zero_le _⟩
  | n,.bool _,_=>by unfold pdF PyData.canLay0 PyData.depth; exact ⟨rfl,Nat.zero_le _⟩
  | n,.int _,_=>by unfold pdF PyData.canLay0 PyData.depth; exact ⟨rfl,Nat.zero_le _⟩
  | n,.str x,h=>by
    have h:PyData.strOk x=true:=by cases n<;>exact h
    unfold pdF PyData.canLay0 PyData.depth; exact ⟨h,Nat.zero_le _⟩
  | 0,.tup _,h=>by cases h
  | 0,.lst _,h=>by cases h
  | 0,.tpn _,h=>by cases h
  | n+1,.tpn xs,h=>by
    have h:xs.all (dok n)=true:=h
    have q:=iR xs n fun d hd=>eL n d (List.all_eq_true.mp h d hd)
    unfold pdF PyData.canLay0 PyData.depth
    exact ⟨q.1,by omega⟩
  | n+1,.tup xs,h=>by
    have h:xs.all (dok n)=true:=h
    have q:=iR xs n fun d hd=>eL n d (List.all_eq_true.mp h d hd)
    unfold pdF PyData.canLay0 PyData.depth
    exact ⟨q.1,by omega⟩
  | n+1,.lst xs,h=>by
    have h:xs.all (dok n)=true:=h
    have q:=iR xs n fun d hd=>eL n d (List.all_eq_true.mp h d hd)
    unfold pdF PyData.canLay0 PyData.depth
    exact ⟨q.1,by omega⟩
  | n,.ro _,h=>by cases n<;>cases h
  | n,.ty _,h=>by cases n<;>cases h
  | n,.loc _,h=>by cases n<;>cases h
  | n,.glo _,h=>by cases n<;>cases h
  | n,.adr _,h=>by cases n<;>cases h
  | n,.clo _ _ _ _,h=>by cases n<;>cases h
  | n,.exn _ _ _ _,h=>by cases n<;>cases h
theorem cG {d:D} (h:dok 60 d=true):SeqAt.shaped (pdF d)=true:=by
  obtain ⟨a,b⟩:=eL 60 d h
  unfold SeqAt.shaped
  rw[a,Bool.true_and]
  exact decide_eq_true (by omega)
section
variable {K:PySem.W.Frag} {mg:Str→Option Value} {μ:Mu} {H:Hp}
mutual
theorem e9:∀(n:Nat) (d:D) (v:V),dok n d=true→RepW K mg μ H d v→Dp K H v (pdF d)
  | n,.none,v,_,r=>by
    have r:Rep K mg μ H .none v:=r
    unfold Rep at r; subst r; unfold pdF; exact .non
  | n,.bool _,v,_,r=>by
    have r:Rep K mg μ H (.bool _) v:=r
    unfold Rep at r; subst r; unfold pdF; exact .bl _
  | n,.int _,v,_,r=>by rw[r.int]; unfold pdF; exact .int _
  | n,.str _,v,_,r=>by rw[r.str]; unfold pdF; exact .str _
  | 0,.tup _,_,h,_=>by cases h
  | 0,.lst _,_,h,_=>by cases h
  | n+1,.tup xs,v,h,r=>by
    obtain ⟨a,vs,e,h1,h2,_⟩:=r.tup
    subst e; unfold pdF
    exact .tup (.inl h1) (dps_of n xs vs h h2)
  | 0,.tpn _,_,h,_=>by cases h
  | n+1,.tpn xs,v,h,r=>by
    have r:Rep K mg μ H (.tpn xs) v:=r
    unfold Rep at r
    obtain ⟨a,vs,o,e,⟨h1,_⟩,nn,h2⟩:=r
    subst e; unfold pdF
    exact .tup (.inl (.inr ⟨o,h1⟩)) (dps_of n xs vs h h2)
  | n+1,.lst xs,v,h,r=>by
    obtain ⟨a,vs,e,h1,h2⟩:=r
    subst e; unfold pdF
    exact .lst (.of h1) (dps_of n xs vs h h2)
  | n,.ro _,_,h,_=>by cases n<;>cases h
  | n,.ty _,_,h,_=>by cases n<;>cases h
  | n,.loc _,_,h,_=>by cases n<;>cases h
  | n,.glo _,_,h,_=>by cases n<;>cases h
  | n,.adr _,_,h,_=>by cases n<;>cases h
  | n,.clo _ _ _ _,_,h,_=>by cases n<;>cases h
  | n,.exn _ _ _ _,_,h,_=>by cases n<;>cases h
theorem dps_of:∀(n:Nat) (ds:List D) (vs:List V),ds.all (dok n)=true→RepAll K mg μ H ds vs→DpAll K H vs (pdFs ds)
  | n,[],vs,_,r=>by unfold RepAll at r; subst r; unfold pdFs; exact .nil
  | n,d::ds,vs,h,r=>by
    unfold RepAll at r
    obtain ⟨v,q,rfl,h1,h2⟩:=r
    rw[List.all_cons,Bool.and_eq_true] at h
    unfold pdFs
    exact .cons (e9 n d v h.1 h1.w) (dps_of n ds q h.2 h2)
end
end
/-- == -/
def peq (a b:D):Bool:=PyData.eqv (pdF a) (pdF b)
def dEq:D→D→Option D:=fun a b=>if dok 60 a&&dok 60 b then some (.bool (peq a b)) else none
def dNe:D→D→Option D:=fun a b=>if dok 60 a&&dok 60 b then some (.bool (!peq a b)) else none
section
variable {X:Cx}
theorem dD (hu:X.A.units+64<cLine):OpR X (compareOp .Eq) (rP X.K X.mg dEq):=jd (op_eqD hu) fun μ x y H Q a b d ra rb e q=>by
  unfold dEq at e
  split at e
  · rename_i h
    cases e
    rw[Bool.and_eq_true] at h
    exact ⟨_,_,e9 60 a x h.1 ra,e9 60 b y h.2 rb,cG h.1,cG h.2,q H _ .rfl (bI _)⟩
  · cases e
theorem fU (hu:X.A.units+64<cLine):OpR X (compareOp .NotEq) (rP X.K X.mg dNe):=jd (op_neD hu) fun μ x y H Q a b d ra rb e q=>by
  unfold dNe at e
  split at e
  · rename_i h
    cases e
    rw[Bool.and_eq_true] at h
    exact ⟨_,_,e9 60 a x h.1 ra,e9 60 b y h.2 rb,cG h.1,cG h.2,q H _ .rfl (bI _)⟩
  · cases e
/-- is None -/
def isN:D→Bool
  | .none=>true
  | _=>false
def dIsN:D→D→Option D
  | a,.none=>some (.bool (isN a))
  | _,_=>none
def dIsntN:D→D→Option D
  | a,.none=>some (.bool (!isN a))
  | _,_=>none
theorem pP {K:PySem.W.Frag} {mg:Str→Option Value} {μ:Mu} {H:Hp} {a:D} {x:V} (r:RepW K mg μ H a x):decide (x=V.non)=isN a:=by
  cases a with
  | none=>have r:Rep K mg μ H .none x:=r; unfold Rep at r; subst r; rfl
  | bool b=>have r:Rep K mg μ H (.bool b) x:=r; unfold Rep at r; subst r; rfl
  | int i=>rw[r.int]; rfl
  | str i=>rw[r.str]; rfl
  | ty n=>have r:Rep K mg μ H (.ty n) x:=r; unfold Rep at r; subst r; rfl
  | tup ds=>obtain ⟨a,vs,e,_⟩:=r.tup; subst e; rfl
  | lst ds=>obtain ⟨a,vs,e,_⟩:=r; subst e; rfl
  | ro ds=>have r:Rep K mg μ H (.ro ds) x:=r; unfold Rep at r; obtain ⟨a,vs,e,_⟩:=r; subst e; rfl
  | loc l=>have r:Rep K mg μ H (.loc l) x:=r; unfold Rep at r; obtain ⟨a,e,_⟩:=r; subst e; rfl
  | glo l=>have r:Rep K mg μ H (.glo l) x:=r; unfold Rep at r; obtain ⟨a,e,_⟩:=r; subst e; rfl
  | adr l=>have r:Rep K mg μ H (.adr l) x:=r; unfold Rep at r; subst r; rfl
  | clo k b q F=>have r:Rep K mg μ H (.clo k b q F) x:=r; unfold Rep at r; obtain ⟨a,_,_,_,_,e,_⟩:=r; subst e; rfl
  | exn a dd ns ds=>have r:Rep K mg μ H (.exn a dd ns ds) x:=r; unfold Rep at r; obtain ⟨vs,e,_⟩:=r; subst e; rfl
  | tpn ds=>have r:Rep K mg μ H (.tpn ds) x:=r; unfold Rep at r; obtain ⟨a,vs,o,e,_⟩:=r; subst e; rfl
theorem o_is:OpR X (compareOp .Is) (rP X.K X.mg dIsN):=jd op_isN fun μ x y H Q a b d ra rb e q=>by
  unfold dIsN at e
  split at e
  · cases e
    have rb:Rep X.K X.mg μ H .none y:=rb
    unfold Rep at rb
    refine ⟨rb,?_⟩
    rw[pP ra]
    exact q H _ .rfl (bI _)
  · cases e
end
def fA:D→Option Key
  | .int i=>some (.inl i)
  | .str x=>some (.inr x)
  | _=>none
def fh:List D→Option (List Key)
  | []=>some []
  | d::ds=>match fA d,fh ds with
    | some k,some ks=>some (k::ks)
    | _,_=>none
def fB:D→Option (List Key)
  | .tup ds=>fh ds
  | _=>none
theorem ig {d:D} {k:Key} (h:fA d=some k):d=cV k:=by
  cases d<;>simp[fA] at h<;>subst h<;>rfl
theorem g8:∀ {ds:List D} {ks:List Key},fh ds=some ks→ds=ks.map cV
  | [],ks,h=>by simp[fh] at h; subst h; rfl
  | d::ds,ks,h=>by
    unfold fh at h
    split at h
    · rename_i k ks' h1 h2
      cases h
      rw[ig h1,g8 h2]; rfl
    · cases h
theorem lL {d:D} {k:List Key} (h:fB d=some k):d=di k:=by
  cases d<;>simp[fB] at h
  rw[g8 h]; rfl
theorem fi (k:Key):fA (cV k)=some k:=by cases k<;>rfl
theorem ii:∀ks:List Key,fh (ks.map cV)=some ks
  | []=>rfl
  | k::ks=>by
    show (match fA (cV k),fh (ks.map cV) with|some k,some ks=>some (k::ks)|_,_=>none)=_
    rw[fi,ii ks]
theorem f7 (k:List Key):fB (di k)=some k:=ii k
end DL
namespace DL
open PySem PySem.Spec PyProof.Rows L2
def b8 (t:Bool) (k:D):Bool:=if t then (fB k).isSome else (fA k).isSome
/-- two keys alike -/
def keq:Bool→D→D→Bool
  | false,a,b=>decide (fA a=fA b)
  | true,a,b=>decide (fB a=fB b)
def dR (t:Bool) (kvs:List (D × D)) (k:D):Option D:=(kvs.find? fun p=>keq t p.1 k).map (·.2)
section
variable {K:PySem.W.Frag} {mg:Str→Option Value} {μ:Mu} {H:Hp}
theorem f8 {k:Key} {y:V} (h:Rep K mg μ H (cV k) y):y=kV k:=by
  cases k<;>(unfold cV Rep at h; exact h)
theorem lM:∀ {ks:List Key} {ys:List V},RepAll K mg μ H (ks.map cV) ys→ys=ks.map kV
  | [],ys,h=>by
    have h:RepAll K mg μ H [] ys:=h
    unfold RepAll at h; exact h
  | k::ks,ys,h=>by
    have h:RepAll K mg μ H (cV k::ks.map cV) ys:=h
    unfold RepAll at h
    obtain ⟨v,r,rfl,h1,h2⟩:=h
    rw[f8 h1,lM h2]; rfl
theorem ij {k:List Key} {y:V} (h:Rep K mg μ H (di k) y):∃b,y=.ref b∧H b=some (.tup (k.map kV)):=by
  unfold di Rep at h
  obtain ⟨a,vs,e,h1,_,h2⟩:=h
  rw[lM h2] at h1
  exact ⟨a,e,h1⟩
/-- what is looked up in rows and in values alike -/
theorem fC {κ:Type} [DecidableEq κ] {f:κ→D} {g:D→D→Bool} (hg:∀a b,g (f a) (f b)=decide (a=b)) (k:κ):∀ {kvs:List (D × D)} {ks:List κ} {vs:List V},kvs.map (·.1)=ks.map f→RepAll K mg μ H (kvs.map (·.2)) vs→
    match (kvs.find? fun p=>g p.1 (f k)).map (·.2) with
    | some d=>∃v,valV (ks.zip vs) k=some v∧Rep K mg μ H d v
    | none=>valV (ks.zip vs) k=none
  | [],ks,vs,h,_=>by
    have:ks=[]:=by cases ks with|nil=>rfl|cons a b=>cases h
    subst this; rfl
  | (a,d)::kvs,[],vs,h,_=>by cases h
  | (a,d)::kvs,k'::ks,vs,h,r=>by
    have r:RepAll K mg μ H (d::kvs.map (·.2)) vs:=r
    unfold RepAll at r
    obtain ⟨v,q,rfl,r1,r2⟩:=r
    injection h with h1 h2
    have h1:a=f k':=h1
    subst h1
    have ih:=fC hg k h2 r2
    rw[List.find?_cons]
    by_cases e:k'=k
    · subst e
      have:g (f k') (f k')=true:=by rw[hg]; simp
      simp only[this]
      exact ⟨v,by rw[List.zip_cons_cons]; exact valV_pos rfl,r1⟩
    · have:g (f k') (f k)=false:=by rw[hg]; simp[e]
      simp only[this]
      rw[List.zip_cons_cons]
      rw[valV_neg e]
      exact ih
theorem nU (a b:Key):keq false (cV a) (cV b)=decide (a=b):=by
  show decide (fA (cV a)=fA (cV b))=_
  rw[fi,fi]
  by_cases h:a=b
  · subst h; simp
  · simp[h]
theorem pQ (a b:List Key):keq true (di a) (di b)=decide (a=b):=by
  show decide (fB (di a)=fB (di b))=_
  rw[f7,f7]
  by_cases h:a=b
  · subst h; simp
  · simp[h]
theorem nV {k:D} (h:b8 false k=true):∃kk,k=cV kk:=by
  unfold b8 at h
  obtain ⟨kk,e⟩:=Option.isSome_iff_exists.mp h
  exact ⟨kk,ig e⟩
theorem pR {k:D} (h:b8 true k=true):∃kk,k=di kk:=by
  unfold b8 at h
  obtain ⟨kk,e⟩:=Option.isSome_iff_exists.mp h
  exact ⟨kk,lL e⟩
/-- what a dict holds,locked or not -/
def bW:Option O→Option (Bool × List (D × D))
  | some (.dct t kvs)=>some (t,kvs)
  | some (.fdc t kvs)=>some (t,kvs)
  | _=>none
theorem fj {x:Option O} {t:Bool} {kvs:List (D × D)} (h:bW x=some (t,kvs)):x=some (.dct t kvs)∨x=some (.fdc t kvs):=by
  unfold bW at h
  split at h
  · cases h; exact .inl rfl
  · cases h; exact .inr rfl
  · cases h
theorem rO {t:Bool} {kvs:List (D × D)} {a:Addr} {k:D} {y:V} (h:RepO K mg μ H (.dct t kvs) a) (hk:b8 t k=true) (r:Rep K mg μ H k y) :
    ∃o,DGet H a y o∧match dR t kvs k with
      | some d=>∃v,o=some v∧Rep K mg μ H d v
      | none=>o=none:=by
  cases t with
  | false=>
    obtain ⟨vs,ks,⟨e,q⟩,rs⟩:=h
    obtain ⟨kk,rfl⟩:=nV hk
    rw[f8 r]
    exact ⟨_,.k e,fC nU kk q rs⟩
  | true=>
    obtain ⟨vs,ks,⟨e,q⟩,rs⟩:=h
    obtain ⟨kk,rfl⟩:=pR hk
    obtain ⟨b,rfl,hb⟩:=ij r
    exact ⟨_,.t e hb,fC pQ kk q rs⟩
theorem pS {t:Bool} {kvs:List (D × D)} {a:Addr} {k:D} {y:V} (h:RepO K mg μ H (.fdc t kvs) a) (hk:b8 t k=true) (r:Rep K mg μ H k y) :
    ∃o,DGet H a y o∧match dR t kvs k with
      | some d=>∃v,o=some v∧Rep K mg μ H d v
      | none=>o=none:=by
  cases t with
  | false=>
    obtain ⟨vs,ks,⟨⟨od,e⟩,q⟩,rs⟩:=h
    obtain ⟨kk,rfl⟩:=nV hk
    rw[f8 r]
    exact ⟨_,.inl ⟨_,kk,.inr ⟨od,e⟩,rfl,rfl⟩,fC nU kk q rs⟩
  | true=>
    obtain ⟨vs,ks,⟨⟨od,e⟩,q⟩,rs⟩:=h
    obtain ⟨kk,rfl⟩:=pR hk
    obtain ⟨b,rfl,hb⟩:=ij r
    exact ⟨_,.inr ⟨_,kk,b,.inr ⟨od,e⟩,rfl,hb,rfl⟩,fC pQ kk q rs⟩
theorem ik {S:Sto} {l:Nat} {t:Bool} {kvs:List (D × D)} {a:Addr} {k:D} {y:V} (rs:RelS K mg μ H S) (hμ:μ.l[l]?=some a) (es:bW S[l]?=some (t,kvs)) (hk:b8 t k=true) (r:Rep K mg μ H k y) :
    ∃o,DGet H a y o∧match dR t kvs k with
      | some d=>∃v,o=some v∧Rep K mg μ H d v
      | none=>o=none:=by
  rcases fj es with es|es
  · obtain ⟨ad',h1,ro⟩:=rs.at_ l _ es
    rw[hμ] at h1; cases h1
    exact rO ro hk r
  · obtain ⟨ad',h1,ro⟩:=rs.at_ l _ es
    rw[hμ] at h1; cases h1
    exact pS ro hk r
end
/-- whether a is in b -/
def dIn (S:Sto) (a b:D):Option Bool:=match view S b with
  | .lst xs=>if dok 60 a&&dok 60 (.lst xs) then some (xs.any fun z=>peq z a) else none
  | .tup xs=>if dok 60 a&&dok 60 (.tup xs) then some (xs.any fun z=>peq z a) else match view0 S a with
    | .lst ys=>if dok 60 (.lst ys)&&dok 60 (.tup xs) then some (xs.any fun z=>peq z (.lst ys)) else none
    | _=>none
  | .str z=>match a with
    | .str x=>if x.cps.size=1 then some (decide (x.cps.getD 0 0∈z.cps.toList)) else none
    | _=>none
  | .loc l=>match bW S[l]? with
    | some (t,kvs)=>if b8 t a then some (dR t kvs a).isSome else none
    | none=>none
  | _=>none
def fIn:Sto→D→D→Option D:=fun S a b=>(dIn S a b).map .bool
def fk:Sto→D→D→Option D:=fun S a b=>(dIn S a b).map fun c=>.bool (!c)
theorem lN {x:Str} (h:x.cps.size=1):x=⟨#[x.cps.getD 0 0]⟩:=by
  obtain ⟨⟨l⟩⟩:=x
  match l,h with
  | [c],_=>rfl
theorem fm (a:D):∀xs:List D,((pdFs xs).any fun z=>PyData.eqv z (pdF a))=xs.any fun z=>peq z a
  | []=>by unfold pdFs; rfl
  | x::xs=>by unfold pdFs; rw[List.any_cons,List.any_cons,fm a xs]; rfl
section
variable {X:Cx}
theorem nW (hu:X.A.units+65<cLine) {pins:List (Addr × Obj)} {s:Shared} {σ:L2.St} {H:Hp} {x y:V} {v u:Value} {Q:Bool→Hp→Prop} {μ:Mu} {S:Sto} {a b:D} {c:Bool} (I:L2.Inv X pins σ H s) (rx:L2.RelV x v) (ry:L2.RelV y u)
    (rs:RelS X.K X.mg μ H S) (ra:Rep X.K X.mg μ H a x) (rb:Rep X.K X.mg μ H b y) (e:dIn S a b=some c) (q:Q c H) (neg:Bool) :
    wpAny (model X.prog X.w) X.A (compareOp (if neg then .NotIn else .In) v u) (fun r s'=>∃H',L2.Inv X pins σ H' s'∧r=.bool (if neg then !c else c)∧Q c H') X.xe s:=by
  unfold dIn at e
  have rw0:=rs.view rb
  split at e
  · rename_i xs ev
    rw[ev] at rw0
    split at e
    · rename_i h
      rw[Bool.and_eq_true] at h
      cases e
      have dy:=e9 60 _ y h.2 rw0
      have dx:=e9 60 a x h.1 ra.w
      obtain ⟨as,r1⟩:=Dp.reads I _ x v dx rx
      obtain ⟨bs,r2⟩:=Dp.reads I _ y u dy ry
      unfold pdF at r2
      have hl:=(eL 60 _ h.2).1
      unfold pdF at hl
      have sd:=cG h.1
      cases neg
      · exact SeqAt.in_list_reads r2 r1 hl (SeqAt.canLay_of_shaped sd) (room_in_shaped sd hu) ⟨H,I,by rw[fm]; rfl,q⟩
      · exact SeqAt.notIn_list_reads r2 r1 hl (SeqAt.canLay_of_shaped sd) (room_in_shaped sd hu) ⟨H,I,by rw[fm]; rfl,q⟩
    · cases e
  · rename_i xs ev
    rw[ev] at rw0
    split at e
    · rename_i h
      rw[Bool.and_eq_true] at h
      cases e
      have dy:=e9 60 _ y h.2 rw0
      have dx:=e9 60 a x h.1 ra.w
      obtain ⟨as,r1⟩:=Dp.reads I _ x v dx rx
      obtain ⟨bs,r2⟩:=Dp.reads I _ y u dy ry
      unfold pdF at r2
      have hl:=(eL 60 _ h.2).1
      unfold pdF at hl
      have sd:=cG h.1
      cases neg
      · exact SeqAt.in_tuple_reads r2 r1 hl (SeqAt.canLay_of_shaped sd) (room_in_shaped sd hu) ⟨H,I,by rw[fm]; rfl,q⟩
      · exact SeqAt.notIn_tuple_reads r2 r1 hl (SeqAt.canLay_of_shaped sd) (room_in_shaped sd hu) ⟨H,I,by rw[fm]; rfl,q⟩
    · have ra0:=rs.view0 ra
      split at e
      · rename_i ys eva
        rw[eva] at ra0
        split at e
        · rename_i h
          rw[Bool.and_eq_true] at h
          cases e
          have dy:=e9 60 _ y h.2 rw0
          have dx:=e9 60 (.lst ys) x h.1 (RepV.vt ra0)
          obtain ⟨as,r1⟩:=Dp.reads I _ x v dx rx
          obtain ⟨bs,r2⟩:=Dp.reads I _ y u dy ry
          unfold pdF at r2
          have hl:=(eL 60 _ h.2).1
          unfold pdF at hl
          have sd:=cG h.1
          cases neg
          · exact SeqAt.in_tuple_reads r2 r1 hl (SeqAt.canLay_of_shaped sd) (room_in_shaped sd hu) ⟨H,I,by rw[fm]; rfl,q⟩
          · exact SeqAt.notIn_tuple_reads r2 r1 hl (SeqAt.canLay_of_shaped sd) (room_in_shaped sd hu) ⟨H,I,by rw[fm]; rfl,q⟩
        · cases e
      · cases e
  · rename_i z ev
    rw[ev] at rw0
    split at e
    · rename_i x'
      split at e
      · rename_i h
        cases e
        have ex:x=.str x':=ra.w.str
        have ey:=rw0.str
        rw[lN h] at ex
        cases neg
        · refine thn (op_in_sign pins s σ H x y v u (fun w H'=>w=.bl (decide (x'.cps.getD 0 0∈z.cps.toList))∧H'=H) I rx ry ⟨_,z,ex,ey,rfl,rfl⟩) fun r s' ⟨w,H',I',rr,ew,eH⟩=>?_
          subst ew eH
          exact ⟨_,I',rr,q⟩
        · refine thn (op_notIn_sign pins s σ H x y v u (fun w H'=>w=.bl (!decide (x'.cps.getD 0 0∈z.cps.toList))∧H'=H) I rx ry ⟨_,z,ex,ey,rfl,rfl⟩) fun r s' ⟨w,H',I',rr,ew,eH⟩=>?_
          subst ew eH
          exact ⟨_,I',rr,q⟩
      · cases e
    · cases e
  · rename_i l ev
    rw[ev] at rw0
    have rw1:Rep X.K X.mg μ H (.loc l) y:=rw0
    unfold Rep at rw1
    obtain ⟨ad,rfl,hμ⟩:=rw1
    split at e
    · rename_i t kvs es
      split at e
      · rename_i hk
        cases e
        obtain ⟨o,g,m⟩:=ik rs hμ es hk ra
        obtain rfl:u=Value.ref ad:=ry
        have ho:o.isSome=(dR t kvs a).isSome:=by
          cases el:dR t kvs a with
          | some d=>rw[el] at m; obtain ⟨v',e',_⟩:=m; rw[e']; rfl
          | none=>rw[el] at m; rw[show o=none from m]; rfl
        cases neg
        · exact d_in (by omega) I g rx fun s' I'=>⟨H,I',by rw[ho]; rfl,q⟩
        · exact d_notIn (by omega) I g rx fun s' I'=>⟨H,I',by rw[ho]; rfl,q⟩
      · cases e
    · cases e
  · cases e
theorem kM (hu:X.A.units+65<cLine):OpR X (compareOp .In) (rS X.K X.mg fIn):=by
  intro pins s σ H x y v u Q I rx ry ⟨μ,S,a,b,d,rs,ra,rb,e,q⟩
  unfold fIn at e
  obtain ⟨c,e1,e2⟩:=Option.map_eq_some_iff.mp e
  subst e2
  exact thn (nW hu (Q:=fun c' H'=>c'=c∧H'=H) I rx ry rs ra rb e1 ⟨rfl,rfl⟩ false) fun r s' ⟨H',I',er,_,eH⟩=>by
    subst er eH
    exact ⟨.bl c,_,I',rfl,q _ _ .rfl (bI _)⟩
theorem nX (hu:X.A.units+65<cLine):OpR X (compareOp .NotIn) (rS X.K X.mg fk):=by
  intro pins s σ H x y v u Q I rx ry ⟨μ,S,a,b,d,rs,ra,rb,e,q⟩
  unfold fk at e
  obtain ⟨c,e1,e2⟩:=Option.map_eq_some_iff.mp e
  subst e2
  exact thn (nW hu (Q:=fun c' H'=>c'=c∧H'=H) I rx ry rs ra rb e1 ⟨rfl,rfl⟩ true) fun r s' ⟨H',I',er,_,eH⟩=>by
    subst er eH
    exact ⟨.bl (!c),_,I',rfl,q _ _ .rfl (bI _)⟩
end
def fIx (S:Sto) (a k:D):Option D:=match view S a with
  | .lst xs=>match k with
    | .int i=>atI xs i
    | _=>none
  | .tup xs=>match k with
    | .int i=>atI xs i
    | _=>none
  | .ro xs=>match k with
    | .int i=>atI xs i
    | _=>none
  | .str z=>match k with
    | .int i=>if z.length≤1000000 then (atI z.cps.toList i).map fun c=>.str ⟨#[c]⟩ else none
    | _=>none
  | .loc l=>match bW S[l]? with
    | some (t,kvs)=>if b8 t k then dR t kvs k else none
    | none=>none
  | _=>none
theorem RepAll.atI {K:PySem.W.Frag} {mg:Str→Option Value} {μ:Mu} {H:Hp} {xs:List D} {vs:List V} {i:Int} {d:D} (r:RepAll K mg μ H xs vs) (h:L2.atI xs i=some d):∃v,L2.atI vs i=some v∧Rep K mg μ H d v:=by
  unfold L2.atI at *
  rw[←r.length]
  obtain ⟨j,h1,h2⟩:=Option.bind_eq_some_iff.mp h
  obtain ⟨v,e1,e2⟩:=r.get h2
  exact ⟨v,by rw[h1]; exact e1,e2⟩
section
variable {X:Cx} {W:WX} {a b:Expr} {pos:Pos} {ma mb:ME}
theorem ix_any (hu:X.A.units+1<cLine):IxR X (rS X.K X.mg fIx):=by
  intro value slice pins s σ H x y v u Q I rx ry ⟨μ,S,a,k,d,rs,ra,rb,e,q⟩ hs
  unfold fIx at e
  have rw0:=rs.view ra
  split at e
  · rename_i xs ev
    rw[ev] at rw0
    split at e
    · obtain ⟨p,vs,ep,hp,l⟩:=rw0
      obtain ⟨w,h1,h2⟩:=l.atI e
      exact ix_list value slice pins s σ H x y v u Q I rx ry ⟨p,vs,_,w,ep,rb.w.int,.of hp,h1,q H w .rfl h2⟩ hs
    · cases e
  · rename_i xs ev
    rw[ev] at rw0
    split at e
    · obtain ⟨p,vs,ep,hp,l,_⟩:=rw0.tup
      obtain ⟨w,h1,h2⟩:=l.atI e
      exact ix_tup value slice pins s σ H x y v u Q I rx ry ⟨p,vs,_,w,ep,rb.w.int,.inl hp,h1,q H w .rfl h2⟩ hs
    · cases e
  · rename_i xs ev
    rw[ev] at rw0
    split at e
    · have rw0:Rep X.K X.mg μ H (.ro xs) x:=rw0
      unfold Rep at rw0
      obtain ⟨p,vs,ep,hp,l⟩:=rw0
      obtain ⟨w,h1,h2⟩:=l.atI e
      exact ix_list value slice pins s σ H x y v u Q I rx ry ⟨p,vs,_,w,ep,rb.w.int,hp.sq,h1,q H w .rfl h2⟩ hs
    · cases e
  · rename_i z ev
    rw[ev] at rw0
    split at e
    · split at e
      · rename_i hz
        obtain ⟨c,h1,h2⟩:=Option.map_eq_some_iff.mp e
        subst h2
        exact ix_str value slice pins s σ H x y v u Q I rx ry ⟨z,_,c,rw0.str,rb.w.int,bh hz,h1,q H _ .rfl (bL _)⟩ hs
      · cases e
    · cases e
  · rename_i l ev
    rw[ev] at rw0
    have rw1:Rep X.K X.mg μ H (.loc l) x:=rw0
    unfold Rep at rw1
    obtain ⟨ad,rfl,hμ⟩:=rw1
    split at e
    · rename_i t kvs es
      split at e
      · rename_i hk
        obtain ⟨o,g,m⟩:=ik rs hμ es hk rb
        rw[e] at m
        obtain ⟨w,eo,rw'⟩:=m
        subst eo
        obtain rfl:v=Value.ref ad:=rx
        have hT:=dict_typeIs I g
        unfold subscriptTail
        refine wpAny_bind ?_
        rw[getitemInPython_of_ne hT.not_modules]
        refine wpAny_bind (wpAny_specialOf hT PySem.F.slot_dict_getitem.lookup ?_)
        have fin:wpAny (model X.prog X.w) X.A (subscripted slice false (.ref ad) u) (fun r s₃=>wpAny (model X.prog X.w) X.A (letTemporaryGo value (.ref ad) r >>= fun _=>pure r) (EP X pins σ Q) X.xe s₃) X.xe s:=by
          rw[hs]
          exact wpAny_operating (thn (d_getItem hu I g ry fun w' s3 I3 rw2=>(⟨w,H,I3,rw2,q H w .rfl rw'⟩:EP X pins σ Q w' s3)) fun r s₃ h₃=>wpAny_bind (wpAny_letTemporaryGo (wpAny_pure h₃)))
        first
          | exact wpAny_pure (wpAny_bind fin)
          | exact wpAny_bind (wpAny_pure (wpAny_bind fin))
          | exact wpAny_bind fin
      · cases e
    · cases e
  · cases e
theorem ai (hu:X.A.units+1<cLine) (ha:PE X a (tE X W ma)) (hb:PE X b (tE X W mb)) (hs:PlainIx b:=by exact fun _ _=>rfl):PE X (.Subscript a b pos) (tE X W (aL fIx ma mb)):=
  bf (pe_ix (ix_any hu) ha hb hs) fun _ _ _ h=>nT h
end
def dX {α:Type} (xs:List α) (lo hi:Option Int):List α:=(xs.drop (HT.sIx xs.length 0 lo)).take (HT.sIx xs.length xs.length hi - HT.sIx xs.length 0 lo)
def jP (d:D) (lo hi:Option Int):Option D:=match d with
  | .lst xs=>some (.lst (dX xs lo hi))
  | .tup xs=>some (.tup (dX xs lo hi))
  | .tpn xs=>some (if HT.sIx xs.length 0 lo=0∧HT.sIx xs.length xs.length hi=xs.length then .tpn xs else .tup (dX xs lo hi))
  | .str z=>if z.length≤1000000 then some (.str (cutS z lo hi)) else none
  | _=>none
abbrev MP:=En→Sto→Res (Option Int)
def pNo:MP:=fun _ S=>.ok none S
def g9 (m:ME):MP:=fun env S=>(m env S).bind fun d S=>match d with
  | .int i=>.ok (some i) S
  | _=>.stuck
def lO (m:ME) (ml mh:MP):ME:=fun env S=>(m env S).bind fun d S=>(ml env S).bind fun lo S=>(mh env S).bind fun hi S=>ofO S (jP (view0 S d) lo hi)
section
variable {X:Cx} {W:WX} {e:Expr} {pos p2:Pos} {m:ME} {ml mh:MP} {lo hi:Option Expr}
abbrev tP (X:Cx) (W:WX) (m:MP):L2.St→Hp→(Option Int→Hp→Prop)→Prop:=tM X (fun _ _ a b=>b=a) W m
def PO' (X:Cx) (W:WX) (o:Option Expr) (m:MP):Prop:=PO X o (tP X W m)
theorem lP:PO' X W none pNo:=⟨fun pins s σ H Q I h=>po_none.run pins s σ H Q I (by
  obtain ⟨env,S,μ,rl,o⟩:=h
  exact o μ H none .refl rl.sto rfl)⟩
theorem f9 (h:PE X e (tE X W m)):PO' X W (some e) (g9 m):=⟨fun pins s σ H Q I w=>(po_some h).run pins s σ H Q I (by
  obtain ⟨env,S,μ,rl,o⟩:=w
  refine ⟨env,S,μ,rl,(Out.bind o).mono fun x H1 ⟨μ1,S1,d,st,rs,r,o1⟩=>?_⟩
  cases d with
  | int i=>unfold Rep at r; exact ⟨i,r,o1 μ1 H1 _ .refl rs rfl⟩
  | _=>exact o1.elim)⟩
theorem sl_any:SlR X (fun x lo hi H Q=>∃μ S d d',RelS X.K X.mg μ H S∧RepV X.K X.mg μ H d x∧jP d lo hi=some d'∧∀H' v,Sm H H'→Rep X.K X.mg μ H' d' v→Q v H'):=by
  intro pins s σ H x v vl vu lo hi sl Q I rx hs pl pu ⟨μ,S,d,d',rs,r,e,q⟩
  unfold jP at e
  split at e
  · cases e
    obtain ⟨a,vs,ea,ha,l⟩:=r
    refine sl_list pins s σ H x v vl vu lo hi sl Q I rx hs pl pu ⟨a,vs,ea,.of ha,fun p hp=>q _ _ (.upd hp) ?_⟩
    refine bw rs hp ?_
    unfold dX cutV
    rw[←l.length]
    exact (l.drop _).take _
  · rename_i xs
    cases e
    have r':Rep X.K X.mg μ H (.tup xs) x:=r
    obtain ⟨a,vs,ea,ha,l,na⟩:=r.vt
    subst ea
    have el:cutV vs lo hi=(vs.drop (HT.sIx xs.length 0 lo)).take (HT.sIx xs.length xs.length hi - HT.sIx xs.length 0 lo):=by unfold cutV; rw[←l.length]
    refine sl_tupA pins s σ H _ v vl vu lo hi sl Q I rx hs pl pu ⟨a,vs,rfl,.inl ha,fun hw=>q H _ .rfl ?_,fun _ p hp=>q _ _ (.upd hp) ?_⟩
    · have:dX xs lo hi=xs:=by
        unfold dX
        rw[←l.length] at hw
        rw[hw.1,hw.2]; simp
      rw[this]
      exact r'
    · refine bF rs hp ?_
      rw[el]
      unfold dX
      exact (l.drop _).take _
  · rename_i xs
    cases e
    have r':Rep X.K X.mg μ H (.tpn xs) x:=r
    obtain ⟨a,vs,ea,ha,l,na⟩:=r.vt
    subst ea
    have el:cutV vs lo hi=(vs.drop (HT.sIx xs.length 0 lo)).take (HT.sIx xs.length xs.length hi - HT.sIx xs.length 0 lo):=by unfold cutV; rw[←l.length]
    refine sl_tupA pins s σ H _ v vl vu lo hi sl Q I rx hs pl pu ⟨a,vs,rfl,.inl ha,fun hw=>q H _ .rfl ?_,fun hw p hp=>q _ _ (.upd hp) ?_⟩
    · rw[←l.length] at hw
      rw[if_pos hw]
      exact r'
    · rw[←l.length] at hw
      rw[if_neg hw]
      refine bF rs hp ?_
      rw[el]
      unfold dX
      exact (l.drop _).take _
  · split at e
    · rename_i hz
      cases e
      exact sl_str pins s σ H x v vl vu lo hi sl Q I rx hs pl pu ⟨_,RepV.str r,bh hz,q H _ .rfl (bL _)⟩
    · cases e
  · cases e
theorem il (he:PE X e (tE X W m)) (hl:PO' X W lo ml) (hh:PO' X W hi mh):PE X (.Subscript e (.Slice lo hi none p2) pos) (tE X W (lO m ml mh)):=
  bf (pe_slice sl_any he hl hh) fun σ H Q ⟨env,S,μ,rl,o⟩=>by
    refine ⟨env,S,μ,rl,(Out.bind o).mono fun x H1 ⟨μ1,S1,d,st,rs,r,o1⟩=>?_⟩
    refine ⟨env,S1,μ1,⟨rl.env.step st,rs⟩,(Out.bind o1).mono fun lo' H2 ⟨μ2,S2,dl,st2,rs2,rl2,o2⟩=>?_⟩
    subst rl2
    refine ⟨env,S2,μ2,⟨(rl.env.step st).step st2,rs2⟩,(Out.bind o2).mono fun hi' H3 ⟨μ3,S3,dh,st3,rs3,rh3,o3⟩=>?_⟩
    subst rh3
    cases e:jP (view0 S3 d) lo' hi' with
    | none=>rw[e] at o3; exact o3.elim
    | some d'=>
      rw[e] at o3
      exact ⟨μ3,S3,_,d',rs3,rs3.view0 (Rep.step st3 _ _ (Rep.step st2 _ _ r)),e,fun H' v sm rr=>o3 μ3 H' v (.of_sm sm) (rs3.sm sm) rr⟩
end
end DL
namespace DL
open PySem PySem.Spec PyProof.Rows L2
def eC (d:D):ME:=fun _ S=>.ok d S
def eV (i:Nat):ME:=fun env S=>match env[i]? with
  | some (some d)=>.ok d S
  | _=>.stuck
section
variable {X:Cx} {W:WX} {a b c e:Expr} {pos:Pos} {m ma mb mc:ME} {ta tb tc:MT} {rest:List Expr}
theorem lQ {te:TE} {d:D} (h:PE X e te) (i:∀σ H Q μ S,RelS X.K X.mg μ H S→(∀v,Rep X.K X.mg μ H d v→Q v H)→te σ H Q):PE X e (tE X W (eC d)):=
  bf h fun σ H Q ⟨env,S,μ,rl,o⟩=>i σ H Q μ S rl.sto fun v r=>o μ H v .refl rl.sto r
theorem aJ {i j}:PE X (.Constant (.int i) j pos) (tE X W (eC (.int i))):=lQ pe_int fun _ _ _ _ _ _ q=>q _ (au _)
theorem eN {i j}:PE X (.Constant (.bool i) j pos) (tE X W (eC (.bool i))):=lQ pe_bl fun _ _ _ _ _ _ q=>q _ (bI _)
theorem bM {j}:PE X (.Constant .none j pos) (tE X W (eC .none)):=lQ pe_non fun _ _ _ _ _ _ q=>q _ ie
theorem aI {i j}:PE X (.Constant (.str i) j pos) (tE X W (eC (.str i))):=lQ pe_str fun _ _ _ _ _ _ q=>q _ (bL _)
theorem aC (i:Nat) {x:Str} (hN:X.N[i]?=some x:=by rfl) (hv:Vis X.env.scope x:=by first|exact Or.inl rfl|exact Or.inr (Or.inl rfl)|exact Or.inr (Or.inr rfl)) (hd:(x == ("__debug__":Str))=false:=by decide)
    (hcd:(x == ("__classdict__":Str))=false:=by decide):PE X (.Name x pos) (tE X W (eV i)):=
  bf (pe_var hN hv hd hcd) fun σ H Q ⟨env,S,μ,rl,o⟩=>by
    unfold eV at o
    cases e:env[i]? with
    | none=>simp only[e] at o; exact o.elim
    | some w=>
      cases w with
      | none=>simp only[e] at o; exact o.elim
      | some d=>
        simp only[e] at o
        obtain ⟨v,h1,h2⟩:=rl.env.at_ i d e
        exact ⟨v,h1,o μ H v .refl rl.sto h2⟩
theorem rQ {x:Str} {i:Int} {t} (hg:Gl X x) (hm:X.mg x=some (.int i t)) (hd:(x == ("__debug__":Str))=false:=by decide):PE X (.Name x pos) (tE X W (eC (.int i))):=
  lQ (pe_glob (v:=.int i) hg hm ⟨_,rfl⟩ hd) fun _ _ _ _ _ _ q=>q _ (au _)
theorem rR {x:Str} {i:Str} {t} (hg:Gl X x) (hm:X.mg x=some (.str i t)) (hd:(x == ("__debug__":Str))=false:=by decide):PE X (.Name x pos) (tE X W (eC (.str i))):=
  lQ (pe_glob (v:=.str i) hg hm ⟨_,rfl⟩ hd) fun _ _ _ _ _ _ q=>q _ (bL _)
theorem cO {x:Str} {n:String} (hg:Gl X x) (hm:X.mg x=none) (hv:bootBuiltins x=some (.type n)) (hn:x≠"__name__":=by decide) (hd:(x == ("__debug__":Str))=false:=by decide):PE X (.Name x pos) (tE X W (eC (.ty n))):=
  lQ (pe_bltn (v:=.ty n) hg hm hv rfl hn hd) fun _ _ _ _ _ _ q=>q _ (by unfold Rep; rfl)
theorem a7 {x:Str} {a:Addr} (hg:Gl X x) (hm:X.mg x=some (.ref a)) (hd:(x == ("__debug__":Str))=false:=by decide):PE X (.Name x pos) (tE X W (eC (.glo x))):=
  lQ (pe_glob (v:=.ref a) hg hm rfl hd) fun _ _ _ _ _ _ q=>q _ (by unfold Rep; exact ⟨a,rfl,hm⟩)
def dN (S:Sto) (d:D):Option Bool:=match view S d with
  | .none=>some false
  | .bool b=>some b
  | .int i=>some (i != 0)
  | .str x=>if x.length≤1000000 then some ((x.length:Int) != 0) else none
  | .tup xs=>some (!xs.isEmpty)
  | .lst xs=>some (!xs.isEmpty)
  | .ro xs=>some (!xs.isEmpty)
  | .loc l=>match S[l]? with
    | some (.dct false kvs)=>some (!kvs.isEmpty)
    | _=>none
  | _=>none
theorem fD {K:PySem.W.Frag} {mg:Str→Option Value} {μ:Mu} {H:Hp} {xs:List D} {vs:List V} (r:RepAll K mg μ H xs vs):xs.isEmpty=vs.isEmpty:=by
  cases xs with
  | nil=>unfold RepAll at r; subst r; rfl
  | cons a b=>unfold RepAll at r; obtain ⟨v,q,rfl,_⟩:=r; rfl
theorem kN {K:PySem.W.Frag} {mg:Str→Option Value} {μ:Mu} {H:Hp} {S:Sto} {d:D} {x:V} {k:Bool} (rs:RelS K mg μ H S) (r:Rep K mg μ H d x) (e:dN S d=some k):TruV K x H k:=by
  unfold dN at e
  have w:=rs.view r
  split at e
  · rename_i ev
    rw[ev] at w; cases e
    have w:Rep K mg μ H .none x:=w
    unfold Rep at w; subst w; rfl
  · rename_i ev
    rw[ev] at w; cases e
    have w:Rep K mg μ H (.bool _) x:=w
    unfold Rep at w; subst w; rfl
  · rename_i ev
    rw[ev] at w; cases e
    rw[w.int]; rfl
  · rename_i ev
    rw[ev] at w
    split at e
    · rename_i hz
      cases e
      rw[w.str]; exact ⟨bh hz,rfl⟩
    · cases e
  · rename_i ev
    rw[ev] at w; cases e
    obtain ⟨a,vs,rfl,h,l,_⟩:=w.tup
    exact .inr (.inl ⟨vs,.inl h,by rw[fD l]⟩)
  · rename_i ev
    rw[ev] at w; cases e
    obtain ⟨a,vs,rfl,h,l⟩:=w
    exact .inl ⟨vs,.of h,by rw[fD l]⟩
  · rename_i ev
    rw[ev] at w; cases e
    have w:Rep K mg μ H (.ro _) x:=w
    unfold Rep at w
    obtain ⟨a,vs,rfl,h,l⟩:=w
    exact .inl ⟨vs,h.sq,by rw[fD l]⟩
  · rename_i l ev
    rw[ev] at w
    have w:Rep K mg μ H (.loc l) x:=w
    unfold Rep at w
    obtain ⟨a,rfl,hμ⟩:=w
    split at e
    · rename_i kvs es
      cases e
      obtain ⟨a',h1,vs,ks,⟨h2,hk⟩,l⟩:=rs.at_ _ _ es
      rw[hμ] at h1; cases h1
      refine .inr (.inr ⟨_,h2,?_⟩)
      cases kvs with
      | nil=>
        cases ks with
        | nil=>rfl
        | cons a b=>cases hk
      | cons p q=>
        cases ks with
        | nil=>cases hk
        | cons a b=>
          have l:RepAll K mg μ H (p.2::q.map (·.2)) vs:=l
          unfold RepAll at l
          obtain ⟨v,r,rfl,_⟩:=l
          rfl
    · cases e
  · cases e
def dO (m:ME):MT:=fun env S=>(m env S).bind fun d S=>ofO S (dN S d)
theorem t_tru {σ:L2.St} {H:Hp} {Q:Bool→Hp→Prop} (h:tT X W (dO m) σ H Q):tE X W m σ H fun x H'=>∃k,TruV X.K x H' k∧Q k H':=by
  obtain ⟨env,S,μ,rl,o⟩:=h
  refine ⟨env,S,μ,rl,(Out.bind o).mono fun x H1 ⟨μ1,S1,d,st,rs,r,o1⟩=>?_⟩
  cases e:dN S1 d with
  | none=>rw[e] at o1; exact o1.elim
  | some k=>rw[e] at o1; exact ⟨k,kN rs r e,o1 μ1 H1 k .refl rs rfl⟩
theorem cP (h:PE X a (tE X W m)) (he:∀whole,isTrue a X.env whole=(do let v ←whole; standAt a.pos; holding [v] (truthy v)):=by exact fun _=>rfl):PT X a (tT X W (dO m)):=
  jc (pt_truth h he) fun σ H Q w=>t_tru w
def nY (ma mb:MT):MT:=fun env S=>(ma env S).bind fun c S=>if c=true then mb env S else .ok false S
def dj (ma mb:MT):MT:=fun env S=>(ma env S).bind fun c S=>if c=true then .ok true S else mb env S
def cK (ma:MT):MT:=fun env S=>(ma env S).bind fun c S=>.ok (!c) S
theorem rT (h:PT X a (tT X W ta)):PW X (.BoolOp .And [a] pos) (tT X W ta):=pw_and1 h
theorem dE (h:PT X a (tT X W ta)):PW X (.BoolOp .Or [a] pos) (tT X W ta):=pw_or1 h
theorem sW_and (ha:PT X a (tT X W ta)) (hb:PW X (.BoolOp .And (b::rest) pos) (tT X W tb)):PW X (.BoolOp .And (a::b::rest) pos) (tT X W (nY ta tb)):=
  pw_to (pw_and ha hb) fun σ H Q ⟨env,S,μ,rl,o⟩=>⟨env,S,μ,rl,(Out.bind o).mono fun x H1 ⟨μ1,S1,d,st,rs,r,o1⟩=>by
    subst r
    cases x with
    | true=>exact ⟨env,S1,μ1,⟨rl.env.step st,rs⟩,o1⟩
    | false=>exact o1 μ1 H1 _ .refl rs rfl⟩
theorem dF (ha:PT X a (tT X W ta)) (hb:PW X (.BoolOp .Or (b::rest) pos) (tT X W tb)):PW X (.BoolOp .Or (a::b::rest) pos) (tT X W (dj ta tb)):=
  pw_to (pw_or ha hb) fun σ H Q ⟨env,S,μ,rl,o⟩=>⟨env,S,μ,rl,(Out.bind o).mono fun x H1 ⟨μ1,S1,d,st,rs,r,o1⟩=>by
    subst r
    cases x with
    | false=>exact ⟨env,S1,μ1,⟨rl.env.step st,rs⟩,o1⟩
    | true=>exact o1 μ1 H1 _ .refl rs rfl⟩
theorem cx {op es} (h:PW X (.BoolOp op es pos) (tT X W ta)):PT X (.BoolOp op es pos) (tT X W ta):=h.pt
theorem cX (ha:PT X a (tT X W ta)):PT X (.UnaryOp .Not a pos) (tT X W (cK ta)):=
  jc (pt_not ha) fun σ H Q ⟨env,S,μ,rl,o⟩=>⟨env,S,μ,rl,(Out.bind o).mono fun x H1 ⟨μ1,S1,d,st,rs,r,o1⟩=>by
    subst r
    exact o1 μ1 H1 _ .refl rs rfl⟩
def gj (ma mb:ME):ME:=fun env S=>(ma env S).bind fun d S=>(ofO S (dN S d)).bind fun c S=>if c=true then mb env S else .ok d S
def eOr (ma mb:ME):ME:=fun env S=>(ma env S).bind fun d S=>(ofO S (dN S d)).bind fun c S=>if c=true then .ok d S else mb env S
def eNot (ma:ME):ME:=fun env S=>(ma env S).bind fun d S=>(ofO S (dN S d)).bind fun c S=>.ok (.bool (!c)) S
def eIf (tc:MT) (ma mb:ME):ME:=fun env S=>(tc env S).bind fun c S=>if c=true then ma env S else mb env S
theorem fo {op} (h:PE X a (tE X W m)):PE X (.BoolOp op [a] pos) (tE X W m):=pe_one h
theorem dY (ha:PE X a (tE X W ma)) (hb:PE X (.BoolOp .And (b::rest) pos) (tE X W mb)):PE X (.BoolOp .And (a::b::rest) pos) (tE X W (gj ma mb)):=
  bf (pe_andT ha hb) fun σ H Q ⟨env,S,μ,rl,o⟩=>⟨env,S,μ,rl,(Out.bind o).mono fun x H1 ⟨μ1,S1,d,st,rs,r,o1⟩=>by
    cases e:dN S1 d with
    | none=>rw[e] at o1; exact o1.elim
    | some k=>
      rw[e] at o1
      refine ⟨k,kN rs r e,?_⟩
      cases k with
      | true=>exact ⟨env,S1,μ1,⟨rl.env.step st,rs⟩,o1⟩
      | false=>exact o1 μ1 H1 _ .refl rs r⟩
theorem sE_not (ha:PE X a (tE X W ma)):PE X (.UnaryOp .Not a pos) (tE X W (eNot ma)):=
  bf (pe_notT ha) fun σ H Q ⟨env,S,μ,rl,o⟩=>⟨env,S,μ,rl,(Out.bind o).mono fun x H1 ⟨μ1,S1,d,st,rs,r,o1⟩=>by
    cases e:dN S1 d with
    | none=>rw[e] at o1; exact o1.elim
    | some k=>
      rw[e] at o1
      exact ⟨k,kN rs r e,o1 μ1 H1 _ .refl rs (bI _)⟩⟩
theorem ei (hc:PT X c (tT X W tc)) (ha:PE X a (tE X W ma)) (hb:PE X b (tE X W mb)):PE X (.IfExp c a b pos) (tE X W (eIf tc ma mb)):=
  bf (pe_ifExp hc ha hb) fun σ H Q ⟨env,S,μ,rl,o⟩=>⟨env,S,μ,rl,(Out.bind o).mono fun x H1 ⟨μ1,S1,d,st,rs,r,o1⟩=>by
    subst r
    cases x with
    | true=>exact ⟨env,S1,μ1,⟨rl.env.step st,rs⟩,o1⟩
    | false=>exact ⟨env,S1,μ1,⟨rl.env.step st,rs⟩,o1⟩⟩
def eNeg (ma:ME):ME:=fun env S=>(ma env S).bind fun d S=>match d with
  | .int i=>.ok (.int (-i)) S
  | _=>.stuck
def eO (f g:Sto→D→D→Option D) (ma mb mc:ME):ME:=fun env S=>(ma env S).bind fun a S=>(mb env S).bind fun b S=>match f S a b with
  | some (.bool true)=>(mc env S).bind fun c S=>ofO S (g S b c)
  | some (.bool false)=>.ok (.bool false) S
  | _=>.stuck
theorem nZ {f g:Sto→D→D→Option D} {σ:L2.St} {H:Hp} {Q:VK} (h:tE X W (eO f g ma mb mc) σ H Q):tChain (rS X.K X.mg f) (rS X.K X.mg g) (tE X W ma) (tE X W mb) (tE X W mc) σ H Q:=by
  obtain ⟨env,S,μ,rl,o⟩:=h
  refine ⟨env,S,μ,rl,(Out.bind o).mono fun x H1 ⟨μ1,S1,da,st,rs,ra,o1⟩=>?_⟩
  refine ⟨env,S1,μ1,⟨rl.env.step st,rs⟩,(Out.bind o1).mono fun y H2 ⟨μ2,S2,db,st2,rs2,rb,o2⟩=>?_⟩
  cases e:f S2 da db with
  | none=>simp only[e] at o2; exact o2.elim
  | some d=>
    simp only[e] at o2
    refine ⟨μ2,S2,_,_,d,rs2,Rep.step st2 _ _ ra,rb,e,fun H' v sm r=>?_⟩
    cases d with
    | bool k=>
      unfold Rep at r
      refine ⟨k,r,?_⟩
      have st3:Step μ2 H2 μ2 H':=.of_sm sm
      cases k with
      | false=>exact o2 μ2 H' _ st3 (rs2.sm sm) (bI _)
      | true=>
        refine ⟨env,S2,μ2,⟨((rl.env.step st).step st2).step st3,rs2.sm sm⟩,(Out.bind (Out.of_step st3 o2)).mono fun z H4 ⟨μ4,S4,dc,st4,rs4,rc,o4⟩=>?_⟩
        cases e2:g S4 db dc with
        | none=>rw[e2] at o4; exact o4.elim
        | some d2=>
          rw[e2] at o4
          exact ⟨μ4,S4,_,_,d2,rs4,Rep.step st4 _ _ (Rep.step st3 _ _ rb),rc,e2,fun H5 v5 sm5 r5=>o4 μ4 H5 v5 (.of_sm sm5) (rs4.sm sm5) r5⟩
    | _=>exact o2.elim
theorem pT {op op':CmpOp} {f g:Sto→D→D→Option D} (ho:OpR X (compareOp op) (rS X.K X.mg f)) (ho':OpR X (compareOp op') (rS X.K X.mg g)) (ha:PE X a (tE X W ma)) (hb:PE X b (tE X W mb)) (hc:PE X c (tE X W mc))
    (hm:lastMarks [op,op'] [b,c]=false:=by with_unfolding_all rfl):PE X (.Compare a [op,op'] [b,c] pos) (tE X W (eO f g ma mb mc)):=bf (pe_chain ho ho' ha hb hc hm) fun _ _ _ h=>nZ h
theorem im {op op':CmpOp} {f g:Sto→D→D→Option D} (ho:OpR X (compareOp op) (rS X.K X.mg f)) (ho':OpR X (compareOp op') (rS X.K X.mg g)) (ha:PE X a (tE X W ma)) (hb:PE X b (tE X W mb)) (hc:PE X c (tE X W mc))
    (hm:lastMarks [op,op'] [b,c]=false:=by with_unfolding_all rfl):PT X (.Compare a [op,op'] [b,c] pos) (tT X W (tOf (eO f g ma mb mc))):=jc (pt_chain ho ho' ha hb hc hm) fun σ H Q h=>by
    obtain ⟨env,S,μ,rl,o⟩:=t_of h
    exact nZ ⟨env,S,μ,rl,o⟩
def aF:MA:=fun _ S=>.ok [] S
def aB (m:ME) (r:MA):MA:=fun env S=>(m env S).bind fun d S=>(r env S).bind fun ds S=>.ok (d::ds) S
theorem aD:PA X [] (tAs X W aF):=pa_to pa_nil fun σ H Q ⟨env,S,μ,rl,o⟩=>o μ H [] .refl rl.sto .nil
theorem aA {es:List Expr} {r:MA} (he:PE X e (tE X W m)) (hr:PA X es (tAs X W r)) (hs:starEach (e::es) X.env=(false,eval e X.env)::starEach es X.env:=by rfl):PA X (e::es) (tAs X W (aB m r)):=
  pa_to (pa_cons he hr hs) fun σ H Q ⟨env,S,μ,rl,o⟩=>⟨env,S,μ,rl,(Out.bind o).mono fun x H1 ⟨μ1,S1,d,st,rs,rd,o1⟩=>
    ⟨env,S1,μ1,⟨rl.env.step st,rs⟩,(Out.bind o1).mono fun xs H2 ⟨μ2,S2,ds,st2,rs2,rds,o2⟩=>o2 μ2 H2 _ .refl rs2 (.cons (Rep.step st2 _ _ rd) rds)⟩⟩
def cH (r:MA):ME:=fun env S=>(r env S).bind fun ds S=>if ds.length≤1000000 then .ok (.tup ds) S else .stuck
def bv (r:MA):ME:=fun env S=>(r env S).bind fun ds S=>if ds.length≤1000000 then .ok (.lst ds) S else .stuck
def hB (r:MA):ME:=fun env S=>(r env S).bind fun ds S=>if ds.length≤1000000 then .ok (.loc S.length) (S++[.lst ds]) else .stuck
variable {es:List Expr} {r:MA}
theorem bB {x1} (h:PA X es (tAs X W r)):PE X (.Tuple es x1 pos) (tE X W (cH r)):=bf (pe_tup h) fun σ H Q ⟨env,S,μ,rl,o⟩=>⟨env,S,μ,rl,(Out.bind o).mono fun xs H1 ⟨μ1,S1,ds,st,rs,rd,o1⟩=>by
  split at o1
  · rename_i hz
    exact ⟨by rw[←rd.length]; exact bh hz,fun p hp=>o1 μ1 _ _ (.of_sm (.upd hp)) (rs.sm (.upd hp)) (bF rs hp rd)⟩
  · exact o1.elim⟩
theorem av (h:PA X es (tAs X W r)):PE X (.List es pos) (tE X W (bv r)):=bf (pe_lst h) fun σ H Q ⟨env,S,μ,rl,o⟩=>⟨env,S,μ,rl,(Out.bind o).mono fun xs H1 ⟨μ1,S1,ds,st,rs,rd,o1⟩=>by
  split at o1
  · rename_i hz
    exact ⟨by rw[←rd.length]; exact bh hz,fun p hp=>o1 μ1 _ _ (.of_sm (.upd hp)) (rs.sm (.upd hp)) (bw rs hp rd)⟩
  · exact o1.elim⟩
end
theorem rU {K:PySem.W.Frag} {mg:Str→Option Value} {μ:Mu} {H:Hp} {S:Sto} {p:Addr} {ho:HO} {o:O} (rs:RelS K mg μ H S) (hp:H p=none) (r:RepO K mg (μ.push p) (upd H p ho) o p) :
    Step μ H (μ.push p) (upd H p ho)∧RelS K mg (μ.push p) (upd H p ho) (S++[o])∧Rep K mg (μ.push p) (upd H p ho) (.loc S.length) (.ref p):=by
  refine ⟨.new_loc hp,rs.push hp r,?_⟩
  unfold Rep
  exact ⟨p,rfl,by rw[rs.len]; simp[Mu.push]⟩
theorem rV {K:PySem.W.Frag} {mg:Str→Option Value} {μ:Mu} {H:Hp} {S:Sto} {p:Addr} {ds:List D} {vs:List V} (rs:RelS K mg μ H S) (hp:H p=none) (r:RepAll K mg μ H ds vs) :
    Step μ H (μ.push p) (upd H p (.lst vs))∧RelS K mg (μ.push p) (upd H p (.lst vs)) (S++[.lst ds])∧Rep K mg (μ.push p) (upd H p (.lst vs)) (.loc S.length) (.ref p):=
  rU rs hp ⟨vs,upd_same,RepAll.step (.new_loc hp) _ _ r⟩
section
variable {X:Cx} {W:WX} {pos:Pos} {es:List Expr} {r:MA}
theorem gA (h:PA X es (tAs X W r)):PE X (.List es pos) (tE X W (hB r)):=bf (pe_lst h) fun σ H Q ⟨env,S,μ,rl,o⟩=>⟨env,S,μ,rl,(Out.bind o).mono fun xs H1 ⟨μ1,S1,ds,st,rs,rd,o1⟩=>by
  split at o1
  · rename_i hz
    refine ⟨by rw[←rd.length]; exact bh hz,fun p hp=>?_⟩
    obtain ⟨a,b,c⟩:=rV rs hp rd
    exact o1 _ _ _ a b c
  · exact o1.elim⟩
/-- {} -/
def eDct (t:Bool):ME:=fun _ S=>.ok (.loc S.length) (S++[.dct t []])
end
end DL
namespace DL
open PySem PySem.Spec PyProof.Rows L2
inductive RS where
  | next (env:En) (S:Sto)|brk (env:En) (S:Sto)|cont (env:En) (S:Sto)|ret (d:D) (S:Sto)|exc (e:XV) (env:En) (S:Sto)|stuck
abbrev MS:=En→Sto→RS
abbrev MG:=D→En→Sto→Option (En × Sto)
def Res.rs {α:Type} (env:En):Res α→(α→Sto→RS)→RS
  | .ok a S,k=>k a S
  | .exc e S,_=>.exc e env S
  | .stuck,_=>.stuck
def RS.andThen:RS→(En→Sto→RS)→RS
  | .next env S,k=>k env S
  | .brk env S,_=>.brk env S
  | .cont env S,_=>.cont env S
  | .ret d S,_=>.ret d S
  | .exc e env S,_=>.exc e env S
  | .stuck,_=>.stuck
section
variable (K:PySem.W.Frag) (mg:Str→Option Value)
def OutS (W:WX) (μ:Mu) (H:Hp) (D:Ends):RS→Prop
  | .next env S=>∀μ' H' σ',Step μ H μ' H'→RelE K mg μ' H' env σ'→RelS K mg μ' H' S→D.nx σ' H'
  | .brk env S=>∀μ' H' σ',Step μ H μ' H'→RelE K mg μ' H' env σ'→RelS K mg μ' H' S→D.bk σ' H'
  | .cont env S=>∀μ' H' σ',Step μ H μ' H'→RelE K mg μ' H' env σ'→RelS K mg μ' H' S→D.ct σ' H'
  | .ret d S=>∀μ' H' v,Step μ H μ' H'→RelS K mg μ' H' S→Rep K mg μ' H' d v→D.rt v H'
  | .exc e env S=>∀μ' H' σ' cls dd,Step μ H μ' H'→RelE K mg μ' H' env σ'→RelS K mg μ' H' S→RepX K mg μ' H' e cls dd→W cls dd σ' H'
  | .stuck=>False
end
section
variable {K:PySem.W.Frag} {mg:Str→Option Value} {α β:Type} {W:WX} {σ:L2.St} {μ μ1:Mu} {H H1:Hp} {R:Mu→Hp→α→β→Prop} {D D':Ends} {r:RS} {env:En}
theorem OutS.of_step (st:Step μ H μ1 H1) (o:OutS K mg W μ H D r):OutS K mg W μ1 H1 D r:=by
  cases r with
  | next e S=>exact fun μ' H' σ' s=>o μ' H' σ' (st.trans s)
  | brk e S=>exact fun μ' H' σ' s=>o μ' H' σ' (st.trans s)
  | cont e S=>exact fun μ' H' σ' s=>o μ' H' σ' (st.trans s)
  | ret e S=>exact fun μ' H' σ' s=>o μ' H' σ' (st.trans s)
  | exc e v S=>exact fun μ' H' σ' c d s=>o μ' H' σ' c d (st.trans s)
  | stuck=>exact o
theorem OutS.mono (o:OutS K mg W μ H D r) (h1:∀σ H,D.nx σ H→D'.nx σ H) (h2:∀σ H,D.bk σ H→D'.bk σ H) (h3:∀σ H,D.ct σ H→D'.ct σ H) (h4:∀v H,D.rt v H→D'.rt v H):OutS K mg W μ H D' r:=by
  cases r with
  | next e S=>exact fun μ' H' σ' s t u=>h1 _ _ (o μ' H' σ' s t u)
  | brk e S=>exact fun μ' H' σ' s t u=>h2 _ _ (o μ' H' σ' s t u)
  | cont e S=>exact fun μ' H' σ' s t u=>h3 _ _ (o μ' H' σ' s t u)
  | ret e S=>exact fun μ' H' σ' s t u=>h4 _ _ (o μ' H' σ' s t u)
  | exc e v S=>exact o
  | stuck=>exact o
theorem OutS.andThen {k:En→Sto→RS} (o:OutS K mg W μ H D (r.andThen k)) :
    OutS K mg W μ H { D with nx:=fun σ1 H1=>∃μ1 env1 S1,Step μ H μ1 H1∧RelE K mg μ1 H1 env1 σ1∧RelS K mg μ1 H1 S1∧OutS K mg W μ1 H1 D (k env1 S1) } r:=by
  cases r with
  | next e S=>exact fun μ' H' σ' s t u=>⟨μ',e,S,s,t,u,OutS.of_step s o⟩
  | brk e S=>exact o
  | cont e S=>exact o
  | ret e S=>exact o
  | exc e v S=>exact o
  | stuck=>exact o
theorem OutS.rs {x:Res α} {k:α→Sto→RS} (re:RelE K mg μ H env σ) (o:OutS K mg W μ H D (x.rs env k)) :
    Out K mg W σ μ H R (fun b H1=>∃μ1 S1 a,Step μ H μ1 H1∧RelS K mg μ1 H1 S1∧R μ1 H1 a b∧OutS K mg W μ1 H1 D (k a S1)) x:=by
  cases x with
  | ok a S=>exact fun μ' H' b s t u=>⟨μ',S,a,s,t,u,OutS.of_step s o⟩
  | exc e S=>exact fun μ' H' c d s t u=>o μ' H' σ c d s (re.step s) t u
  | stuck=>exact o
end
def tS (X:Cx) (W:WX) (m:MS):TS:=fun D σ H=>∃env S μ,Rl X.K X.mg μ H env σ S∧OutS X.K X.mg W μ H D (m env S)
def OutO (K:PySem.W.Frag) (mg:Str→Option Value) (μ:Mu) (H:Hp) (Q:L2.St→Hp→Prop):Option (En × Sto)→Prop
  | some (e,S)=>∀μ' H' σ',Step μ H μ' H'→RelE K mg μ' H' e σ'→RelS K mg μ' H' S→Q σ' H'
  | none=>False
theorem OutO.of_step {K:PySem.W.Frag} {mg:Str→Option Value} {μ μ1:Mu} {H H1:Hp} {Q:L2.St→Hp→Prop} {r:Option (En × Sto)} (st:Step μ H μ1 H1) (o:OutO K mg μ H Q r):OutO K mg μ1 H1 Q r:=by
  cases r with
  | none=>exact o
  | some p=>exact fun μ' H' σ' s=>o μ' H' σ' (st.trans s)
def tG (X:Cx) (g:MG):TG:=fun v σ H Q=>∃env S μ d,Rl X.K X.mg μ H env σ S∧Rep X.K X.mg μ H d v∧OutO X.K X.mg μ H Q (g d env S)
abbrev MGs:=List D→En→Sto→Option (En × Sto)
def tGs (X:Cx) (g:MGs):TGs:=fun vs σ H Q=>∃env S μ ds,Rl X.K X.mg μ H env σ S∧RepAll X.K X.mg μ H ds vs∧OutO X.K X.mg μ H Q (g ds env S)
theorem gB {X:Cx} {s:Stmt} {t t':TS} (h:PS X s t) (i:∀D σ H,t' D σ H→t D σ H):PS X s t':=⟨fun pins s σ H D I w=>h.run pins s σ H D I (i D σ H w)⟩
theorem mJ {X:Cx} {s:List Stmt} {t t':TS} (h:PSs X s t) (i:∀D σ H,t' D σ H→t D σ H):PSs X s t':=⟨fun pins s σ H D I w=>h.run pins s σ H D I (i D σ H w)⟩
theorem je {X:Cx} {e:Expr} {t t':TG} (h:PG X e t) (i:∀v σ H Q,t' v σ H Q→t v σ H Q):PG X e t':=⟨fun pins s σ H v u Q I r w=>h.run pins s σ H v u Q I r (i v σ H Q w)⟩
theorem kO {X:Cx} {e:List Expr} {t t':TGs} (h:PGs X e t) (i:∀v σ H Q,t' v σ H Q→t v σ H Q):PGs X e t':=⟨fun pins s σ H v u Q I r w=>h.run pins s σ H v u Q I r (i v σ H Q w)⟩
def bS:MS:=fun env S=>.next env S
def aP (a b:MS):MS:=fun env S=>(a env S).andThen b
section
variable {X:Cx} {W:WX} {st:Stmt} {rest body:List Stmt} {a b:MS} {e c:Expr} {pos:Pos} {m:ME} {tc:MT}
theorem aU:PSs X [] (tS X W bS):=mJ pss_nil fun D σ H ⟨env,S,μ,rl,o⟩=>o μ H σ .refl rl.env rl.sto
theorem aE (h1:PS X st (tS X W a)) (h2:PSs X rest (tS X W b)):PSs X (st::rest) (tS X W (aP a b)):=
  mJ (pss_cons h1 h2) fun D σ H ⟨env,S,μ,rl,o⟩=>⟨env,S,μ,rl,(OutS.andThen o).mono (fun σ1 H1 ⟨μ1,env1,S1,st,re,rs,o1⟩=>⟨env1,S1,μ1,⟨re,rs⟩,o1⟩) (fun _ _ h=>h) (fun _ _ h=>h) (fun _ _ h=>h)⟩
theorem aK (h1:PS X st (tS X W a)):PSs X [st] (tS X W a):=mJ (pss_one h1) fun _ _ _ h=>h
def gD (m:ME):MS:=fun env S=>(m env S).rs env fun _ S=>.next env S
theorem fN (he:PE X e (tE X W m)) (hs:swapsWith e none pos.line X.env=pure false:=by rfl):PS X (.Expr e pos) (tS X W (gD m)):=
  gB (ps_expr he hs) fun D σ H ⟨env,S,μ,rl,o⟩=>⟨env,S,μ,rl,(OutS.rs rl.env o).mono fun x H1 ⟨μ1,S1,d,st,rs,r,o1⟩=>o1 μ1 H1 σ .refl (rl.env.step st) rs⟩
def aw (m:ME):MS:=fun env S=>(m env S).rs env fun d S=>.ret d S
theorem aQ (he:PE X e (tE X W m)):PS X (.Return (some e) pos) (tS X W (aw m)):=
  gB (ps_ret he) fun D σ H ⟨env,S,μ,rl,o⟩=>⟨env,S,μ,rl,(OutS.rs rl.env o).mono fun x H1 ⟨μ1,S1,d,st,rs,r,o1⟩=>o1 μ1 H1 x .refl rs r⟩
def sRetN:MS:=fun _ S=>.ret .none S
def pU:MS:=fun env S=>.brk env S
def sCont:MS:=fun env S=>.cont env S
/-- never come to -/
def eP:MS:=fun _ _=>.stuck
def pV:ME:=fun _ _=>.stuck
def sIf (tc:MT) (a b:MS):MS:=fun env S=>(tc env S).rs env fun c S=>if c=true then a env S else b env S
theorem a8 {ba bb:List Stmt} (hc:PT X c (tT X W tc)) (ha:PSs X ba (tS X W a)) (hb:PSs X bb (tS X W b)):PS X (.If c ba bb pos) (tS X W (sIf tc a b)):=
  gB (ps_if hc ha hb) fun D σ H ⟨env,S,μ,rl,o⟩=>⟨env,S,μ,rl,(OutS.rs rl.env o).mono fun x H1 ⟨μ1,S1,d,st,rs,r,o1⟩=>by
    subst r
    cases x with
    | true=>exact ⟨env,S1,μ1,⟨rl.env.step st,rs⟩,o1⟩
    | false=>exact ⟨env,S1,μ1,⟨rl.env.step st,rs⟩,o1⟩⟩
def gV (i:Nat):MG:=fun d env S=>some (env.set i (some d),S)
theorem b3 {i:Nat} {x:Str} (hN:X.N.Nodup) (hi:X.N[i]?=some x) (hx:Loc X.env.scope x) (hf:X.fn x=true∨X.env.scope.names.lookup x=some .local:=by first|exact .inl rfl|exact .inr rfl|assumption):PG X (.Name x pos) (tG X (gV i)):=
  je (pg_name hN hi hx hf) fun v σ H Q ⟨env,S,μ,d,rl,r,o⟩=>o μ H _ .refl (rl.env.set r) rl.sto
def dS:MGs:=fun ds env S=>match ds with
  | []=>some (env,S)
  | _=>none
def a9 (g:MG) (gs:MGs):MGs:=fun ds env S=>match ds with
  | d::ds=>(g d env S).bind fun p=>gs ds p.1 p.2
  | []=>none
theorem iS:PGs X [] (tGs X dS):=kO pgs_nil fun vs σ H Q ⟨env,S,μ,ds,rl,r,o⟩=>by
  cases ds with
  | nil=>unfold RepAll at r; exact ⟨r,o μ H σ .refl rl.env rl.sto⟩
  | cons a b=>exact o.elim
theorem co {es:List Expr} {g:MG} {gs:MGs} (h1:PG X e (tG X g)) (h2:PGs X es (tGs X gs))
    (hs:(assignEach (e::es) X.env).map (·.2)=assign e X.env::(assignEach es X.env).map (·.2):=by rfl):PGs X (e::es) (tGs X (a9 g gs)):=
  kO (pgs_cons h1 h2 hs) fun vs σ H Q ⟨env,S,μ,ds,rl,r,o⟩=>by
    cases ds with
    | nil=>exact o.elim
    | cons d ds=>
      unfold RepAll at r
      obtain ⟨v,q,rfl,r1,r2⟩:=r
      refine ⟨v,q,rfl,env,S,μ,d,rl,r1,?_⟩
      have o:OutO X.K X.mg μ H Q ((g d env S).bind fun p=>gs ds p.1 p.2):=o
      cases hq:g d env S with
      | none=>rw[hq] at o; exact o.elim
      | some p=>
        rw[hq] at o
        exact fun μ' H' σ' s t u=>⟨p.1,p.2,μ',ds,⟨t,u⟩,RepAll.step s _ _ r2,OutO.of_step s o⟩
def dG (n:Nat) (gs:MGs):MG:=fun d env S=>match vt d with
  | .tup ds=>if ds.length=n then gs ds env S else none
  | _=>none
theorem mK {es:List Expr} {k:Nat} {n:Nat} {gs:MGs} (hc:X.calm=true) (h:PGs X es (tGs X gs))
    (hn:(assignEach es X.env).length=n:=by rfl) (hst:(assignEach es X.env).findIdx? (·.1)=none:=by rfl):PG X (.Tuple es k pos) (tG X (dG n gs)):=
  je (pg_tup hc h hn hst) fun v σ H Q ⟨env,S,μ,d,rl,r,o⟩=>by
    unfold dG at o
    split at o
    · rename_i ds ev
      by_cases hl:ds.length=n
      · simp only[hl,if_true] at o
        have w:=r.wv.vt
        rw[ev] at w
        obtain ⟨a,vs,rfl,h1,h2,_⟩:=w
        exact ⟨a,vs,rfl,.inl h1,by rw[←h2.length]; exact hl,env,S,μ,ds,rl,h2,o⟩
      · simp only[hl,if_false] at o; exact o.elim
    · exact o.elim
def ofG:Option (En × Sto)→RS
  | some p=>.next p.1 p.2
  | none=>.stuck
theorem rW {K:PySem.W.Frag} {mg:Str→Option Value} {μ:Mu} {H:Hp} {D:Ends} {r:Option (En × Sto)} (o:OutS K mg W μ H D (ofG r)):OutO K mg μ H D.nx r:=by
  cases r with
  | none=>exact o
  | some p=>exact o
def lR (m:ME) (g:MG):MS:=fun env S=>(m env S).rs env fun d S=>ofG (g d env S)
theorem io {tg:Expr} {g:MG} (he:PE X e (tE X W m)) (hg:PG X tg (tG X g)) (hs:swapsWithSole [tg] e pos.line X.env=pure false:=by rfl) (hw:swappedStores [tg] e X.env=pure none:=by rfl)
    (h1:(assignEach [tg] X.env).map (·.2)=[assign tg X.env]:=by rfl):PS X (.Assign [tg] e pos) (tS X W (lR m g)):=
  gB (ps_asg he hg hs hw h1) fun D σ H ⟨env,S,μ,rl,o⟩=>⟨env,S,μ,rl,(OutS.rs rl.env o).mono fun x H1 ⟨μ1,S1,d,st,rs,r,o1⟩=>⟨env,S1,μ1,d,⟨rl.env.step st,rs⟩,r,rW o1⟩⟩
/-- a,b=x,y,both plain local names -/
def sPar (i j:Nat) (r:MA):MS:=fun env S=>(r env S).rs env fun ds S=>match ds with
  | [a,b]=>.next ((env.set i (some a)).set j (some b)) S
  | _=>.stuck
theorem mL {i j:Nat} {x y:Str} {e1 e2:Expr} {r:MA} {px py pt:Pos} {kt k2 pt2} (hc:X.calm=true) (hN:X.N.Nodup) (hi:X.N[i]?=some x) (hj:X.N[j]?=some y) (hij:i≠j)
    (hx:X.env.scope.names.lookup x=some .local) (hy:X.env.scope.names.lookup y=some .local) (ha:PA X [e1,e2] (tAs X W r))
    (hw:swappedStores [.Tuple [.Name x px,.Name y py] kt pt] (.Tuple [e1,e2] k2 pt2) X.env=pure (some [x,y]):=by rfl)
    (hs:swapsWithSole [.Tuple [.Name x px,.Name y py] kt pt] (.Tuple [e1,e2] k2 pt2) pos.line X.env=pure false:=by rfl) :
    PS X (.Assign [.Tuple [.Name x px,.Name y py] kt pt] (.Tuple [e1,e2] k2 pt2) pos) (tS X W (sPar i j r)):=
  gB (ps_par hc hN hi hj hij hx hy ha hw hs) fun D σ H ⟨env,S,μ,rl,o⟩=>⟨env,S,μ,rl,(OutS.rs rl.env o).mono fun vs H1 ⟨μ1,S1,ds,st,rs,r,o1⟩=>by
    match ds,o1 with
    | [a,b],o1=>
      unfold RepAll at r
      obtain ⟨v,q,rfl,r1,r2⟩:=r
      unfold RepAll at r2
      obtain ⟨w,q,rfl,r2,r3⟩:=r2
      unfold RepAll at r3
      subst r3
      exact ⟨v,w,rfl,o1 μ1 H1 _ .refl (((rl.env.step st).set r1).set r2) rs⟩⟩
def al (i:Nat) (m:ME):MS:=fun env S=>(m env S).rs env fun d S=>.next (env.set i (some d)) S
theorem aT {i:Nat} {x:Str} {pos':Pos} (hN:X.N.Nodup) (hi:X.N[i]?=some x) (hx:Loc X.env.scope x) (he:PE X e (tE X W m)) (hs:swapsWith e (some (.Name x pos')) pos.line X.env=pure false:=by rfl) (hf:X.fn x=true∨X.env.scope.names.lookup x=some .local:=by first|exact .inl rfl|exact .inr rfl|assumption) :
    PS X (.Assign [.Name x pos'] e pos) (tS X W (al i m)):=
  gB (ps_set hN hi hx he hs hf) fun D σ H ⟨env,S,μ,rl,o⟩=>⟨env,S,μ,rl,(OutS.rs rl.env o).mono fun x H1 ⟨μ1,S1,d,st,rs,r,o1⟩=>o1 μ1 H1 _ .refl ((rl.env.step st).set r) rs⟩
/-- x op= e -/
def sAug (i:Nat) (f:Sto→D→D→Option D) (m:ME):MS:=fun env S=>match env[i]? with
  | some (some a)=>(m env S).rs env fun b S=>match f S a b with
    | some d=>.next (env.set i (some d)) S
    | none=>.stuck
  | _=>.stuck
end
end DL
namespace PySem
open PySem PySem.Sem
set_option maxHeartbeats 1000000 in
theorem gE {v:Value} {o:Obj} {H:Heap→Prop} (B:Begins v o H) :
    Meets (Builtin.«enumerate.__new__» ⟨[.type "enumerate",v],[]⟩) (fun _ R s=>H s.heap∧
      R (.ok (.ret (.ref (s.heap.push o).objs.size))) { s with heap:=(s.heap.push o).push { cls:=.type "enumerate",data:=.fields #[.none,.bool false,.ref s.heap.objs.size,rawInt 0,.none,.none] } }):=
  .of_wp fun prog w A R s h=>by
    obtain ⟨hp,g,d,tk,os⟩:=s; obtain ⟨h1,h⟩:=h
    have hsub:=sub_enumerate
    have q1:∀ {A':Around} {E:Value→Shared→Prop} {Q:Value→Shared→Prop},Q (.ref hp.objs.size) ⟨hp.push o,g,d,tk,os⟩→wpAny (model prog w) A' (pyIter v) Q E ⟨hp,g,d,tk,os⟩:=
      fun q=>B.iter prog w _ _ ⟨hp,g,d,tk,os⟩ _ h1 q
    wp_walk using q1
    refine wpAny_stack_any fun st=>wpAny_pure ?_
    split
    · rename_i c _ _ _ _ _
      cases (c == Value.type "enumerate")
      · wp_walk using q1
        exact ⟨_,rfl,h⟩
      · wp_walk using q1
        exact ⟨_,rfl,h⟩
    · wp_walk using q1
      exact ⟨_,rfl,h⟩
theorem dl_enum_begins {prog:Program} {w:World} {A:Around} {E:Value→Shared→Prop} {s:Shared} {v:Value} {o:Obj} {H:Heap→Prop} {Q:Value→Shared→Prop} (B:Begins v o H) (h1:H s.heap)
    (h:∀h',IsEnum h' (s.heap.objs.size+1) s.heap.objs.size 0 .none→h'.get? s.heap.objs.size=some o→h'.objs.size=s.heap.objs.size+2→
      (∀b o,s.heap.get? b=some o→h'.get? b=some o)→Q (.ref (s.heap.objs.size+1)) { s with heap:=h' }) :
    wpAny (model prog w) A (call (.type "enumerate") [v]) Q E s:=by
  refine callType_new F.called_enumerate (by decide) (F.typeCall_enumerate_1 _) (F.newCall_enumerate_1 _) (fun obj=>F.args_object_init_2 obj _) F.entry_enumerate_new
    (gE B) ⟨h1,?_⟩
  have hz:(s.heap.push o).objs.size=s.heap.objs.size+1:=Heap.size_push ..
  show _∧_
  rw[hz]
  have he:IsEnum ((s.heap.push o).push { cls:=.type "enumerate",data:=.fields #[.none,.bool false,.ref s.heap.objs.size,rawInt 0,.none,.none] }) (s.heap.objs.size+1) s.heap.objs.size 0 .none:=by
    have:=Heap.get?_push_size (s.heap.push o) (o:={ cls:=.type "enumerate",data:=.fields #[.none,.bool false,.ref s.heap.objs.size,rawInt 0,.none,.none] }) rfl
    rw[hz] at this; exact this
  refine ⟨⟨_,he,rfl⟩,h _ he (Heap.get?_push_of_some _ (Heap.get?_push_size _ B.free)) (by rw[Heap.size_push,hz]) fun b o x=>Heap.get?_push_of_some _ (Heap.get?_push_of_some _ x)⟩
end PySem
namespace DL
open PySem PySem.Spec PyProof.Rows L2
theorem pW {H:Hp} {a b:Addr} {u:HO} (h:Rd H a u) (n:H b=none):a≠b:=fun z=>by
  subst z
  rcases h with h|⟨o,h⟩<;>(rw[n] at h; cases h)
def IteT (a:Addr):It:=
  ⟨fun i H=>∃(xs:List V) (x:V),Rd H a (.tup xs)∧xs[i]?=some x,fun i H v H'=>∃T x,v=.ref T∧H T=none∧H'=upd H T (.tup [.int (i:Nat),x])∧∀xs,Rd H a (.tup xs)→xs[i]?=some x,fun i H=>∃xs:List V,Rd H a (.tup xs)∧xs.length=i⟩
theorem mM {P:Program} {w:World} {K:PySem.W.Frag} {elts:List Expr} {kk:Nat} {tpos:Pos} (a e it:Addr) :
    Turn P w K (.Tuple elts kk tpos) (IteT a) [e,it] e (fun i h=>(∃old,IsEnum h e it ((i:Nat):Int) old)∧h.IsTupleIter it a i∧e≠it) where
  mem:=by simp
  obj:=fun i h st b hb=>by
    obtain ⟨⟨old,he⟩,⟨o,ho,hc,hd⟩,_⟩:=st
    have e':b=e∨b=it:=by simpa using hb
    rcases e' with z|z
    · rw[z]; exact ⟨_,he,fun v q=>nomatch q⟩
    · rw[z]; exact ⟨o,ho,fun v q=>by rw[hd] at q; cases q⟩
  keep:=fun i h h' st k=>let ⟨⟨old,he⟩,hi,hne⟩:=st; ⟨⟨old,k e (by simp) _ he⟩,hi.at fun o q=>k it (by simp) o q,hne⟩
  item:=by
    intro X hP hw hK hc i pins s σ H E I hf st hg
    subst hP hw hK
    obtain ⟨⟨old,he⟩,hit,hne⟩:=st
    obtain ⟨xs,x,hq,hx⟩:=hg
    obtain ⟨its,rv,p,hz⟩:=I.tuple (.inl hq)
    obtain ⟨u,hu,ru⟩:=rv.get hx
    have hel:e<s.heap.objs.size:=Heap.lt_size he
    have hil:it<s.heap.objs.size:=by obtain ⟨_,q,_⟩:=hit; exact Heap.lt_size q
    have hai:a≠it:=pW hq (hf it (by simp)).1
    have hae:a≠e:=pW hq (hf e (by simp)).1
    have D:=PySem.Draws.tuple (prog:=X.prog) (w:=X.w) (A:=X.A.in1) (I.ok.hd hc) it a hai its.toArray
    have hlt:i<its.toArray.size:=by
      have:=(List.getElem?_eq_some_iff.mp hu).1
      simpa using this
    refine PySem.wpAny_pyNext_enum_itemD D he ⟨hit,p⟩ hlt hne (by simp[hne,hae.symm]) fun x' h' tk hx' ho hit' hT hsz hk=>?_
    have ex:x'=u:=by
      have q:its.toArray[i]?=some x':=hx'
      have q2:its.toArray[i]?=some u:=by simpa using hu
      rw[q] at q2; exact Option.some.inj q2
    subst ex
    refine ⟨_,rfl,wpAny_letOwnedTupleGo_enum (s:={ s with heap:=h',toks:=tk+1 }) ho fun h'' he' sb=>?_⟩
    have hT2:h''.get? s.heap.objs.size=some { cls:=.type "tuple",data:=.seq #[.int i tk,x'] }:=(sb.2 _ (Nat.ne_of_gt hel)).trans hT
    have new:ObjOk X.prog X.w (upd H s.heap.objs.size (.tup [.int (i:Nat),x])) h'' s.heap.objs.size (.tup [.int (i:Nat),x]):=
      ⟨by show 2≤sizeLine; decide,[.int i tk,x'],.cons ⟨_,rfl⟩ (.cons ru .nil),⟨_,hT2,rfl,_,rfl⟩⟩
    have I1:L2.Inv X pins σ (upd H s.heap.objs.size (.tup [.int (i:Nat),x])) { s with heap:=h'',toks:=tk+1 }:=
      I.turnedNew (ch:=[e,it]) (fun b ob hb q=>(sb.2 b (fun z=>hb (by simp[z]))).trans (hk b ob (fun z=>hb (by simp[z])) (fun z=>hb (by simp[z])) q)) hf (Nat.le_refl _) new
    refine ⟨.ref s.heap.objs.size,_,I1,rfl,⟨_,x,rfl,I.hok.fresh (Nat.le_refl _),rfl,fun ys hy=>by rw[I.tuple_inj (.inl hy) (.inl hq)]; exact hx⟩,⟨⟨x',?_⟩,hit'.1.at fun o q=>(sb.2 it (Ne.symm hne)).trans q,hne⟩,fun b hb=>?_⟩
    · have e1:((i+1:Nat):Int)=(i:Int)+1:=by omega
      rw[e1]; exact he'
    · have hb':b<s.heap.objs.size:=by
        have e':b=e∨b=it:=by simpa using hb
        rcases e' with z|z
        · rw[z]; exact hel
        · rw[z]; exact hil
      rw[upd_ne (Nat.ne_of_lt hb')]
      exact (hf b hb).1
  done:=by
    intro X hP hw hK hc i pins s σ H E I hf st hg
    subst hP hw hK
    obtain ⟨⟨old,he⟩,hit,hne⟩:=st
    obtain ⟨xs,hq,hx⟩:=hg
    obtain ⟨its,rv,p,hz⟩:=I.tuple (.inl hq)
    obtain ⟨f0,f1,f2,f3,f4,f5⟩:=hf it (by simp)
    have hl:=rv.length
    have hai:a≠it:=pW hq (hf it (by simp)).1
    have hsz:its.toArray.size=i:=by simp; omega
    have D:=PySem.Draws.tuple (prog:=X.prog) (w:=X.w) (A:=X.A.in1) (I.ok.hd hc) it a hai its.toArray
    exact PySem.wpAny_pyNext_enum_endD D he (show _ from ⟨by rw[hsz]; exact hit,p⟩) fun h' eb=>⟨rfl,I.turned (t':=s.toks) (fun b o hb q=>eb b o hb q) f0 f1 f3 f4 f5⟩
  self:=fun A i s Q E st h=>let ⟨⟨_,he⟩,_⟩:=st; wpAny_pyIter_enum he h
inductive ItD where
  | items (ds:List D)|live (l:Nat)|liveE (l:Nat)
abbrev MI:=En→Sto→Res ItD
structure dH (K:PySem.W.Frag) (mg:Str→Option Value) (μ1:Mu) (H1:Hp) (ds:List D) (J:It):Prop where
  goes:∀i μ H,i<ds.length→Stp μ1 H1 μ H→J.go i H
  stops:∀μ H,Stp μ1 H1 μ H→J.stop ds.length H
  yields:∀i d μ H S x H',ds[i]?=some d→Stp μ1 H1 μ H→RelS K mg μ H S→J.yld i H x H'→Sm H H'∧Rep K mg μ H' d x
def WalkOk (K:PySem.W.Frag) (mg:Str→Option Value) (μ1:Mu) (H1:Hp):ItD→It→Prop
  | .items ds,J=>dH K mg μ1 H1 ds J
  | .live l,J=>∃a,μ1.l[l]?=some a∧J=Itl K a
  | .liveE l,J=>∃a,μ1.l[l]?=some a∧J=Ite K a
def tI (X:Cx) (W:WX) (mi:MI):TI:=fun σ H R=>tM X (fun μ H it J=>WalkOk X.K X.mg μ H it J) W mi σ H R
theorem pi_to {X:Cx} {tg e:Expr} {t t':TI} (h:PI X tg e t) (i:∀σ H R,t' σ H R→t σ H R):PI X tg e t':=⟨fun pins s σ H R I w=>h.run pins s σ H R I (i σ H R w)⟩
def bQ (z:Str):List D:=z.cps.toList.map fun c=>.str ⟨#[c]⟩
def bj (S:Sto) (d:D):Option ItD:=match vt d with
  | .tup xs=>some (.items xs)
  | .lst xs=>some (.items xs)
  | .ro xs=>some (.items xs)
  | .str z=>some (.items (bQ z))
  | .loc l=>match S[l]? with
    | some (.lst _)=>some (.live l)
    | some (.fdc _ kvs)=>some (.items (kvs.map (·.1)))
    | _=>none
  | _=>none
def fV (m:ME):MI:=fun env S=>(m env S).bind fun d S=>ofO S (bj S d)
section
variable {K:PySem.W.Frag} {mg:Str→Option Value} {μ:Mu} {H:Hp} {a:Addr} {xs:List D} {vs:List V}
theorem oS (h:Rd H a (.tup vs)) (n:a∉μ) (r:RepAll K mg μ H xs vs):dH K mg μ H xs (Itt K a) where
  goes:=fun i μ' H' hi st=>⟨vs,vs[i]'(by rw[←r.length]; exact hi),.inl (c8 st h n).1,by simp⟩
  stops:=fun μ' H' st=>⟨vs,.inl (c8 st h n).1,by rw[r.length]; exact Nat.le_refl _⟩
  yields:=fun i d μ' H' S x H2 e st rs y=>by
    obtain ⟨rfl,y⟩:=y
    obtain ⟨v,h1,h2⟩:=r.get e
    have q:=y vs (.inl (c8 st h n).1)
    rw[h1] at q; cases q
    exact ⟨.rfl,Rep.stp st _ _ h2⟩
theorem jf (h:L2.SqL K H a vs) (hs:∀μ' H',Stp μ H μ' H'→L2.SqL K H' a vs) (r:RepAll K mg μ H xs vs):dH K mg μ H xs (Itl K a) where
  goes:=fun i μ' H' hi st=>⟨vs,vs[i]'(by rw[←r.length]; exact hi),hs _ _ st,by simp⟩
  stops:=fun μ' H' st=>⟨vs,hs _ _ st,by rw[r.length]; exact Nat.le_refl _⟩
  yields:=fun i d μ' H' S x H2 e st rs y=>by
    obtain ⟨rfl,y⟩:=y
    obtain ⟨v,h1,h2⟩:=r.get e
    have q:=y vs (hs _ _ st)
    rw[h1] at q; cases q
    exact ⟨.rfl,Rep.stp st _ _ h2⟩
theorem RelS.ntup {S:Sto} (rs:RelS K mg μ H S) {q:Addr} {us:List V} (e:H q=some (.tup us)):q∉μ:=fun z=>by
  rcases z with z|z
  · obtain ⟨l,hl,e2⟩:=List.getElem_of_mem z
    have hl2:l<S.length:=by rw[rs.len]; exact hl
    obtain ⟨a',h1,h2⟩:=rs.at_ l _ (List.getElem?_eq_getElem hl2)
    rw[List.getElem?_eq_getElem hl,e2] at h1; cases h1
    generalize S[l]=o at h2
    cases o with
    | lst ds=>obtain ⟨vs,h1,h2⟩:=h2; rw[e] at h1; cases h1
    | dct t kvs=>cases t<;>(obtain ⟨vs,ks,⟨q,k⟩,h2⟩:=h2; rw[e] at q; cases q)
    | ins C fs=>obtain ⟨Ca,dx,vs,g,h1,h2⟩:=h2; rw[e] at h1; cases h1
    | fdc t kvs=>cases t<;>(obtain ⟨vs,ks,⟨⟨od,q⟩,k⟩,h2⟩:=h2; rw[e] at q; cases q)
  · obtain ⟨u,h1,h2⟩:=rs.hid q z
    rw[e] at h1; cases h1
    rcases h2 with ⟨_,h⟩|⟨_,h⟩|⟨_,h⟩<;>cases h
theorem lS (k:Key):Rep K mg μ H (cV k) (kV k):=by
  cases k with
  | inl i=>exact au i
  | inr x=>exact bL x
theorem jg:∀ks:List Key,RepAll K mg μ H (ks.map cV) (ks.map kV)
  | []=>.nil
  | k::ks=>.cons (lS k) (jg ks)
theorem mN {od:Obj} {ks:List Key} {us:List V} (h:H a=some (.frz od (.dK (ks.zip us)))) (hl:ks.length=us.length):dH K mg μ H (ks.map cV) (Itk a od (ks.zip us)) where
  goes:=fun i μ' H' hi st=>⟨st.kf _ _ _ h,by simp at hi ⊢; omega⟩
  stops:=fun μ' H' st=>⟨st.kf _ _ _ h,by simp; omega⟩
  yields:=fun i d μ' H' S x H2 e st rs y=>by
    obtain ⟨rfl,k,v,h1,rfl⟩:=y
    have hk:ks[i]?=some k:=by
      have:=congrArg (Option.map (·.1)) h1
      rw[←List.getElem?_map,List.map_fst_zip (by omega)] at this
      simpa using this
    rw[List.getElem?_map,hk] at e
    cases e
    exact ⟨.rfl,lS k⟩
theorem lT {od:Obj} {ks:List (List Key)} {us:List V} (h:H a=some (.frz od (.dT (ks.zip us)))) (hl:ks.length=us.length):dH K mg μ H (ks.map di) (Itkt a od (ks.zip us)) where
  goes:=fun i μ' H' hi st=>⟨st.kf _ _ _ h,by simp at hi ⊢; omega⟩
  stops:=fun μ' H' st=>⟨st.kf _ _ _ h,by simp; omega⟩
  yields:=fun i d μ' H' S x H2 e st rs y=>by
    obtain ⟨rfl,k,v,q,h1,rfl,h2⟩:=y
    have hk:ks[i]?=some k:=by
      have:=congrArg (Option.map (·.1)) h1
      rw[←List.getElem?_map,List.map_fst_zip (by omega)] at this
      simpa using this
    rw[List.getElem?_map,hk] at e
    cases e
    refine ⟨.rfl,?_⟩
    unfold di Rep
    exact ⟨q,_,rfl,h2,rs.ntup h2,jg k⟩
theorem lU {κ:Type} {g:κ→D} {kvs:List (D × D)} {ks:List κ} {us:List V} (e:kvs.map (·.1)=ks.map g) (r:RepAll K mg μ H (kvs.map (·.2)) us):ks.length=us.length:=by
  have h1:=congrArg List.length e
  have h2:=r.length
  simp at h1 h2
  omega
theorem oU (z:Str):dH K mg μ H (bQ z) (Its z) where
  goes:=fun i μ' H' hi st=>by
    have:(bQ z).length=z.cps.size:=by simp[bQ]
    show i<z.cps.size
    omega
  stops:=fun μ' H' st=>by
    show z.cps.size≤(bQ z).length
    simp[bQ]
  yields:=fun i d μ' H' S x H2 e st rs y=>by
    obtain ⟨rfl,c,hc,rfl⟩:=y
    refine ⟨.rfl,?_⟩
    unfold bQ at e
    rw[List.getElem?_map] at e
    have:z.cps.toList[i]?=some c:=by simpa using hc
    rw[this] at e
    cases e
    exact bL _
end
section
variable {X:Cx} {W:WX} {tg e:Expr} {m:ME}
theorem kP {pins:List (Addr × Obj)} {s1:Shared} {σ:L2.St} {H1:Hp} {R:It→Hp→Prop} {E:Value→Shared→Prop} {a:Addr} {xs:List V} (I1:L2.Inv X pins σ H1 s1) (hq:L2.SqL X.K H1 a xs) (q:R (Itl X.K a) H1) :
    wpAny (model X.prog X.w) X.A (pyIter (.ref a)) (PIE X pins σ tg R) E s1:=by
  obtain ⟨its,rv,p,hz⟩:=I1.list hq
  refine wpAny_pyIter_list p.isList ?_
  refine ⟨s1.heap.objs.size,[s1.heap.objs.size],_,_,H1,rfl,I1.kept (t':=s1.toks) fun b o e=>Heap.get?_push_of_some _ e,turn_list a _,⟨_,Heap.get?_push_size _ rfl,rfl,rfl⟩,fun b hb=>?_,q⟩
  have e:b=s1.heap.objs.size:=by simpa using hb
  subst e
  exact I1.fpOk (Nat.le_refl _) (I1.hok.fresh (Nat.le_refl _))
theorem it_tup {pins:List (Addr × Obj)} {s1:Shared} {σ:L2.St} {H1:Hp} {R:It→Hp→Prop} {E:Value→Shared→Prop} {a:Addr} {xs:List V} (I1:L2.Inv X pins σ H1 s1) (hq:L2.SqT X.K H1 a xs) (q:R (Itt X.K a) H1) :
    wpAny (model X.prog X.w) X.A (pyIter (.ref a)) (PIE X pins σ tg R) E s1:=by
  obtain ⟨its,rv,p,hz⟩:=I1.tuple hq
  refine wpAny_pyIter_tuple (show s1.heap.IsTuple a its.toArray from p) ?_
  refine ⟨s1.heap.objs.size,[s1.heap.objs.size],_,_,H1,rfl,I1.kept (t':=s1.toks) fun b o e=>Heap.get?_push_of_some _ e,turn_tuple a _,⟨_,Heap.get?_push_size _ rfl,rfl,rfl⟩,fun b hb=>?_,q⟩
  have e:b=s1.heap.objs.size:=by simpa using hb
  subst e
  exact I1.fpOk (Nat.le_refl _) (I1.hok.fresh (Nat.le_refl _))
theorem rX {pins:List (Addr × Obj)} {s1:Shared} {σ:L2.St} {H1:Hp} {R:It→Hp→Prop} {E:Value→Shared→Prop} {d:Addr} {o:Obj} {kvs:List (Key × V)} (I1:L2.Inv X pins σ H1 s1) (hd:H1 d=some (.frz o (.dK kvs))) (q:R (Itk d o kvs) H1) :
    wpAny (model X.prog X.w) X.A (pyIter (.ref d)) (PIE X pins σ tg R) E s1:=by
  obtain ⟨hs,hgd,hx,es,ep,vs,hdt,hsz,kv,hm⟩:=I1.frzK hd
  refine iter_keys hs hgd hx hdt (pi_one (tk:=s1.toks) I1 _ (turn_keys _ hdt) ⟨_,Heap.get?_push_size _ rfl,rfl,?_⟩ q)
  rw[hsz]<;>rfl
theorem pX {pins:List (Addr × Obj)} {s1:Shared} {σ:L2.St} {H1:Hp} {R:It→Hp→Prop} {E:Value→Shared→Prop} {d:Addr} {o:Obj} {kvs:List (List Key × V)} (I1:L2.Inv X pins σ H1 s1) (hd:H1 d=some (.frz o (.dT kvs))) (q:R (Itkt d o kvs) H1) :
    wpAny (model X.prog X.w) X.A (pyIter (.ref d)) (PIE X pins σ tg R) E s1:=by
  obtain ⟨hs,hgd,hx,es,ep,hdt,hsz,ent⟩:=I1.frzT hd
  refine iter_keys hs hgd hx hdt (pi_one (tk:=s1.toks) I1 _ (turn_keysT _ hdt) ⟨_,Heap.get?_push_size _ rfl,rfl,?_⟩ q)
  rw[hsz]<;>rfl
/-- a text's value walked -/
theorem it_str {pins:List (Addr × Obj)} {s1:Shared} {σ:L2.St} {H1:Hp} {R:It→Hp→Prop} {z:Str} {v:Value} (I1:L2.Inv X pins σ H1 s1) (r:RelV (.str z) v) (q:R (Its z) H1) :
    wpAny (model X.prog X.w) X.A (pyIter v) (PIE X pins σ tg R) X.xe s1:=by
  obtain ⟨t,rfl⟩:=r
  cases ha:z.cps.all (·<128)
  · exact wpAny_pyIter_wide ha (pi_one (tk:=s1.toks) I1 _ (turn_str _ z t "str_iterator" (.inr rfl)) ⟨_,Heap.get?_push_size _ rfl,rfl,rfl⟩ q)
  · exact wpAny_pyIter_ascii ha (pi_one (tk:=s1.toks) I1 _ (turn_str _ z t "str_ascii_iterator" (.inl rfl)) ⟨_,Heap.get?_push_size _ rfl,rfl,rfl⟩ q)
theorem hJ {d e:D} (h:vt d=e) (n:∀xs,e≠.tup xs):d=e:=by
  cases d with
  | tpn xs=>exact absurd h.symm (n xs)
  | _=>exact h
theorem cY (h:PE X e (tE X W m)):PI X tg e (tI X W (fV m)):=⟨fun pins s σ H R I ⟨env,S,μ,rl,o⟩=>by
  refine thn (h.run pins s σ H _ I ⟨env,S,μ,rl,Out.bind o⟩) fun v s1 ⟨x,H1,I1,r1,μ1,S1,d,st,rs,rd,o1⟩=>?_
  have rw0:=rd.wv.vt
  unfold bj at o1
  split at o1
  · rename_i ev
    rw[ev] at rw0
    obtain ⟨a,vs,rfl,h1,h2,n⟩:=rw0
    cases r1
    exact it_tup I1 (.inl h1) (o1 _ _ _ .refl rs (oS h1 n h2))
  · rename_i ev
    rw[hJ ev nofun] at rd
    unfold Rep at rd
    obtain ⟨a,vs,rfl,h1,n,h2⟩:=rd
    cases r1
    exact kP I1 (.of h1) (o1 _ _ _ .refl rs (jf (.of h1) (fun _ _ st=>.of (st.keep _ _ h1 n)) h2))
  · rename_i ev
    rw[hJ ev nofun] at rd
    unfold Rep at rd
    obtain ⟨a,vs,rfl,h1,h2⟩:=rd
    cases r1
    exact kP I1 h1.sq (o1 _ _ _ .refl rs (jf h1.sq (fun _ _ st=>(h1.stp st).sq) h2))
  · rename_i ev
    rw[hJ ev nofun] at rd
    unfold Rep at rd
    subst rd
    exact it_str I1 r1 (o1 _ _ _ .refl rs (oU _))
  · rename_i ev
    rw[hJ ev nofun] at rd
    unfold Rep at rd
    obtain ⟨a,rfl,hμ⟩:=rd
    cases r1
    split at o1
    · rename_i xs es
      obtain ⟨a',h1,vs,h2,h3⟩:=rs.at_ _ _ es
      rw[hμ] at h1; cases h1
      exact kP I1 (.of h2) (o1 _ _ _ .refl rs ⟨_,hμ,rfl⟩)
    · rename_i t kvs es
      obtain ⟨a',h1,h2⟩:=rs.at_ _ _ es
      rw[hμ] at h1; cases h1
      cases t with
      | false=>
        obtain ⟨vs,ks,⟨⟨od,q⟩,hk⟩,rr⟩:=h2
        rw[hk] at o1
        exact rX I1 q (o1 _ _ _ .refl rs (mN q (lU hk rr)))
      | true=>
        obtain ⟨vs,ks,⟨⟨od,q⟩,hk⟩,rr⟩:=h2
        rw[hk] at o1
        exact pX I1 q (o1 _ _ _ .refl rs (lT q (lU hk rr)))
    · exact o1.elim
  · exact o1.elim⟩
def gF (lo:Int) (n:Nat):List D:=(List.range n).map fun i=>.int (lo+(i:Nat))
theorem oV {K:PySem.W.Frag} {mg:Str→Option Value} {μ:Mu} {H:Hp} (lo:Int) (n:Nat):dH K mg μ H (gF lo n) (Itr lo n) where
  goes:=fun i μ' H' hi st=>by
    have:(gF lo n).length=n:=by simp[gF]
    show i<n
    omega
  stops:=fun μ' H' st=>by
    show n≤(gF lo n).length
    simp[gF]
  yields:=fun i d μ' H' S x H2 e st rs y=>by
    obtain ⟨rfl,rfl⟩:=y
    refine ⟨.rfl,?_⟩
    unfold gF at e
    rw[List.getElem?_map] at e
    obtain ⟨j,hj,hd⟩:=Option.map_eq_some_iff.mp e
    have:j=i:=by
      have q:=List.getElem?_eq_some_iff.mp hj
      obtain ⟨h1,h2⟩:=q
      rw[List.getElem_range] at h2
      exact h2.symm
    subst this
    subst hd
    exact au _
/-- of at most 63 bits; no kernel is to reckon it -/
noncomputable def ay (i:Int):Bool:=@decide (-(2 ^ 62)≤i∧i<2 ^ 62) (Classical.propDecidable _)
theorem smallI_iff {i:Int}:ay i=true ↔ -(2 ^ 62)≤i∧i<2 ^ 62:=by
  unfold ay
  exact @decide_eq_true_iff _ (Classical.propDecidable _)
noncomputable def cy (r:MA):MI:=fun env S=>(r env S).bind fun ds S=>match ds with
  | [.int j]=>if ay j then .ok (.items (gF 0 j.toNat)) S else .stuck
  | _=>.stuck
noncomputable def pY (r:MA):MI:=fun env S=>(r env S).bind fun ds S=>match ds with
  | [.int i,.int j]=>if ay i&&ay j then .ok (.items (gF i (j - i).toNat)) S else .stuck
  | _=>.stuck
variable {a b:Expr} {p pos:Pos} {r:MA}
theorem bC {K:PySem.W.Frag} {mg:Str→Option Value} {μ:Mu} {H:Hp} {a:D} {vs:List V} (h:RepAll K mg μ H [a] vs):∃v,vs=[v]∧Rep K mg μ H a v:=by
  unfold RepAll at h
  obtain ⟨v,q,rfl,r1,r2⟩:=h
  unfold RepAll at r2
  subst r2
  exact ⟨v,rfl,r1⟩
theorem gG {K:PySem.W.Frag} {mg:Str→Option Value} {μ:Mu} {H:Hp} {a b:D} {vs:List V} (h:RepAll K mg μ H [a,b] vs):∃v w,vs=[v,w]∧Rep K mg μ H a v∧Rep K mg μ H b w:=by
  unfold RepAll at h
  obtain ⟨v,q,rfl,r1,r2⟩:=h
  obtain ⟨w,rfl,r3⟩:=bC r2
  exact ⟨v,w,rfl,r1,r3⟩
theorem eQ (hg:Gl X "range") (hm:X.mg "range"=none) (ha:PA X [a] (tAs X W r)) (hs:starEach [a] X.env=[(false,eval a X.env)]:=by rfl):PI X tg (.Call (.Name "range" p) [a] [] pos) (tI X W (cy r)):=
  pi_to (pi_range1 hg hm ha hs) fun σ H R ⟨env,S,μ,rl,o⟩=>⟨env,S,μ,rl,(Out.bind o).mono fun vs H1 ⟨μ1,S1,ds,st,rs,rd,o1⟩=>by
    split at o1
    · rename_i j
      obtain ⟨v,rfl,r1⟩:=bC rd
      unfold Rep at r1
      subst r1
      split at o1
      · rename_i hj
        rw[smallI_iff] at hj
        exact ⟨j,rfl,hj.1,hj.2,o1 _ _ _ .refl rs (oV 0 _)⟩
      · exact o1.elim
    · exact o1.elim⟩
def bp (n:Nat):List D→List D
  | []=>[]
  | d::ds=>.tup [.int (n:Nat),d]::bp (n+1) ds
theorem gk:∀(ds:List D) (n i:Nat) (d:D),(bp n ds)[i]?=some d→∃e,ds[i]?=some e∧d=.tup [.int ((n+i:Nat):Int),e]
  | [],n,i,d,h=>by simp[bp] at h
  | a::ds,n,0,d,h=>by
    simp[bp] at h
    exact ⟨a,rfl,h.symm⟩
  | a::ds,n,i+1,d,h=>by
    have h:(bp (n+1) ds)[i]?=some d:=by simpa [bp] using h
    obtain ⟨e,h1,h2⟩:=gk ds (n+1) i d h
    exact ⟨e,by simpa using h1,by rw[h2]; congr 3; omega⟩
theorem cQ:∀(ds:List D) (n:Nat),(bp n ds).length=ds.length
  | [],_=>rfl
  | a::ds,n=>by simp[bp,cQ ds]
theorem lV {K:PySem.W.Frag} {mg:Str→Option Value} {μ:Mu} {H:Hp} {a:Addr} {xs:List D} {vs:List V} (h:Rd H a (.tup vs)) (n:a∉μ) (r:RepAll K mg μ H xs vs):dH K mg μ H (bp 0 xs) (IteT a) where
  goes:=fun i μ' H' hi st=>⟨vs,vs[i]'(by rw[cQ] at hi; rw[←r.length]; exact hi),(c8 st h n).1,by simp⟩
  stops:=fun μ' H' st=>⟨vs,(c8 st h n).1,by rw[cQ,r.length]⟩
  yields:=fun i d μ' H' S x H2 e st rs y=>by
    obtain ⟨T,w,rfl,hT,rfl,y⟩:=y
    obtain ⟨d',h1,h2⟩:=gk _ _ _ _ e
    obtain ⟨v,h3,h4⟩:=r.get h1
    have q:=y vs ((c8 st h n).1)
    rw[h3] at q; cases q
    subst h2
    exact ⟨.upd hT,bF rs hT (.cons (by rw[Nat.zero_add]; exact au _) (.cons (Rep.stp st _ _ h4) .nil))⟩
theorem lW {K:PySem.W.Frag} {mg:Str→Option Value} {μ:Mu} {H:Hp} {a:Addr} {xs:List D} {vs:List V} (h:L2.SqL K H a vs) (hs:∀μ' H',Stp μ H μ' H'→L2.SqL K H' a vs) (r:RepAll K mg μ H xs vs):dH K mg μ H (bp 0 xs) (Ite K a) where
  goes:=fun i μ' H' hi st=>⟨vs,vs[i]'(by rw[cQ] at hi; rw[←r.length]; exact hi),hs _ _ st,by simp⟩
  stops:=fun μ' H' st=>⟨vs,hs _ _ st,by rw[cQ,r.length]; exact Nat.le_refl _⟩
  yields:=fun i d μ' H' S x H2 e st rs y=>by
    obtain ⟨T,w,rfl,hT,rfl,y⟩:=y
    obtain ⟨d',h1,h2⟩:=gk _ _ _ _ e
    obtain ⟨v,h3,h4⟩:=r.get h1
    have q:=y vs (hs _ _ st)
    rw[h3] at q; cases q
    subst h2
    exact ⟨.upd hT,bF rs hT (.cons (by rw[Nat.zero_add]; exact au _) (.cons (Rep.stp st _ _ h4) .nil))⟩
def eR (r:MA):MI:=fun env S=>(r env S).bind fun ds S=>match ds.map vt with
  | [.tup xs]=>.ok (.items (bp 0 xs)) S
  | [.lst xs]=>.ok (.items (bp 0 xs)) S
  | [.loc l]=>match S[l]? with
    | some (.lst _)=>.ok (.liveE l) S
    | _=>.stuck
  | _=>.stuck
theorem gm {K:PySem.W.Frag} {mg:Str→Option Value} {μ:Mu} {H:Hp} {d0:D} {ds:List D} {vs:List V} (r:RepAll K mg μ H ds vs) (e:ds.map vt=[d0]):∃d v,ds=[d]∧vt d=d0∧vs=[v]∧Rep K mg μ H d v:=by
  match ds,e with
  | [d],e=>
    obtain ⟨v,rfl,r1⟩:=bC r
    exact ⟨d,v,rfl,by simpa using e,rfl,r1⟩
theorem fq {K:PySem.W.Frag} {mg:Str→Option Value} {μ:Mu} {H:Hp} {d0 d1:D} {ds:List D} {vs:List V} (r:RepAll K mg μ H ds vs) (e:ds.map vt=[d0,d1]):∃d d' v w,ds=[d,d']∧(vt d=d0∧vt d'=d1)∧vs=[v,w]∧Rep K mg μ H d v∧Rep K mg μ H d' w:=by
  match ds,e with
  | [d,d'],e=>
    obtain ⟨v,w,rfl,r1,r2⟩:=gG r
    exact ⟨d,d',v,w,rfl,by simpa using e,rfl,r1,r2⟩
theorem kQ {tpos:Pos} {elts:List Expr} {kk:Nat} (hg:Gl X "enumerate") (hm:X.mg "enumerate"=none) (ha:PA X [e] (tAs X W r)) (hs:starEach [e] X.env=[(false,eval e X.env)]:=by rfl) :
    PI X (.Tuple elts kk tpos) (.Call (.Name "enumerate" p) [e] [] pos) (tI X W (eR r)):=by
  refine ⟨fun pins s σ H R I ⟨env,S,μ,rl,o⟩=>?_⟩
  refine Call_ (ld_blt I hg hm boot_enumerate (PyProof.Rows.callWith_type1 (thn (ha.run pos pins s σ H _ I ⟨env,S,μ,rl,Out.bind o⟩) fun us s1 ⟨vs,H1,I1,r1,μ1,S1,ds,st,rs,rd,o1⟩=>?_) hs rfl))
  have fresh2:∀b∈[s1.heap.objs.size+1,s1.heap.objs.size],FpOk X pins H1 b:=fun b hb=>by
    have e':b=s1.heap.objs.size+1∨b=s1.heap.objs.size:=by simpa using hb
    have hle:s1.heap.objs.size≤b:=by
      rcases e' with z|z
      · rw[z]; exact Nat.le_add_right _ _
      · rw[z]; exact Nat.le_refl _
    exact I1.fpOk hle (I1.hok.fresh hle)
  split at o1
  · rename_i xs ev
    obtain ⟨d,v,rfl,ed,rfl,r2⟩:=gm rd ev
    have r2:=r2.wv.vt
    rw[ed] at r2
    obtain ⟨a,ws,rfl,h1,h2,n⟩:=r2
    cases r1 with
    | cons ra rr=>
      cases rr
      cases ra
      obtain ⟨its,rv,p',hz⟩:=I1.tuple (.inl h1)
      refine PySem.dl_enum_begins (PySem.begins_tuple a its.toArray) (show s1.heap.IsTuple a its.toArray from p') fun h' he ho hsz hk=>wpAny_pyIter_enum he ?_
      have I2:L2.Inv X pins σ H1 { s1 with heap:=h' }:=I1.kept (t':=s1.toks) hk
      exact ⟨s1.heap.objs.size+1,[s1.heap.objs.size+1,s1.heap.objs.size],_,_,H1,rfl,I2,mM a (s1.heap.objs.size+1) s1.heap.objs.size,⟨⟨.none,he⟩,⟨_,ho,rfl,rfl⟩,Nat.succ_ne_self _⟩,fresh2,o1 _ _ _ .refl rs (lV h1 n h2)⟩
  · rename_i xs ev
    obtain ⟨d,v,rfl,ed,rfl,r2⟩:=gm rd ev
    rw[hJ ed nofun] at r2
    unfold Rep at r2
    obtain ⟨a,ws,rfl,h1,n,h2⟩:=r2
    cases r1 with
    | cons ra rr=>
      cases rr
      cases ra
      obtain ⟨its,rv,p',hz⟩:=I1.list (.of h1)
      refine call_enumerate_list p'.isList fun h' he hit hsz hk=>wpAny_pyIter_enum he ?_
      have I2:L2.Inv X pins σ H1 { s1 with heap:=h' }:=I1.kept (t':=s1.toks) hk
      exact ⟨s1.heap.objs.size+1,[s1.heap.objs.size+1,s1.heap.objs.size],_,_,H1,rfl,I2,turn_enum a (s1.heap.objs.size+1) s1.heap.objs.size,⟨⟨.none,he⟩,hit,Nat.succ_ne_self _⟩,fresh2,o1 _ _ _ .refl rs (lW (.of h1) (fun _ _ st=>.of (st.keep _ _ h1 n)) h2)⟩
  · rename_i l ev
    obtain ⟨d,v,rfl,ed,rfl,r2⟩:=gm rd ev
    rw[hJ ed nofun] at r2
    unfold Rep at r2
    obtain ⟨a,rfl,ha⟩:=r2
    split at o1
    · rename_i xs es
      obtain ⟨a',g1,ws,h1,h2⟩:=rs.at_ _ _ es
      rw[ha] at g1; cases g1
      cases r1 with
      | cons ra rr=>
        cases rr
        cases ra
        obtain ⟨its,rv,p',hz⟩:=I1.list (.of h1)
        refine call_enumerate_list p'.isList fun h' he hit hsz hk=>wpAny_pyIter_enum he ?_
        have I2:L2.Inv X pins σ H1 { s1 with heap:=h' }:=I1.kept (t':=s1.toks) hk
        exact ⟨s1.heap.objs.size+1,[s1.heap.objs.size+1,s1.heap.objs.size],_,_,H1,rfl,I2,turn_enum a (s1.heap.objs.size+1) s1.heap.objs.size,⟨⟨.none,he⟩,hit,Nat.succ_ne_self _⟩,fresh2,o1 _ _ _ .refl rs ⟨a,ha,rfl⟩⟩
    · exact o1.elim
  · exact o1.elim
def cB:List D→List D→List D
  | a::as,b::bs=>.tup [a,b]::cB as bs
  | _,_=>[]
theorem gH:∀(as bs:List D) (i:Nat) (d:D),(cB as bs)[i]?=some d→∃a b,as[i]?=some a∧bs[i]?=some b∧d=.tup [a,b]
  | [],_,i,d,h=>by simp[cB] at h
  | a::as,[],i,d,h=>by simp[cB] at h
  | a::as,b::bs,0,d,h=>by
    simp[cB] at h
    exact ⟨a,b,rfl,rfl,h.symm⟩
  | a::as,b::bs,i+1,d,h=>by
    have h:(cB as bs)[i]?=some d:=by simpa [cB] using h
    obtain ⟨x,y,h1,h2,h3⟩:=gH as bs i d h
    exact ⟨x,y,by simpa using h1,by simpa using h2,h3⟩
theorem cL:∀(as bs:List D),(cB as bs).length=min as.length bs.length
  | [],_=>by simp[cB]
  | a::as,[]=>by simp[cB]
  | a::as,b::bs=>by simp[cB,cL as bs]
def iZipD (r:MA):MI:=fun env S=>(r env S).bind fun ds S=>match ds.map vt with
  | [.tup xs,.tup ys]=>.ok (.items (cB xs ys)) S
  | [.lst xs,.lst ys]=>.ok (.items (cB xs ys)) S
  | _=>.stuck
def cp (g:MG) (b:MS):List D→MS
  | []=>fun env S=>.next env S
  | d::ds=>fun env S=>match g d env S with
    | none=>.stuck
    | some p=>match b p.1 p.2 with
      | .next env S=>cp g b ds env S
      | .cont env S=>cp g b ds env S
      | .brk env S=>.next env S
      | .ret d S=>.ret d S
      | .exc e env S=>.exc e env S
      | .stuck=>.stuck
def hO (g:MG) (b:MS) (l:Nat):Nat→Nat→MS
  | 0,_=>fun _ _=>.stuck
  | n+1,i=>fun env S=>match S[l]? with
    | some (.lst xs)=>match xs[i]? with
      | none=>.next env S
      | some d=>match g d env S with
        | none=>.stuck
        | some p=>match b p.1 p.2 with
          | .next env S=>hO g b l n (i+1) env S
          | .cont env S=>hO g b l n (i+1) env S
          | .brk env S=>.next env S
          | .ret d S=>.ret d S
          | .exc e env S=>.exc e env S
          | .stuck=>.stuck
    | _=>.stuck
/-- with the places,the first one 0 -/
def dm (g:MG) (b:MS) (l:Nat):Nat→Nat→MS
  | 0,_=>fun _ _=>.stuck
  | n+1,i=>fun env S=>match S[l]? with
    | some (.lst xs)=>match xs[i]? with
      | none=>.next env S
      | some d=>match g (.tup [.int (i:Nat),d]) env S with
        | none=>.stuck
        | some p=>match b p.1 p.2 with
          | .next env S=>dm g b l n (i+1) env S
          | .cont env S=>dm g b l n (i+1) env S
          | .brk env S=>.next env S
          | .ret d S=>.ret d S
          | .exc e env S=>.exc e env S
          | .stuck=>.stuck
    | _=>.stuck
def eu (S:Sto) (l:Nat):Nat:=match S[l]? with
  | some (.lst xs)=>xs.length
  | _=>0
def fW (mi:MI) (g:MG) (b:MS):MS:=fun env S=>(mi env S).rs env fun it S=>match it with
  | .items ds=>cp g b ds env S
  | .live l=>hO g b l (eu S l+1) 0 env S
  | .liveE l=>dm g b l (eu S l+1) 0 env S
theorem fE {iter:Expr} {body:List Stmt} {mi:MI} {g:MG} {b:MS} (hp:PassesOwn (model X.prog X.w) X.A X.env X.xe) (hc:X.calm=true) (hi:PI X tg iter (tI X W mi)) (hg:PG X tg (tG X g)) (hb:PSs X body (tS X W b))
    (hs:∀x,foldedSetIterable iter X.env x=pure x:=by intro _; rfl):PS X (.For tg iter body [] pos) (tS X W (fW mi g b)):=
  gB (ps_for hp hc hi hg hb hs) fun D σ H ⟨env,S,μ,rl,o⟩=>⟨env,S,μ,rl,(OutS.rs rl.env o).mono fun J H1 ⟨μ1,S1,it,st,rs,rd,o1⟩=>by
    cases it with
    | items ds=>
      have rd:dH X.K X.mg μ1 H1 ds J:=rd
      refine ⟨fun i n σ H=>n+i=ds.length∧∃env S μ,Step μ1 H1 μ H∧Rl X.K X.mg μ H env σ S∧OutS X.K X.mg W μ H D (cp g b (ds.drop i) env S),⟨ds.length,rfl,env,S1,μ1,.refl,⟨rl.env.step st,rs⟩,o1⟩,?_⟩
      rintro i n σ H ⟨hn,env,S,μ,st1,rl,o⟩
      by_cases hi:i<ds.length
      · have ed:ds.drop i=ds[i]::ds.drop (i+1):=List.drop_eq_getElem_cons hi
        rw[ed] at o
        unfold cp at o
        refine .inr ⟨rd.goes i μ H hi st1.toStp,fun σ H=>∃env S μ,Step μ1 H1 μ H∧Rl X.K X.mg μ H env σ S∧OutS X.K X.mg W μ H D (cp g b (ds.drop (i+1)) env S),fun σ' H' w=>⟨n - 1,by omega,by omega,w⟩,fun x H' y=>?_⟩
        obtain ⟨sm,rx⟩:=rd.yields i _ μ H S x H' (List.getElem?_eq_getElem hi) st1.toStp rl.sto y
        have stx:Step μ H μ H':=.of_sm sm
        refine ⟨env,S,μ,_,rl.sm sm,rx,?_⟩
        cases hg:g ds[i] env S with
        | none=>rw[hg] at o; exact o.elim
        | some p=>
          rw[hg] at o
          refine fun μ2 H2 σ2 st2 re2 rs2=>⟨p.1,p.2,μ2,⟨re2,rs2⟩,?_⟩
          have o:=OutS.of_step (stx.trans st2) o
          cases hb:b p.1 p.2 with
          | next e S=>simp only[hb] at o; exact fun μ' H' σ' s t u=>⟨e,S,μ',((st1.trans stx).trans st2).trans s,⟨t,u⟩,OutS.of_step s o⟩
          | cont e S=>simp only[hb] at o; exact fun μ' H' σ' s t u=>⟨e,S,μ',((st1.trans stx).trans st2).trans s,⟨t,u⟩,OutS.of_step s o⟩
          | brk e S=>simp only[hb] at o; exact o
          | ret d S=>simp only[hb] at o; exact o
          | exc e v S=>simp only[hb] at o; exact o
          | stuck=>simp only[hb] at o; exact o
      · have e:i=ds.length:=by omega
        subst e
        rw[List.drop_length] at o
        exact .inl ⟨rd.stops μ H st1.toStp,o μ H σ .refl rl.env rl.sto⟩
    | live l=>
      obtain ⟨a,ha,rfl⟩:=rd
      refine ⟨fun i n σ H=>∃env S μ,Step μ1 H1 μ H∧Rl X.K X.mg μ H env σ S∧OutS X.K X.mg W μ H D (hO g b l n i env S),⟨_,env,S1,μ1,.refl,⟨rl.env.step st,rs⟩,o1⟩,?_⟩
      rintro i n σ H ⟨env,S,μ,st1,rl,o⟩
      cases n with
      | zero=>exact o.elim
      | succ n=>
        unfold hO at o
        split at o
        · rename_i xs es
          obtain ⟨a',h1,vs,h2,h3⟩:=rl.sto.at_ _ _ es
          rw[st1.get ha] at h1; cases h1
          split at o
          · rename_i hx
            refine .inl ⟨⟨vs,.of h2,?_⟩,o μ H σ .refl rl.env rl.sto⟩
            rw[←h3.length]
            exact List.getElem?_eq_none_iff.mp hx
          · rename_i d hx
            obtain ⟨v,hv,rv⟩:=h3.get hx
            refine .inr ⟨⟨vs,v,.of h2,hv⟩,fun σ H=>∃env S μ,Step μ1 H1 μ H∧Rl X.K X.mg μ H env σ S∧OutS X.K X.mg W μ H D (hO g b l n (i+1) env S),fun σ' H' w=>⟨n,Nat.lt_succ_self n,w⟩,fun x H' y=>?_⟩
            obtain ⟨rfl,y⟩:=y
            have q:=y vs (.of h2)
            rw[hv] at q; cases q
            refine ⟨env,S,μ,_,rl,rv,?_⟩
            cases hg:g d env S with
            | none=>rw[hg] at o; exact o.elim
            | some p=>
              rw[hg] at o
              refine fun μ2 H2 σ2 st2 re2 rs2=>⟨p.1,p.2,μ2,⟨re2,rs2⟩,?_⟩
              have o:=OutS.of_step st2 o
              cases hb:b p.1 p.2 with
              | next e S=>simp only[hb] at o; exact fun μ' H' σ' s t u=>⟨e,S,μ',(st1.trans st2).trans s,⟨t,u⟩,OutS.of_step s o⟩
              | cont e S=>simp only[hb] at o; exact fun μ' H' σ' s t u=>⟨e,S,μ',(st1.trans st2).trans s,⟨t,u⟩,OutS.of_step s o⟩
              | brk e S=>simp only[hb] at o; exact o
              | ret d S=>simp only[hb] at o; exact o
              | exc e v S=>simp only[hb] at o; exact o
              | stuck=>simp only[hb] at o; exact o
        · exact o.elim
    | liveE l=>
      obtain ⟨a,ha,rfl⟩:=rd
      refine ⟨fun i n σ H=>∃env S μ,Step μ1 H1 μ H∧Rl X.K X.mg μ H env σ S∧OutS X.K X.mg W μ H D (dm g b l n i env S),⟨_,env,S1,μ1,.refl,⟨rl.env.step st,rs⟩,o1⟩,?_⟩
      rintro i n σ H ⟨env,S,μ,st1,rl,o⟩
      cases n with
      | zero=>exact o.elim
      | succ n=>
        unfold dm at o
        split at o
        · rename_i xs es
          obtain ⟨a',h1,vs,h2,h3⟩:=rl.sto.at_ _ _ es
          rw[st1.get ha] at h1; cases h1
          split at o
          · rename_i hx
            refine .inl ⟨⟨vs,.of h2,?_⟩,o μ H σ .refl rl.env rl.sto⟩
            rw[←h3.length]
            exact List.getElem?_eq_none_iff.mp hx
          · rename_i d hx
            obtain ⟨v,hv,rv⟩:=h3.get hx
            refine .inr ⟨⟨vs,v,.of h2,hv⟩,fun σ H=>∃env S μ,Step μ1 H1 μ H∧Rl X.K X.mg μ H env σ S∧OutS X.K X.mg W μ H D (dm g b l n (i+1) env S),fun σ' H' w=>⟨n,Nat.lt_succ_self n,w⟩,fun x H' y=>?_⟩
            obtain ⟨T,w,rfl,hT,rfl,y⟩:=y
            have q:=y vs (.of h2)
            rw[hv] at q; cases q
            have sm:Sm H (upd H T (.tup [.int (i:Int),v])):=.upd hT
            have stx:Step μ H μ (upd H T (.tup [.int (i:Int),v])):=.of_sm sm
            have rx:Rep X.K X.mg μ (upd H T (.tup [.int (i:Int),v])) (.tup [.int (i:Nat),d]) (.ref T):=bF rl.sto hT (.cons (au _) (.cons rv .nil))
            refine ⟨env,S,μ,_,rl.sm sm,rx,?_⟩
            cases hg:g (.tup [.int (i:Nat),d]) env S with
            | none=>rw[hg] at o; exact o.elim
            | some p=>
              rw[hg] at o
              refine fun μ2 H2 σ2 st2 re2 rs2=>⟨p.1,p.2,μ2,⟨re2,rs2⟩,?_⟩
              have o:=OutS.of_step (stx.trans st2) o
              cases hb:b p.1 p.2 with
              | next e S=>simp only[hb] at o; exact fun μ' H' σ' s t u=>⟨e,S,μ',((st1.trans stx).trans st2).trans s,⟨t,u⟩,OutS.of_step s o⟩
              | cont e S=>simp only[hb] at o; exact fun μ' H' σ' s t u=>⟨e,S,μ',((st1.trans stx).trans st2).trans s,⟨t,u⟩,OutS.of_step s o⟩
              | brk e S=>simp only[hb] at o; exact o
              | ret d S=>simp only[hb] at o; exact o
              | exc e v S=>simp only[hb] at o; exact o
              | stuck=>simp only[hb] at o; exact o
        · exact o.elim⟩
end
end DL
namespace DL
open PySem PySem.Spec PyProof.Rows L2
def bR (env:En):List Nat→En
  | []=>env
  | v::vs=>(bR env vs).set v none
theorem gI (env:En):∀vs:List Nat,(bR env vs).length=env.length
  | []=>rfl
  | v::vs=>by unfold bR; rw[List.length_set,gI env vs]
theorem ip {env:En} {i:Nat} {x:D}:∀ {vs:List Nat},(bR env vs)[i]?=some (some x)→env[i]?=some (some x)∧i∉vs
  | [],h=>⟨h,by simp⟩
  | v::vs,h=>by
    unfold bR at h
    by_cases hi:v=i
    · subst hi
      by_cases hv:v<(bR env vs).length
      · rw[List.getElem?_set_self hv] at h; cases h
      · rw[List.getElem?_eq_none (by simpa using hv)] at h; cases h
    · rw[List.getElem?_set_ne hi] at h
      obtain ⟨h1,h2⟩:=ip h
      exact ⟨h1,by simp only[List.mem_cons,not_or]; exact ⟨fun e=>hi e.symm,h2⟩⟩
theorem RelE.wipe {K:PySem.W.Frag} {mg:Str→Option Value} {μ:Mu} {H:Hp} {env:En} {σ:L2.St} (h:RelE K mg μ H env σ) (vs:List Nat):RelE K mg μ H (bR env vs) (L2.wipe σ vs):=by
  refine ⟨by rw[gI,wipe_length]; exact h.len,fun i d e=>?_⟩
  obtain ⟨h1,h2⟩:=ip e
  obtain ⟨v,h3,h4⟩:=h.at_ i d h1
  exact ⟨v,by rw[wipe_out h2]; exact h3,h4⟩
theorem gJ {σ:L2.St} {i:Nat} {v:Option V}:∀ {vs:List Nat},i∈vs→L2.wipe (σ.set i v) vs=L2.wipe σ vs
  | [],h=>by cases h
  | j::vs,h=>by
    unfold L2.wipe
    by_cases hj:j=i
    · subst hj
      by_cases hm:j∈vs
      · rw[gJ hm]
      · have:∀(ws:List Nat) (τ:L2.St),j∉ws→L2.wipe (τ.set j v) ws=(L2.wipe τ ws).set j v:=by
          intro ws
          induction ws with
          | nil=>intro τ _; rfl
          | cons k ws ih=>
            intro τ hk
            rw[List.mem_cons,not_or] at hk
            unfold L2.wipe
            rw[ih τ hk.2,List.set_comm _ _ hk.1]
        rw[this vs σ hm,List.set_set]
    · have hm:i∈vs:=by
        rcases List.mem_cons.mp h with e|e
        · exact absurd e.symm hj
        · exact e
      rw[gJ hm]
def tGc (X:Cx) (vs:List Nat) (g:MG):TG:=fun v σ H Q=>∃env S μ d,Rl X.K X.mg μ H env σ S∧Rep X.K X.mg μ H d v∧OutO X.K X.mg μ H (fun σ' H'=>L2.wipe σ' vs=L2.wipe σ vs→Q σ' H') (g d env S)
def tGcs (X:Cx) (vs:List Nat) (g:MGs):TGs:=fun us σ H Q=>∃env S μ ds,Rl X.K X.mg μ H env σ S∧RepAll X.K X.mg μ H ds us∧OutO X.K X.mg μ H (fun σ' H'=>L2.wipe σ' vs=L2.wipe σ vs→Q σ' H') (g ds env S)
theorem OutO.mono {K:PySem.W.Frag} {mg:Str→Option Value} {μ:Mu} {H:Hp} {Q Q':L2.St→Hp→Prop} {r:Option (En × Sto)} (o:OutO K mg μ H Q r) (h:∀σ H,Q σ H→Q' σ H):OutO K mg μ H Q' r:=by
  cases r with
  | none=>exact o
  | some p=>exact fun μ' H' σ' s t u=>h _ _ (o μ' H' σ' s t u)
section
variable {X:Cx} {W:WX} {e tg iter elt:Expr} {pos:Pos} {g:MG} {m:ME} {mi:MI} {tc:MT} {vs:List Nat}
theorem bD {i:Nat} {x:Str} (hN:X.N.Nodup) (hi:X.N[i]?=some x) (hx:Loc X.env.scope x) (hv:i∈vs) (hf:X.fn x=true∨X.env.scope.names.lookup x=some .local:=by first|exact .inl rfl|exact .inr rfl|assumption):PG X (.Name x pos) (tGc X vs (gV i)):=
  je (pg_name hN hi hx hf) fun v σ H Q ⟨env,S,μ,d,rl,r,o⟩=>o μ H _ .refl (rl.env.set r) rl.sto (gJ hv)
theorem kR:PGs X [] (tGcs X vs dS):=kO pgs_nil fun us σ H Q ⟨env,S,μ,ds,rl,r,o⟩=>by
  cases ds with
  | nil=>unfold RepAll at r; exact ⟨r,o μ H σ .refl rl.env rl.sto rfl⟩
  | cons a b=>exact o.elim
theorem dn {es:List Expr} {gs:MGs} (h1:PG X e (tGc X vs g)) (h2:PGs X es (tGcs X vs gs))
    (hs:(assignEach (e::es) X.env).map (·.2)=assign e X.env::(assignEach es X.env).map (·.2):=by rfl):PGs X (e::es) (tGcs X vs (a9 g gs)):=
  kO (pgs_cons h1 h2 hs) fun us σ H Q ⟨env,S,μ,ds,rl,r,o⟩=>by
    cases ds with
    | nil=>exact o.elim
    | cons d ds=>
      unfold RepAll at r
      obtain ⟨v,q,rfl,r1,r2⟩:=r
      refine ⟨v,q,rfl,env,S,μ,d,rl,r1,?_⟩
      have o:OutO X.K X.mg μ H _ ((g d env S).bind fun p=>gs ds p.1 p.2):=o
      cases hq:g d env S with
      | none=>rw[hq] at o; exact o.elim
      | some p=>
        rw[hq] at o
        exact fun μ' H' σ' s t u w=>⟨p.1,p.2,μ',ds,⟨t,u⟩,RepAll.step s _ _ r2,(OutO.of_step s o).mono fun σ2 H2 f w2=>f (w2.trans w)⟩
theorem mO {es:List Expr} {k:Nat} {n:Nat} {gs:MGs} (hc:X.calm=true) (h:PGs X es (tGcs X vs gs))
    (hn:(assignEach es X.env).length=n:=by rfl) (hst:(assignEach es X.env).findIdx? (·.1)=none:=by rfl):PG X (.Tuple es k pos) (tGc X vs (dG n gs)):=
  je (pg_tup hc h hn hst) fun v σ H Q ⟨env,S,μ,d,rl,r,o⟩=>by
    unfold dG at o
    split at o
    · rename_i ds ev
      by_cases hl:ds.length=n
      · simp only[hl,if_true] at o
        have w:=r.wv.vt
        rw[ev] at w
        obtain ⟨a,vs,rfl,h1,h2,_⟩:=w
        exact ⟨a,vs,rfl,.inl h1,by rw[←h2.length]; exact hl,env,S,μ,ds,rl,h2,o⟩
      · simp only[hl,if_false] at o; exact o.elim
    · exact o.elim
def Res.bindS {α β:Type}:Res α→(α→Sto→Res β)→Res β
  | .ok a S,f=>f a S
  | _,_=>.stuck
theorem Out.bindS {α β α' β':Type} {K:PySem.W.Frag} {mg:Str→Option Value} {μ:Mu} {H:Hp} {W W0:WX} {σ σ':L2.St} {R:Mu→Hp→α→β→Prop} {R':Mu→Hp→α'→β'→Prop} {Q:β'→Hp→Prop} {r:Res α} {f:α→Sto→Res α'} (o:Out K mg W σ μ H R' Q (r.bindS f)) :
    Out K mg W0 σ' μ H R (fun b H1=>∃μ1 S1 a,Step μ H μ1 H1∧RelS K mg μ1 H1 S1∧R μ1 H1 a b∧Out K mg W σ μ1 H1 R' Q (f a S1)) r:=by
  cases r with
  | ok a S=>exact fun μ' H' b s t u=>⟨μ',S,a,s,t,u,Out.of_step s o⟩
  | exc e S=>exact o.elim
  | stuck=>exact o
/-- one turn: the items made so far,behind it -/
def iq (g:MG) (tc:MT) (m:ME) (w:En) (d:D) (acc:List D) (S:Sto):Res (List D):=match g d w S with
  | none=>.stuck
  | some p=>(tc p.1 p.2).bindS fun c S2=>if c=true then (m p.1 S2).bindS fun v S3=>if acc.length<1000000 then .ok (acc++[v]) S3 else .stuck else .ok acc S2
def cW (g:MG) (tc:MT) (m:ME) (w:En):List D→List D→Sto→Res (List D)
  | [],acc,S=>.ok acc S
  | d::ds,acc,S=>(iq g tc m w d acc S).bindS fun acc S=>cW g tc m w ds acc S
def ir (g:MG) (tc:MT) (m:ME) (w:En) (l:Nat):Nat→Nat→List D→Sto→Res (List D)
  | 0,_,_,_=>.stuck
  | n+1,i,acc,S=>match S[l]? with
    | some (.lst xs)=>match xs[i]? with
      | none=>.ok acc S
      | some d=>(iq g tc m w d acc S).bindS fun acc S=>ir g tc m w l n (i+1) acc S
    | _=>.stuck
def iu (g:MG) (tc:MT) (m:ME) (w:En) (l:Nat):Nat→Nat→List D→Sto→Res (List D)
  | 0,_,_,_=>.stuck
  | n+1,i,acc,S=>match S[l]? with
    | some (.lst xs)=>match xs[i]? with
      | none=>.ok acc S
      | some d=>(iq g tc m w (.tup [.int (i:Nat),d]) acc S).bindS fun acc S=>iu g tc m w l n (i+1) acc S
    | _=>.stuck
def fX (mi:MI) (g:MG) (tc:MT) (m:ME) (vs:List Nat):MA:=fun env S=>(mi env S).bind fun it S=>match it with
  | .items ds=>cW g tc m (bR env vs) ds [] S
  | .live l=>ir g tc m (bR env vs) l (eu S l+1) 0 [] S
  | .liveE l=>iu g tc m (bR env vs) l (eu S l+1) 0 [] S
def cC (mi:MI) (g:MG) (tc:MT) (m:ME) (vs:List Nat):ME:=fun env S=>(fX mi g tc m vs env S).bind fun ds S=>.ok (.lst ds) S
def pZ (mi:MI) (g:MG) (tc:MT) (m:ME) (vs:List Nat):ME:=fun env S=>(fX mi g tc m vs env S).bind fun ds S=>.ok (.loc S.length) (S++[.lst ds])
abbrev W0:WX:=fun _ _ _ _=>False
def b9:MT:=fun _ S=>.ok true S
def PTs' (X:Cx) (ifs:List Expr) (tc:MT):Prop:=PTs X ifs (tT X W0 tc)
theorem b4:PTs' X [] b9:=⟨fun pins s σ H Q I ⟨env,S,μ,rl,o⟩=>pts_nil.run pins s σ H Q I (o μ H true .refl rl.sto rfl)⟩
theorem kS {c:Expr} (h:PT X c (tT X W0 tc)):PTs' X [c] tc:=pts_one h
/-- what a comprehension gives -/
def RL (K:PySem.W.Frag) (mg:Str→Option Value) (μ:Mu) (H:Hp) (ds:List D) (v:V):Prop:=∃p us,v=.ref p∧H p=some (.lst us)∧p∉μ∧RepAll K mg μ H ds us
theorem jh:∀(ws vs:List Nat) (τ:L2.St),(∀i∈ws,i∈vs)→L2.wipe (L2.wipe τ ws) vs=L2.wipe τ vs
  | [],vs,τ,_=>rfl
  | k::ws,vs,τ,hk=>by
    show L2.wipe ((L2.wipe τ ws).set k none) vs=_
    rw[gJ (hk k List.mem_cons_self)]
    exact jh ws vs τ fun i hi=>hk i (List.mem_cons_of_mem _ hi)
/-- what stays,but what is being made at p -/
structure StP (p:Addr) (μ:Mu) (H:Hp) (μ':Mu) (H':Hp):Prop extends Stp μ H μ' H' where
  hid:μ'.h=μ.h
  hk:∀a u,a≠p→a∈μ.h→H a=some u→NTb u→H' a=some u
theorem StP.of {p:Addr} {μ μ':Mu} {H H':Hp} (s:Step μ H μ' H'):StP p μ H μ' H':=⟨s.toStp,s.hid,fun a u _ h e t=>s.hk a u h e t⟩
theorem StP.trans {p:Addr} {μ μ' μ2:Mu} {H H' H2:Hp} (s:StP p μ H μ' H') (t:StP p μ' H' μ2 H2):StP p μ H μ2 H2:=⟨s.toStp.trans t.toStp,t.hid.trans s.hid,fun a u n h e nt=>t.hk a u n (by rw[s.hid]; exact h) (s.hk a u n h e nt) nt⟩
theorem StP.write {p:Addr} {μ:Mu} {H:Hp} {o:HO} (h:p∈μ.h) (nf:NF H p):StP p μ H μ (upd H p o):=⟨.write_hid h nf,rfl,fun a u n _ e _=>by rw[upd_ne n]; exact e⟩
/-- a turn's reading -/
theorem kT {W:WX} {vs:List Nat} {σ σo:L2.St} {w:En} {p:Addr} {Q:V→Hp→Prop} {μ1 μ2:Mu} {H1 H2:Hp} {S2:Sto} {d:D} {x:V} {acc:List D} {us:List V} {N:Hp→Prop} {f:List D→Sto→Res (List D)}
    (re:RelE X.K X.mg μ2 H2 w (L2.wipe σ vs)) (rs:RelS X.K X.mg μ2 H2 S2) (hp:H2 p=some (.lst us)) (np:p∈μ2.h) (ra:RepAll X.K X.mg μ2 H2 acc us) (rx:Rep X.K X.mg μ2 H2 d x)
    (o:Out X.K X.mg W σo μ1 H1 (RL X.K X.mg) Q ((iq g tc m w d acc S2).bindS f))
    (hN:∀μ3 H3 S3 acc' us',StP p μ2 H2 μ3 H3→RelS X.K X.mg μ3 H3 S3→H3 p=some (.lst us')→RepAll X.K X.mg μ3 H3 acc' us'→Out X.K X.mg W σo μ1 H1 (RL X.K X.mg) Q (f acc' S3)→N H3) :
    tGc X vs g x (L2.wipe σ vs) H2 fun σ2 H3=>L2.wipe σ2 vs=L2.wipe σ vs∧tT X W0 tc σ2 H3 fun b H4=>if b=true then tE X W0 m σ2 H4 fun y H5=>∃acc,H5 p=some (.lst acc)∧acc.length<sizeLine∧N (upd H5 p (.lst (acc++[y]))) else N H4:=by
  refine ⟨w,S2,μ2,d,⟨re,rs⟩,rx,?_⟩
  unfold iq at o
  cases hg:g d w S2 with
  | none=>simp only[hg,Res.bindS] at o; exact o.elim
  | some q=>
    obtain ⟨e,Se⟩:=q
    simp only[hg] at o
    intro μ3 H3 σ3 st3 re3 rs3 hw
    refine ⟨hw.trans (jh vs vs σ fun i hi=>hi),e,Se,μ3,⟨re3,rs3⟩,?_⟩
    have hp3:H3 p=some (.lst us):=st3.hk _ _ np hp
    have np3:p∈μ3.h:=by rw[st3.hid]; exact np
    have ra3:=RepAll.step st3 _ _ ra
    cases htc:tc e Se with
    | exc a b=>simp only[htc,Res.bindS] at o; exact o.elim
    | stuck=>simp only[htc,Res.bindS] at o; exact o.elim
    | ok c S4=>
      simp only[htc,Res.bindS] at o
      intro μ4 H4 b st4 rs4 hb
      subst hb
      have hp4:=st4.hk _ _ np3 hp3
      have np4:p∈μ4.h:=by rw[st4.hid]; exact np3
      have ra4:=RepAll.step st4 _ _ ra3
      cases b with
      | false=>
        simp only[Bool.false_eq_true,if_false] at o ⊢
        exact hN μ4 H4 S4 acc us (.of (st3.trans st4)) rs4 hp4 ra4 o
      | true=>
        simp only[if_true] at o ⊢
        refine ⟨e,S4,μ4,⟨re3.step st4,rs4⟩,?_⟩
        cases hm:m e S4 with
        | exc a b=>simp only[hm,Res.bindS] at o; exact o.elim
        | stuck=>simp only[hm,Res.bindS] at o; exact o.elim
        | ok v S5=>
          simp only[hm,Res.bindS] at o
          intro μ5 H5 y st5 rs5 ry
          have hp5:=st5.hk _ _ np4 hp4
          have np5:p∈μ5.h:=by rw[st5.hid]; exact np4
          have ra5:=RepAll.step st5 _ _ ra4
          by_cases hl:acc.length<1000000
          · simp only[hl,if_true] at o
            have sw:StP p μ5 H5 μ5 (upd H5 p (.lst (us++[y]))):=.write np5 (.of hp5)
            refine ⟨us,hp5,?_,?_⟩
            · rw[←ra.length,sizeLine_eq]; omega
            · exact hN μ5 _ S5 (acc++[v]) (us++[y]) ((StP.of ((st3.trans st4).trans st5)).trans sw) (rs5.write_hid np5) upd_same
                (RepAll.stp sw.toStp _ _ (ra5.append (.cons ry .nil))) o
          · simp only[hl,if_false] at o; exact o.elim
theorem pc {own:List (Str × Nat)} {σ:L2.St} {H:Hp} {Q:VK} {W:WX} (h:tM X (RL X.K X.mg) W (fX mi g tc m (own.map (·.2))) σ H Q) :
    tLc (tI X W mi) (tGc X (own.map (·.2)) g) (tT X W0 tc) (tE X W0 m) (own.map (·.2)) σ H Q:=by
  obtain ⟨env,S,μ,rl,o⟩:=h
  generalize own.map (·.2)=vs at *
  refine ⟨env,S,μ,rl,(Out.bind o).mono fun J H1 ⟨μ1,S1,it,st,rs,rd,o1⟩ p hp=>?_⟩
  have rw1:RelE X.K X.mg μ1 H1 (bR env vs) (L2.wipe σ vs):=(rl.env.step st).wipe vs
  generalize bR env vs=w at *
  -- where it begins
  have sh:Stp μ1 H1 (μ1.hide p) (upd H1 p (.lst [])):=.new_hid hp
  have fin:∀(μ2:Mu) (H2:Hp) (S2:Sto) (acc:List D) (us:List V),StP p (μ1.hide p) (upd H1 p (.lst [])) μ2 H2→RelS X.K X.mg μ2 H2 S2→H2 p=some (.lst us)→RepAll X.K X.mg μ2 H2 acc us→Out X.K X.mg W σ μ1 H1 (RL X.K X.mg) Q (.ok acc S2)→Q (.ref p) H2:=by
    intro μ2 H2 S2 acc us sp rs2 hp2 ra o
    have sub:∀a∈μ1.h,a∈μ2.h:=fun a ha=>by rw[sp.hid]; exact List.mem_cons_of_mem _ ha
    have su:Stp μ2 H2 ⟨μ2.l,μ1.h⟩ H2:=.unhide sub
    have np:p∉(⟨μ2.l,μ1.h⟩:Mu):=fun z=>z.elim (fun z=>rs2.dis p z (by rw[sp.hid]; exact List.mem_cons_self)) (rs.notinH hp)
    exact o ⟨μ2.l,μ1.h⟩ H2 (.ref p) ⟨(sh.trans sp.toStp).trans su,rfl,fun a u ha e nt=>sp.hk a u (ne_of_none e hp) (List.mem_cons_of_mem _ ha) (by rw[upd_ne (ne_of_none e hp)]; exact e) nt⟩ (rs2.unhide sub)
      ⟨p,us,rfl,hp2,np,RepAll.stp su _ _ ra⟩
  have npm:∀ {μ2:Mu} {H2:Hp},StP p (μ1.hide p) (upd H1 p (.lst [])) μ2 H2→p∈μ2.h:=fun sp=>by rw[sp.hid]; exact List.mem_cons_self
  have st0:StP p (μ1.hide p) (upd H1 p (.lst [])) (μ1.hide p) (upd H1 p (.lst [])):=.of .refl
  cases it with
  | items ds=>
    have rd:dH X.K X.mg μ1 H1 ds J:=rd
    refine ⟨fun i n H=>n+i=ds.length∧∃μ S acc us,StP p (μ1.hide p) (upd H1 p (.lst [])) μ H∧RelS X.K X.mg μ H S∧H p=some (.lst us)∧RepAll X.K X.mg μ H acc us∧Out X.K X.mg W σ μ1 H1 (RL X.K X.mg) Q (cW g tc m w (ds.drop i) acc S),
      ⟨ds.length,rfl,_,S1,[],[],st0,rs.hide hp,upd_same,.nil,o1⟩,?_⟩
    rintro i n H ⟨hn,μ,S,acc,us,sp,rs,hpp,ra,o⟩
    have sb:Stp μ1 H1 μ H:=sh.trans sp.toStp
    by_cases hi:i<ds.length
    · have ed:ds.drop i=ds[i]::ds.drop (i+1):=List.drop_eq_getElem_cons hi
      rw[ed] at o
      unfold cW at o
      refine .inr ⟨rd.goes i μ H hi sb,fun H=>∃μ S acc us,StP p (μ1.hide p) (upd H1 p (.lst [])) μ H∧RelS X.K X.mg μ H S∧H p=some (.lst us)∧RepAll X.K X.mg μ H acc us∧Out X.K X.mg W σ μ1 H1 (RL X.K X.mg) Q (cW g tc m w (ds.drop (i+1)) acc S),fun H' w=>⟨n - 1,by omega,by omega,w⟩,fun x H' y=>?_⟩
      obtain ⟨sm,rx⟩:=rd.yields i _ μ H S x H' (List.getElem?_eq_getElem hi) sb rs y
      have sx:Step μ H μ H':=.of_sm sm
      have spx:=sp.trans (StP.of sx)
      refine kT ((rw1.stp sh).stp spx.toStp) (rs.sm sm) (sm _ _ hpp) (npm spx) (RepAll.step sx _ _ ra) rx o fun μ3 H3 S3 acc' us' s3 rs3 hp3 ra3 o3=>⟨μ3,S3,acc',us',spx.trans s3,rs3,hp3,ra3,o3⟩
    · have e:i=ds.length:=by omega
      subst e
      rw[List.drop_length] at o
      exact .inl ⟨rd.stops μ H sb,fin μ H S acc us sp rs hpp ra o⟩
  | live l=>
    obtain ⟨a,ha,rfl⟩:=rd
    refine ⟨fun i n H=>∃μ S acc us,StP p (μ1.hide p) (upd H1 p (.lst [])) μ H∧RelS X.K X.mg μ H S∧H p=some (.lst us)∧RepAll X.K X.mg μ H acc us∧Out X.K X.mg W σ μ1 H1 (RL X.K X.mg) Q (ir g tc m w l n i acc S),
      ⟨_,_,S1,[],[],st0,rs.hide hp,upd_same,.nil,o1⟩,?_⟩
    rintro i n H ⟨μ,S,acc,us,sp,rs,hpp,ra,o⟩
    have sb:Stp μ1 H1 μ H:=sh.trans sp.toStp
    cases n with
    | zero=>exact o.elim
    | succ n=>
      unfold ir at o
      split at o
      · rename_i xs es
        obtain ⟨a',h1,vs',h2,h3⟩:=rs.at_ _ _ es
        rw[sb.get ha] at h1; cases h1
        split at o
        · rename_i hx
          refine .inl ⟨⟨vs',.of h2,?_⟩,fin μ H S acc us sp rs hpp ra o⟩
          rw[←h3.length]
          exact List.getElem?_eq_none_iff.mp hx
        · rename_i d hx
          obtain ⟨v,hv,rv⟩:=h3.get hx
          refine .inr ⟨⟨vs',v,.of h2,hv⟩,fun H=>∃μ S acc us,StP p (μ1.hide p) (upd H1 p (.lst [])) μ H∧RelS X.K X.mg μ H S∧H p=some (.lst us)∧RepAll X.K X.mg μ H acc us∧Out X.K X.mg W σ μ1 H1 (RL X.K X.mg) Q (ir g tc m w l n (i+1) acc S),fun H' w=>⟨n,Nat.lt_succ_self n,w⟩,fun x H' y=>?_⟩
          obtain ⟨rfl,y⟩:=y
          have q:=y vs' (.of h2)
          rw[hv] at q; cases q
          exact kT ((rw1.stp sh).stp sp.toStp) rs hpp (npm sp) ra rv o fun μ3 H3 S3 acc' us' s3 rs3 hp3 ra3 o3=>⟨μ3,S3,acc',us',sp.trans s3,rs3,hp3,ra3,o3⟩
      · exact o.elim
  | liveE l=>
    obtain ⟨a,ha,rfl⟩:=rd
    refine ⟨fun i n H=>∃μ S acc us,StP p (μ1.hide p) (upd H1 p (.lst [])) μ H∧RelS X.K X.mg μ H S∧H p=some (.lst us)∧RepAll X.K X.mg μ H acc us∧Out X.K X.mg W σ μ1 H1 (RL X.K X.mg) Q (iu g tc m w l n i acc S),
      ⟨_,_,S1,[],[],st0,rs.hide hp,upd_same,.nil,o1⟩,?_⟩
    rintro i n H ⟨μ,S,acc,us,sp,rs,hpp,ra,o⟩
    have sb:Stp μ1 H1 μ H:=sh.trans sp.toStp
    cases n with
    | zero=>exact o.elim
    | succ n=>
      unfold iu at o
      split at o
      · rename_i xs es
        obtain ⟨a',h1,vs',h2,h3⟩:=rs.at_ _ _ es
        rw[sb.get ha] at h1; cases h1
        split at o
        · rename_i hx
          refine .inl ⟨⟨vs',.of h2,?_⟩,fin μ H S acc us sp rs hpp ra o⟩
          rw[←h3.length]
          exact List.getElem?_eq_none_iff.mp hx
        · rename_i d hx
          obtain ⟨v,hv,rv⟩:=h3.get hx
          refine .inr ⟨⟨vs',v,.of h2,hv⟩,fun H=>∃μ S acc us,StP p (μ1.hide p) (upd H1 p (.lst [])) μ H∧RelS X.K X.mg μ H S∧H p=some (.lst us)∧RepAll X.K X.mg μ H acc us∧Out X.K X.mg W σ μ1 H1 (RL X.K X.mg) Q (iu g tc m w l n (i+1) acc S),fun H' w=>⟨n,Nat.lt_succ_self n,w⟩,fun x H' y=>?_⟩
          obtain ⟨T,z,rfl,hT,rfl,y⟩:=y
          have q:=y vs' (.of h2)
          rw[hv] at q; cases q
          have sm:Sm H (upd H T (.tup [.int (i:Int),v])):=.upd hT
          have sx:Step μ H μ (upd H T (.tup [.int (i:Int),v])):=.of_sm sm
          have rx:Rep X.K X.mg μ (upd H T (.tup [.int (i:Int),v])) (.tup [.int (i:Nat),d]) (.ref T):=bF rs hT (.cons (au _) (.cons rv .nil))
          have spx:=sp.trans (StP.of sx)
          exact kT ((rw1.stp sh).stp spx.toStp) (rs.sm sm) (sm _ _ hpp) (npm spx) (RepAll.step sx _ _ ra) rx o fun μ3 H3 S3 acc' us' s3 rs3 hp3 ra3 o3=>⟨μ3,S3,acc',us',spx.trans s3,rs3,hp3,ra3,o3⟩
      · exact o.elim
theorem rl_lst {K:PySem.W.Frag} {mg:Str→Option Value} {μ:Mu} {H:Hp} {ds:List D} {v:V} (r:RL K mg μ H ds v):Rep K mg μ H (.lst ds) v:=by
  obtain ⟨p,us,e,h1,n,h2⟩:=r
  unfold Rep
  exact ⟨p,us,e,h1,n,h2⟩
/-- frozen -/
theorem ji {σ:L2.St} {H:Hp} {Q:VK} {W:WX} (h:tE X W (cC mi g tc m vs) σ H Q):tM X (RL X.K X.mg) W (fX mi g tc m vs) σ H Q:=by
  obtain ⟨env,S,μ,rl,o⟩:=h
  refine ⟨env,S,μ,rl,(Out.bind (R:=RL X.K X.mg) o).mono fun v H1 ⟨μ1,S1,ds,st,rs,r,o1⟩=>o1 μ1 H1 v .refl rs (rl_lst r)⟩
section
variable {scope:Scope} {own:List (Str × Nat)} {W:WX} {ifs:List Expr}
theorem cj (hc:X.calm=true) (hN:X.N.Nodup) (hi:PI X tg iter (tI X W mi)) (ok:BlkOk X.N X.env.scope scope own)
    (hg:∀(s:Shared) (H:Hp) (C:Addr) (cl:List (Str × Addr)) (fp:List Addr),PG (X.blk s H scope (compEnvC scope cl C X.env) fp) tg (tGc (X.blk s H scope (compEnvC scope cl C X.env) fp) (own.map (·.2)) g))
    (ht:∀(s:Shared) (H:Hp) (C:Addr) (cl:List (Str × Addr)) (fp:List Addr),PTs' (X.blk s H scope (compEnvC scope cl C X.env) fp) ifs tc)
    (he:∀(s:Shared) (H:Hp) (C:Addr) (cl:List (Str × Addr)) (fp:List Addr),PE (X.blk s H scope (compEnvC scope cl C X.env) fp) elt (tE (X.blk s H scope (compEnvC scope cl C X.env) fp) W0 m)) (hs:∀x,foldedSetIterable iter X.env x=pure x:=by intro _; rfl) :
    PE X (.ListComp elt [⟨tg,iter,ifs,0⟩] scope pos) (tE X W (cC mi g tc m (own.map (·.2)))):=
  bf (pe_lc (g:=tGc X (own.map Prod.snd) g) (tt:=tT X W0 tc) (te:=tE X W0 m) hc hN hi ok hg ht he hs) fun σ H Q h=>pc (ji h)
theorem cZ {i:Nat} {y:Str} {py spos:Pos} (hc:X.calm=true) (hN:X.N.Nodup) (hy:X.N[i]?=some y) (hyl:X.env.scope.names.lookup y=some .local)
    (hsw:swapsWith (.ListComp elt [⟨tg,iter,ifs,0⟩] scope pos) (some (.Name y py)) spos.line X.env=pure true) (hi:PI X tg iter (tI X W mi)) (ok:BlkOk X.N X.env.scope scope own)
    (hg:∀(s:Shared) (H:Hp) (C:Addr) (cl:List (Str × Addr)) (fp:List Addr),PG (X.blk s H scope (compEnvC scope cl C X.env) fp) tg (tGc (X.blk s H scope (compEnvC scope cl C X.env) fp) (own.map (·.2)) g))
    (ht:∀(s:Shared) (H:Hp) (C:Addr) (cl:List (Str × Addr)) (fp:List Addr),PTs' (X.blk s H scope (compEnvC scope cl C X.env) fp) ifs tc)
    (he:∀(s:Shared) (H:Hp) (C:Addr) (cl:List (Str × Addr)) (fp:List Addr),PE (X.blk s H scope (compEnvC scope cl C X.env) fp) elt (tE (X.blk s H scope (compEnvC scope cl C X.env) fp) W0 m)) (hs:∀x,foldedSetIterable iter X.env x=pure x:=by intro _; rfl) :
    PS X (.Assign [.Name y py] (.ListComp elt [⟨tg,iter,ifs,0⟩] scope pos) spos) (tS X W (al i (cC mi g tc m (own.map (·.2))))):=
  gB (ps_setLc (g:=tGc X (own.map Prod.snd) g) (tt:=tT X W0 tc) (te:=tE X W0 m) hc hN hy hyl hsw hi ok hg ht he hs) fun D σ H ⟨env,S,μ,rl,o⟩=>pc (ji ⟨env,S,μ,rl,(OutS.rs rl.env o).mono fun x H1 ⟨μ1,S1,d,st,rs,r,o1⟩=>o1 μ1 H1 _ .refl ((rl.env.step st).set r) rs⟩)
end
end
end DL
set_option maxHeartbeats 4000000
namespace DL
open PySem PySem.Spec PyProof.Rows L2
abbrev Takes (X:Cx) (W:WX):Prop:=L2N.Takes X W
theorem passAt {X:Cx} {W:WX} (tk:Takes X W) (σ:L2.St):PassesAt (L2N.CX X.prog X.w) X σ (WE W σ):=L2N.passAt tk σ
theorem takes_of {X:Cx} {E:XK} (hs:X.stack=X.env::X.outer) (hf:X.env.frame=some X.env.locals) (hex:X.ex=[]) {E₁:Value→Shared→Prop}
    (hx:X.xe=fun e s'=>wpAny (model X.prog X.w) X.A (leaving X.env e) (fun _ s''=>L2N.CX X.prog X.w X.outer X.H_0 X.s_0 E e s'') E₁ s'):Takes X fun cls d _ H=>E cls d H:=L2N.takes_of hs hf hex hx
/-- what is a wish of L2's is one of these -/
theorem lX {X:Cx} {W:WX} (tk:L2.Takes X W):Takes X W:=fun u s' ⟨a,B,sI,pins,σ,H,cls,d,e,I,nb,up,sky,na,os,ag,w⟩=>
  tk u s' ⟨a,B,sI,pins,σ,H,cls,d,e,I,nb,up,(by
    rcases sky with ⟨h1,h2,h3,oe,vs,h4,z,h5⟩|⟨h1,h2,h3,oe,vs,T,oT,ts,h4,z,h5⟩|⟨h1,h2,h3,oe,vs,T,oT,ts,h4,z,h5⟩
    · exact .inl ⟨h1,h2,h3,oe,vs,h4,⟨z.1,z.2.1⟩,h5⟩
    · exact .inr (.inl ⟨h1,h2,h3,oe,vs,T,oT,ts,h4,⟨z.1,z.2.1⟩,h5⟩)
    · exact .inr (.inr ⟨h1,h2,h3,oe,vs,T,oT,ts,h4,⟨z.1,z.2.1⟩,h5⟩)),na,os,ag,w⟩
theorem takes0 {X:Cx}:Takes X (fun _ _ _ _=>False):=lX LamX.takes0
section
variable {X:Cx} {CX:CXT} {x:Str} {e:Expr} {es:List Expr} {ta:TA} {p pos:Pos} {C fI:Addr} {k:Nat} {fd:FuncData} {ps:List Str} {sp:Sp}
/-- an error whose class has an own __init__,its context None -/
theorem pe (T:OexC X.K C) (iC:PySem.W.findIn X.K (.ref C) "__init__"=some (some (.ref fI))) (tI:PySem.W.typeIn X.K (.ref fI)=some (.type "function")) (F1:FnOk X.prog X.w X.K X.mg X.base CX k fI fd ps sp) (hr:Room (k+1) X.A) (hb:L2.Binds X.K fd ps [])
    (hx:Passes CX X fun _ _ _=>False) (hg:Gl X x) (hm:X.mg x=some (.ref C)) (ha:PA X (e::es) ta) (hdb:(x == ("__debug__":Str))=false) (he:starEach (e::es) X.env=(false,eval e X.env)::starEach es X.env) (hpl:(backTo pos (starEach es X.env)).any (·.1)=false) :
    L2N.PMk X (.Call (.Name x p) (e::es) [] pos) (tMkO C sp [] ta):=by
  intro pins s σ H Q I h
  obtain ⟨nm,q,N,bs,bm,sn,sub,ab,col,dd,k0,k1,k2,k3,k5,hC,hbm⟩:=T.cls
  refine wpAny_Call_Name_kw (ld_glob I hg hm (PySem.W.callWith_K I.ok.mod.kin T.kC (thn (ha.run pos pins s σ H _ I h) fun us s1 ⟨vs,H1,I1,r1,hz,q1⟩=>⟨I1.kIn,?_⟩) he hpl) hdb)
  obtain ⟨hp,g,dr,tk,os⟩:=s1
  have hsz:=Nat.le_succ hp.objs.size
  have hn:=I1.hok.fresh hsz
  have hq:=q1 (hp.objs.size+1) hn
  rw[List.append_nil] at hq
  have kk:∀b o,hp.get? b=some o→((hp.push (PySem.W.kdv_tup us)).push (HandSPX.excO C hp.objs.size)).get? b=some o:=fun b o e=>Heap.get?_push_of_some (HandSPX.excO C hp.objs.size) (Heap.get?_push_of_some (PySem.W.kdv_tup us) e)
  have hget:((hp.push (PySem.W.kdv_tup us)).push (HandSPX.excO C hp.objs.size)).get? (hp.objs.size+1)=some (HandSPX.excO C hp.objs.size):=Heap.get?_push_at (by rw[Heap.size_push]) rfl
  have I2:=I1.laid (t':=tk) kk hsz (exo_ok hget)
  have r2:Vals (.ref (hp.objs.size+1)::vs) (.ref (hp.objs.size+1)::us):=.cons rfl r1
  have hl:(Value.ref (hp.objs.size+1)::us).length=ps.length:=by
    have:=F1.len _ _ _ _ hq
    rw[←this]
    exact (Vals.length r2).symm
  have hbt:BindsTo ({ heap:=(hp.push (PySem.W.kdv_tup us)).push (HandSPX.excO C hp.objs.size),gens:=g,drawn:=dr,toks:=tk,os:=os }:Shared) fd { pos:=.ref (hp.objs.size+1)::us } (ps.zip (.ref (hp.objs.size+1)::us)):=by
    have:=hb { heap:=(hp.push (PySem.W.kdv_tup us)).push (HandSPX.excO C hp.objs.size),gens:=g,drawn:=dr,toks:=tk,os:=os } (.ref (hp.objs.size+1)::us) I2.kIn (by rw[List.append_nil]; exact hl)
    rw[List.append_nil] at this
    exact this
  have hus:us.length≤sizeLine:=by
    rw[←Paired.length r1,sizeLine_eq]
    omega
  refine wpAny_call (HandSPX.call_own PySem.F.excBase_ValueError (fun Y=>HandSPX.refsVE_contains Y bm hbm) (I1.kIn C _ hC) (PySem.W.looks_findIn I1.kIn iC) (fun self=>PySem.W.bind_fn I1.kIn self tI) hus
    (codeAny_mono (F1.run _ X.stack _ _ { pos:=.ref (hp.objs.size+1)::us } (.ref (hp.objs.size+1)::us) (.ref (hp.objs.size+1)::vs) _ _ (hr.make C us []) (I2.env0.make C us []) hbt r2 hq) fun r s' hq'=>?_))
  cases r with
  | error er=>exact hx pins σ _ _ er s' I2 hq'
  | ok fl=>
    cases fl with
    | next=>exact False.elim hq'
    | brk=>exact False.elim hq'
    | cont=>exact False.elim hq'
    | ret v=>
      obtain ⟨v2,H2,os2,bare2,un2,hok2,rv,rfl,d,fs,ea,ed,hd1,q2⟩:=hq'
      obtain ⟨h2,g2,d2,t2,os'⟩:=s'
      refine ⟨rv,?_⟩
      obtain ⟨t0,G,IG,kG,nG,hG,na⟩:=mk_end0 (d1:=dr) (t1:=tk) (d2:=d2) (t2:=t2) I1 hsz kk un2 hok2 os2 bare2 ea ed hd1
      exact ⟨_,_,_,_,_,_,_,rfl,IG,kG,nG,hG,⟨rfl,rfl,fun vs e=>by cases e; rfl⟩,rfl,rfl,na,rfl,bare2,raises_own T.exC T.tyC,q2⟩
end
end DL
namespace DL
open PySem PySem.Spec PyProof.Rows L2
abbrev MF:=List D→Sto→Res D
def chk (n:Nat) (m:MF):MF:=fun ds S=>if ds.length=n then m ds S else .stuck
/-- what a def promises -/
def spD (K:PySem.W.Frag) (mg:Str→Option Value) (n:Nat) (m:MF):Sp:=fun vs H Q E=>∃ds S μ,RelS K mg μ H S∧RepAll K mg μ H ds vs∧Out K mg (fun c d _ H'=>E c d H') [] μ H (fun μ H a b=>Rep K mg μ H a b) Q (chk n m ds S)
theorem rY {K:PySem.W.Frag} {mg:Str→Option Value} {n:Nat} {m:MF} {vs:List V} {H:Hp} {Q:VK} {E:XK} (h:spD K mg n m vs H Q E):vs.length=n:=by
  obtain ⟨ds,S,μ,rs,ra,o⟩:=h
  unfold chk at o
  split at o
  · rename_i e; rw[←ra.length]; exact e
  · exact o.elim
structure FnM (P:Program) (w:World) (K:PySem.W.Frag) (mg:Str→Option Value) (base:Heap) (k:Nat) (f:Addr) (fd:FuncData) (ps:List Str) (m:MF):Prop where
  ok:FnOk P w K mg base (L2N.CX P w) k f fd ps (spD K mg ps.length m)
  kp:PySem.W.keepIn K (.ref f)=true
  b:Binds K fd ps []
/-- a body,run -/
def bJ (n:Nat) (m:MS):MF:=fun ds S=>match m (ds.map some++List.replicate n none) S with
  | .next _ S=>.ok .none S
  | .ret d S=>.ok d S
  | .exc e _ S=>.exc e S
  | _=>.stuck
theorem mP {K:PySem.W.Frag} {mg:Str→Option Value} {μ:Mu} {H:Hp} {N:List Str}:∀ {ds:List D} {vs:List V},RepAll K mg μ H ds vs→RelE K mg μ H (ds.map some++List.replicate (N.length - ds.length) none) (L2.start N vs):=fun {ds vs} r=>by
  unfold L2.start
  have hl:=r.length
  refine ⟨by simp[hl],fun i d e=>?_⟩
  by_cases hi:i<ds.length
  · rw[List.getElem?_append_left (by simpa using hi),List.getElem?_map] at e
    obtain ⟨d',h1,h2⟩:=Option.map_eq_some_iff.mp e
    cases h2
    obtain ⟨v,h3,h4⟩:=r.get h1
    exact ⟨v,by rw[List.getElem?_append_left (by rw[List.length_map,←hl]; exact hi),List.getElem?_map,h3]; rfl,h4⟩
  · rw[List.getElem?_append_right (by simpa using Nat.le_of_not_lt hi)] at e
    have:=List.getElem?_replicate (a:=(none:Option D)) (n:=N.length - ds.length) (i:=i - (ds.map some).length)
    rw[this] at e
    split at e<;>cases e
def aO (n:Nat) (m:MF) (r:MA):ME:=fun env S=>(r env S).bind fun ds S=>chk n m ds S
theorem rZ {K:PySem.W.Frag} {mg:Str→Option Value} {μ:Mu} {H:Hp} {α β:Type} {W:WX} {R:Mu→Hp→α→β→Prop} {Q:β→Hp→Prop} {σ:L2.St} {r:Res α} (o:Out K mg W σ μ H R Q r):Out K mg (fun c d _ H'=>WE W σ c d H') [] μ H R Q r:=by
  cases r with
  | ok a S=>exact o
  | exc e S=>exact o
  | stuck=>exact o
section
variable {X:Cx} {W:WX} {k:Nat} {f C:Addr} {fd:FuncData} {ps:List Str} {m mi:MF} {x nm cn:Str} {p pos apos:Pos} {e o:Expr} {es:List Expr} {r:MA} {ma mv:ME}
theorem t_call {σ:L2.St} {H:Hp} {Q:VK} (h:tE X W (aO ps.length m r) σ H Q):tCallSD (spD X.K X.mg ps.length m) [] (WE W) (tAs X W r) σ H Q:=by
  obtain ⟨env,S,μ,rl,o⟩:=h
  exact ⟨env,S,μ,rl,(Out.bind o).mono fun vs H1 ⟨μ1,S1,ds,st,rs,rd,o1⟩=>⟨ds,S1,μ1,rs,by rw[List.append_nil]; exact rd,rZ o1⟩⟩
theorem rf (F:FnM X.prog X.w X.K X.mg X.base k f fd ps m) (hr:Room k X.A) (hg:Gl X x) (hm:X.mg x=some (.ref f)) (tk:Takes X W)
    (ha:PA X (e::es) (tAs X W r)) (hdb:(x == ("__debug__":Str))=false:=by decide) (he:starEach (e::es) X.env=(false,eval e X.env)::starEach es X.env:=by rfl) (hpl:(backTo pos (starEach es X.env)).any (·.1)=false:=by rfl) :
    PE X (.Call (.Name x p) (e::es) [] pos) (tE X W (aO ps.length m r)):=bf (pe_callSD F.ok hr hg hm F.kp F.b .nil (passAt tk) ha hdb he hpl) fun _ _ _ h=>t_call h
def eMeth (cn nm:Str) (n:Nat) (m:MF) (ma:ME) (r:MA):ME:=fun env S=>(ma env S).bind fun d S=>match d with
  | .loc l=>match S[l]? with
    | some (.ins C fs)=>if C=cn∧(fs.map (·.1)).contains nm=false then (r env S).bind fun ds S=>chk n m (.loc l::ds) S else .stuck
    | _=>.stuck
  | _=>.stuck
def eMake (cn:Str) (n:Nat) (mi:MF) (r:MA):ME:=fun env S=>(r env S).bind fun ds S=>(chk n mi (.loc S.length::ds) (S++[.ins cn []])).bind fun d S'=>match d with
  | .none=>.ok (.loc S.length) S'
  | _=>.stuck
def eFld (cn f:Str) (ma:ME):ME:=fun env S=>(ma env S).bind fun d S=>match d with
  | .loc l=>match S[l]? with
    | some (.ins C fs)=>if C=cn then ofO S (fs.lookup f) else .stuck
    | _=>.stuck
  | _=>.stuck
def kU (f:Str) (v:D):List (Str × D)→List (Str × D)
  | []=>[(f,v)]
  | (g,x)::r=>if g=f then (g,v)::r else (g,x)::kU f v r
def sFldM (cn f:Str) (ma mv:ME):MS:=fun env S=>(mv env S).rs env fun d S=>(ma env S).rs env fun o S=>match o with
  | .loc l=>match S[l]? with
    | some (.ins C fs)=>if C=cn∧fs.length<1000 then .next env (S.set l (.ins C (kU f d fs))) else .stuck
    | _=>.stuck
  | _=>.stuck
end
end DL
namespace DL
open PySem PySem.Spec PyProof.Rows L2
abbrev BF:=Sto→List D→Option D
def rB (K:PySem.W.Frag) (mg:Str→Option Value) (f:BF):List V→Hp→VK→Prop:=fun xs H Q=>
  ∃μ S ds d,RelS K mg μ H S∧RepAll K mg μ H ds xs∧f S ds=some d∧∀H' v,Sm H H'→Rep K mg μ H' d v→Q v H'
def eB (f:BF) (r:MA):ME:=fun env S=>(r env S).bind fun ds S=>ofO S (f S ds)
section
variable {X:Cx} {W:WX} {e:Expr} {es:List Expr} {p pos:Pos} {r:MA} {f:BF} {x:Str} {id T:String}
theorem t_b {σ:L2.St} {H:Hp} {Q:VK} (h:tE X W (eB f r) σ H Q):tCB (rB X.K X.mg f) (tAs X W r) σ H Q:=by
  obtain ⟨env,S,μ,rl,o⟩:=h
  refine ⟨env,S,μ,rl,(Out.bind o).mono fun vs H1 ⟨μ1,S1,ds,st,rs,rd,o1⟩=>?_⟩
  cases e:f S1 ds with
  | none=>rw[e] at o1; exact o1.elim
  | some d=>rw[e] at o1; exact ⟨μ1,S1,ds,d,rs,rd,e,fun H' v sm r=>o1 μ1 H' v (.of_sm sm) (rs.sm sm) r⟩
theorem am (hc:CallR X (.builtin id) (rB X.K X.mg f)) (hg:Gl X x) (hm:X.mg x=none) (hv:bootBuiltins x=some (.builtin id)) (ha:PA X (e::es) (tAs X W r)) (hn:x≠"__name__":=by decide) (hdb:(x == ("__debug__":Str))=false:=by decide)
    (he:starEach (e::es) X.env=(false,eval e X.env)::starEach es X.env:=by rfl) (hpl:(backTo pos (starEach es X.env)).any (·.1)=false:=by rfl):PE X (.Call (.Name x p) (e::es) [] pos) (tE X W (eB f r)):=
  bf (pe_callB hc hg hm hv ha hn hdb he hpl) fun _ _ _ h=>t_b h
theorem eq (hc:CallR X (.type T) (rB X.K X.mg f)) (hg:Gl X x) (hm:X.mg x=none) (hv:bootBuiltins x=some (.type T)) (ha:PA X (e::es) (tAs X W r)) (hn:x≠"__name__":=by decide) (hdb:(x == ("__debug__":Str))=false:=by decide)
    (he:starEach (e::es) X.env=(false,eval e X.env)::starEach es X.env:=by rfl) (hpl:(backTo pos (starEach es X.env)).any (·.1)=false:=by rfl):PE X (.Call (.Name x p) (e::es) [] pos) (tE X W (eB f r)):=
  bf (pe_callTy hc hg hm hv ha hn hdb he hpl) fun _ _ _ h=>t_b h
end
theorem fF {X:Cx} {f:Value} {r r':List V→Hp→VK→Prop} (h:CallR X f r) (i:∀xs H Q,r' xs H Q→r xs H Q):CallR X f r':=fun pins s σ H xs us Q I rx w=>h pins s σ H xs us Q I rx (i _ _ _ w)
def aq (S:Sto) (ds:List D):Option D:=match ds with
  | [d]=>match view S d with
    | .tup xs=>some (.int xs.length)
    | .lst xs=>some (.int xs.length)
    | .ro xs=>some (.int xs.length)
    | .str z=>if z.length≤1000000 then some (.int z.length) else none
    | .loc l=>match S[l]? with
      | some (.dct false kvs)=>some (.int kvs.length)
      | _=>none
    | _=>none
  | _=>none
theorem kW {κ:Type} {K:PySem.W.Frag} {mg:Str→Option Value} {μ:Mu} {H:Hp} {kvs:List (D × D)} {ks:List κ} {g:κ→D} {vs:List V} (e:kvs.map (·.1)=ks.map g) (r:RepAll K mg μ H (kvs.map (·.2)) vs):(ks.zip vs).length=kvs.length:=by
  have h1:=congrArg List.length e
  have h2:=r.length
  simp only[List.length_map] at h1 h2
  rw[List.length_zip,←h1,←h2,Nat.min_self]
section
variable {X:Cx}
theorem cM:CallR X (.builtin "len") (rB X.K X.mg aq):=by
  intro pins s σ H xs us Q I rx ⟨μ,S,ds,d,rs,ra,e,q⟩
  unfold aq at e
  split at e
  · rename_i d0
    obtain ⟨v,rfl,r1⟩:=bC ra
    have rw0:=rs.view r1
    split at e
    · rename_i ys ev
      rw[ev] at rw0
      cases e
      obtain ⟨a,vs,rfl,h,l,_⟩:=rw0.tup
      exact call_len pins s σ H _ us Q I rx ⟨_,ys.length,rfl,.inr ⟨vs,.inl h,l.length⟩,q H _ .rfl (au _)⟩
    · rename_i ys ev
      rw[ev] at rw0
      cases e
      obtain ⟨a,vs,rfl,h,l⟩:=rw0
      exact call_len pins s σ H _ us Q I rx ⟨_,ys.length,rfl,.inl ⟨vs,.of h,l.length⟩,q H _ .rfl (au _)⟩
    · rename_i ys ev
      rw[ev] at rw0
      cases e
      have rw0:Rep X.K X.mg μ H (.ro ys) v:=rw0
      unfold Rep at rw0
      obtain ⟨a,vs,rfl,h,l⟩:=rw0
      exact call_len pins s σ H _ us Q I rx ⟨_,ys.length,rfl,.inl ⟨vs,h.sq,l.length⟩,q H _ .rfl (au _)⟩
    · rename_i z ev
      rw[ev] at rw0
      split at e
      · rename_i hz
        cases e
        have:=rw0.str
        subst this
        exact call_len pins s σ H _ us Q I rx ⟨_,z.length,rfl,⟨bh hz,rfl⟩,q H _ .rfl (au _)⟩
      · cases e
    · rename_i l ev
      rw[ev] at rw0
      have rw0:Rep X.K X.mg μ H (.loc l) v:=rw0
      unfold Rep at rw0
      obtain ⟨a,rfl,hμ⟩:=rw0
      split at e
      · rename_i kvs es
        cases e
        obtain ⟨a',h1,vs,ks,⟨h2,hk⟩,lr⟩:=rs.at_ _ _ es
        rw[hμ] at h1; cases h1
        exact call_lenD pins s σ H _ us Q I rx ⟨a,_,rfl,h2,by rw[kW hk lr]; exact q H _ .rfl (au _)⟩
      · cases e
    · cases e
  · cases e
end
def dI (S:Sto):D→Option String
  | .none=>some "NoneType"
  | .bool _=>some "bool"
  | .int _=>some "int"
  | .str _=>some "str"
  | .tup _=>some "tuple"
  | .tpn _=>some "tuple"
  | .lst _=>some "list"
  | .loc l=>match S[l]? with
    | some (.lst _)=>some "list"
    | some (.dct _ _)=>some "dict"
    | _=>none
  | _=>none
def isTy (t n:String):Bool:=t == n||(t == "bool"&&n == "int")
def ck (n:String):Bool:=n == "int"||n == "bool"||n == "str"||n == "tuple"||n == "list"||n == "dict"
def hU:List D→Option (List String)
  | []=>some []
  | .ty n::cs=>if ck n then (hU cs).map (n::·) else none
  | _::_=>none
def bV (S:Sto) (ds:List D):Option D:=match ds with
  | [x,.ty n]=>match dI S x with
    | some t=>if ck n then some (.bool (isTy t n)) else none
    | none=>none
  | [x,.tup cs]=>match dI S x with
    | some t=>(hU cs).map fun ns=>.bool (ns.any (isTy t))
    | none=>none
  | _=>none
theorem ng:∀t∈["NoneType","bool","int","str","tuple","list","dict"],∀n∈["int","bool","str","tuple","list","dict"],kitB t n=some (isTy t n):=by decide +kernel
theorem jj {n:String} (h:ck n=true):n∈["int","bool","str","tuple","list","dict"]:=by
  unfold ck at h
  simp only[Bool.or_eq_true,beq_iff_eq] at h
  simp only[List.mem_cons,List.not_mem_nil,or_false]
  rcases h with ((((h|h)|h)|h)|h)|h<;>simp[h]
section
variable {K:PySem.W.Frag} {mg:Str→Option Value} {μ:Mu} {H:Hp} {S:Sto}
theorem nh (rs:RelS K mg μ H S) {x:D} {v:V} {t:String} (r:Rep K mg μ H x v) (e:dI S x=some t):TyX K H v (.type t)∧t∈["NoneType","bool","int","str","tuple","list","dict"]:=by
  cases x with
  | none=>cases e; unfold Rep at r; subst r; exact ⟨.base .non,by decide⟩
  | bool b=>cases e; unfold Rep at r; subst r; exact ⟨.base (.bl _),by decide⟩
  | int b=>cases e; unfold Rep at r; subst r; exact ⟨.base (.int _),by decide⟩
  | str b=>cases e; unfold Rep at r; subst r; exact ⟨.base (.str _),by decide⟩
  | tup b=>cases e; unfold Rep at r; obtain ⟨a,vs,rfl,h,_⟩:=r; exact ⟨.base (.tup h),by decide⟩
  | tpn b=>cases e; unfold Rep at r; obtain ⟨a,vs,o,rfl,⟨h,_⟩,_⟩:=r; exact ⟨.fTuple h,by decide⟩
  | lst b=>cases e; unfold Rep at r; obtain ⟨a,vs,rfl,h,_⟩:=r; exact ⟨.base (.lst h),by decide⟩
  | loc l=>
    unfold Rep at r
    obtain ⟨a,rfl,hμ⟩:=r
    have e:(match S[l]? with|some (.lst _)=>some "list"|some (.dct _ _)=>some "dict"|_=>none)=some t:=e
    split at e
    · rename_i xs es
      cases e
      obtain ⟨a',h1,vs,h2,_⟩:=rs.at_ _ _ es
      rw[hμ] at h1; cases h1
      exact ⟨.base (.lst h2),by decide⟩
    · rename_i t kvs es
      cases e
      obtain ⟨a',h1,ro⟩:=rs.at_ _ _ es
      rw[hμ] at h1; cases h1
      cases t with
      | false=>obtain ⟨vs,ks,⟨h2,_⟩,_⟩:=ro; exact ⟨.base (.dK h2),by decide⟩
      | true=>obtain ⟨vs,ks,⟨h2,_⟩,_⟩:=ro; exact ⟨.base (.dT h2),by decide⟩
    · cases e
  | _=>cases e
theorem lY {t:String} (ht:t∈["NoneType","bool","int","str","tuple","list","dict"]):∀ {cs:List D} {vs:List V} {ns:List String},RepAll K mg μ H cs vs→hU cs=some ns→∃us,Paired ClsV vs us∧PySem.W.kitAny K (.type t) us=some (ns.any (isTy t))
  | [],vs,ns,r,e=>by
    unfold RepAll at r; subst r
    cases e
    exact ⟨[],.nil,rfl⟩
  | c::cs,vs,ns,r,e=>by
    unfold RepAll at r
    obtain ⟨v,q,rfl,r1,r2⟩:=r
    cases c with
    | ty n=>
      unfold Rep at r1; subst r1
      unfold hU at e
      split at e
      · rename_i hk
        obtain ⟨ns',h1,rfl⟩:=Option.map_eq_some_iff.mp e
        have hkit:=kit_ty (K:=K) (ng t ht n (jj hk))
        obtain ⟨us,h2,h3⟩:=lY ht r2 h1
        refine ⟨.type n::us,.cons (.ty n) h2,kitAny_cons hkit (fun h=>?_) fun h=>?_⟩
        · rw[List.any_cons,h,Bool.false_or]; exact h3
        · rw[List.any_cons,h,Bool.true_or]
      · cases e
    | _=>cases e
end
section
variable {X:Cx}
theorem c6:CallR X (.builtin "isinstance") (rB X.K X.mg bV):=by
  intro pins s σ H xs us Q I rx ⟨μ,S,ds,d,rs,ra,e,q⟩
  unfold bV at e
  split at e
  · rename_i x0 n
    obtain ⟨v,w,rfl,r1,r2⟩:=gG ra
    split at e
    · rename_i t et
      split at e
      · rename_i hk
        cases e
        obtain ⟨h1,h2⟩:=nh rs r1 et
        unfold Rep at r2; subst r2
        exact call_isi pins s σ H _ us Q I rx ⟨v,.ty n,.type t,.type n,_,rfl,.ty n,h1,kit_ty (ng t h2 n (jj hk)),q H _ .rfl (bI _)⟩
      · cases e
    · cases e
  · rename_i x0 cs
    obtain ⟨v,w,rfl,r1,r2⟩:=gG ra
    split at e
    · rename_i t et
      obtain ⟨ns,h3,rfl⟩:=Option.map_eq_some_iff.mp e
      obtain ⟨h1,h2⟩:=nh rs r1 et
      unfold Rep at r2
      obtain ⟨tp,vs,rfl,htp,_,rcs⟩:=r2
      obtain ⟨ts,h4,h5⟩:=lY h2 rcs h3
      exact call_isiT pins s σ H _ us Q I rx ⟨v,tp,vs,.type t,ts,_,rfl,htp,h4,h1,h5,q H _ .rfl (bI _)⟩
    · cases e
  · cases e
def kX (_:Sto) (ds:List D):Option D:=match ds with
  | [.int i]=>some (.int i)
  | [.bool b]=>some (.int (if b then 1 else 0))
  | _=>none
theorem c_int:CallR X (.type "int") (rB X.K X.mg kX):=fF call_int1 fun xs H Q ⟨μ,S,ds,d,rs,ra,e,q⟩=>by
  unfold kX at e
  split at e
  · cases e
    obtain ⟨v,rfl,r1⟩:=bC ra
    unfold Rep at r1; subst r1
    exact .inl ⟨_,rfl,q H _ .rfl (au _)⟩
  · cases e
    obtain ⟨v,rfl,r1⟩:=bC ra
    unfold Rep at r1; subst r1
    exact .inr ⟨_,rfl,q H _ .rfl (au _)⟩
  · cases e
def fMax2 (_:Sto) (ds:List D):Option D:=match ds with
  | [.int i,.int j]=>some (.int (if j>i then j else i))
  | _=>none
def fMin2 (_:Sto) (ds:List D):Option D:=match ds with
  | [.int i,.int j]=>some (.int (if j<i then j else i))
  | _=>none
def kY:List D→Option (List Int)
  | []=>some []
  | .int i::ds=>(kY ds).map (i::·)
  | _::_=>none
def fO:List D→Option (List Bool)
  | []=>some []
  | .bool i::ds=>(fO ds).map (i::·)
  | _::_=>none
theorem jk {K:PySem.W.Frag} {mg:Str→Option Value} {μ:Mu} {H:Hp}:∀ {ds:List D} {vs:List V} {ns:List Bool},RepAll K mg μ H ds vs→fO ds=some ns→vs=ns.map V.bl
  | [],vs,ns,r,e=>by unfold RepAll at r; cases e; exact r
  | d::ds,vs,ns,r,e=>by
    unfold RepAll at r
    obtain ⟨v,q,rfl,r1,r2⟩:=r
    cases d with
    | bool i=>
      unfold fO at e
      obtain ⟨ms,h1,rfl⟩:=Option.map_eq_some_iff.mp e
      unfold Rep at r1
      rw[r1,jk r2 h1]; rfl
    | _=>cases e
def fSum (S:Sto) (ds:List D):Option D:=match ds with
  | [d]=>match view S d with
    | .lst xs=>(kY xs).map fun ns=>.int ns.sum
    | _=>none
  | _=>none
def jQ (S:Sto) (ds:List D):Option D:=match ds with
  | [d]=>match view S d with
    | .lst xs=>(fO xs).map fun ns=>.bool (ns.all id)
    | _=>none
  | _=>none
theorem ni (hc:X.calm=true):CallR X (.builtin "all") (rB X.K X.mg jQ):=fF (cr_all hc) fun xs H Q ⟨μ,S,ds,d,rs,ra,e,q⟩=>by
  unfold jQ at e
  split at e
  · obtain ⟨v,rfl,r1⟩:=bC ra
    have rw0:=rs.view r1
    split at e
    · rename_i ys ev
      rw[ev] at rw0
      obtain ⟨ns,h1,rfl⟩:=Option.map_eq_some_iff.mp e
      obtain ⟨a,vs,rfl,h,l⟩:=rw0
      exact ⟨a,ns,rfl,by rw[←jk l h1]; exact .of h,q H _ .rfl (bI _)⟩
    · cases e
  · cases e
def eS (S:Sto) (ds:List D):Option D:=match ds with
  | [.tup xs]=>some (.tup xs)
  | [.tpn xs]=>some (.tpn xs)
  | [d]=>match view0 S d with
    | .lst xs=>some (.tpn xs)
    | _=>none
  | _=>none
/-- tuple(a list): what it makes has no dict -/
theorem iw:CallR X (.type "tuple") (fun xs H Q=>∃p ys,xs=[.ref p]∧((SqL X.K H p ys∧∀l o,H l=none→o.dict=none→Q (.ref l) (upd H l (.frz o (.tup ys))))∨(SqT X.K H p ys∧Q (.ref p) H))):=by
  intro pins s σ H xs us Q I r h
  obtain ⟨p,ys,rfl,h⟩:=h
  rcases h with ⟨hq,q⟩|⟨hq,q⟩
  · obtain ⟨u,rfl,rx⟩:=vals1 r
    cases rx
    obtain ⟨its,r',pl,hz⟩:=I.list hq
    have hlen:=r'.length
    refine call_tuple_list pl.isList (fun h' kp=>?_) (by simp only[List.size_toArray]<;>omega)
    have I1:L2.Inv X pins σ H { s with heap:=h' }:=I.kept (t':=s.toks) kp
    have I2:L2.Inv X pins σ (upd H h'.objs.size (.frz { cls:=.type "tuple",data:=.seq its.toArray } (.tup ys))) { s with heap:=h'.push { cls:=.type "tuple",data:=.seq its.toArray } }:=
      I1.laid (t':=s.toks) (fun b o e=>Heap.get?_push_of_some _ e) (Nat.le_refl _) (show ObjOk X.prog X.w _ _ _ (.frz _ (.tup ys)) from ⟨Heap.get?_push_size _ rfl,hz,its,r',IsTup.new _ _⟩)
    exact ⟨.ref h'.objs.size,_,I2,rfl,q _ _ (I1.hok.fresh (Nat.le_refl _)) rfl⟩
  · exact call_tuple_of pins s σ H _ us Q I r ⟨p,ys,rfl,.inr ⟨hq,q⟩⟩
theorem lZ {K:PySem.W.Frag} {mg:Str→Option Value} {μ:Mu} {H:Hp} {S:Sto} (rs:RelS K mg μ H S) {p:Addr} {o:Obj} (hp:H p=none) (ho:o.dict=none) {ds:List D} {vs:List V} (l:RepAll K mg μ H ds vs) :
    Rep K mg μ (upd H p (.frz o (.tup vs))) (.tpn ds) (.ref p):=by
  unfold Rep
  exact ⟨p,vs,o,rfl,⟨upd_same,ho⟩,rs.fresh hp,RepAll.step (.of_sm (.upd hp)) _ _ l⟩
theorem hV:CallR X (.type "tuple") (rB X.K X.mg eS):=fF iw fun xs H Q ⟨μ,S,ds,d,rs,ra,e,q⟩=>by
  unfold eS at e
  split at e
  · obtain ⟨v,rfl,r1⟩:=bC ra
    cases e
    have r2:=r1
    unfold Rep at r2
    obtain ⟨a,vs,rfl,h,n,l⟩:=r2
    exact ⟨a,vs,rfl,.inr ⟨.of h,q H _ .rfl r1⟩⟩
  · obtain ⟨v,rfl,r1⟩:=bC ra
    cases e
    have r2:=r1
    unfold Rep at r2
    obtain ⟨a,vs,o,rfl,⟨h,_⟩,n,l⟩:=r2
    exact ⟨a,vs,rfl,.inr ⟨.inl (.inr ⟨o,h⟩),q H _ .rfl r1⟩⟩
  · obtain ⟨v,rfl,r1⟩:=bC ra
    have rw0:=rs.view0 r1
    split at e
    · rename_i ys ev
      rw[ev] at rw0
      cases e
      obtain ⟨a,vs,rfl,h,l⟩:=rw0
      exact ⟨a,vs,rfl,.inl ⟨.of h,fun p o hp ho=>q _ _ (.upd hp) (lZ rs hp ho l)⟩⟩
    · cases e
  · cases e
end
abbrev BM:=Sto→D→List D→Option (D × Sto)
def rM (K:PySem.W.Frag) (mg:Str→Option Value) (f:BM):V→List V→Hp→VK→Prop:=fun x xs H Q=>
  ∃μ S d ds r S',RelS K mg μ H S∧Rep K mg μ H d x∧RepAll K mg μ H ds xs∧f S d ds=some (r,S')∧∀μ' H' v,Step μ H μ' H'→RelS K mg μ' H' S'→Rep K mg μ' H' r v→Q v H'
def eM (ok:Sto→D→Bool) (f:BM) (ma:ME) (r:MA):ME:=fun env S=>(ma env S).bind fun d S=>if ok S d then (r env S).bind fun ds S=>match f S d ds with
  | some p=>.ok p.1 p.2
  | none=>.stuck else .stuck
def cA (S:Sto) (d:D):Bool:=match view S d with
  | .lst _=>true
  | _=>false
def ix (S:Sto) (d:D):Bool:=match d with
  | .loc l=>match S[l]? with
    | some (.dct _ _)=>true
    | _=>false
  | _=>false
def az (_:Sto) (d:D):Bool:=match d with
  | .str _=>true
  | _=>false
section
variable {X:Cx} {W:WX} {o e:Expr} {es:List Expr} {apos cpos:Pos} {ma:ME} {r:MA} {f:BM} {ok:Sto→D→Bool} {T id:String} {name:Str}
theorem gn {K:PySem.W.Frag} {mg:Str→Option Value} {μ:Mu} {H:Hp} {S:Sto} {d:D} {x:V} (rs:RelS K mg μ H S) (r:Rep K mg μ H d x) (h:cA S d=true):tyV K "list" x H:=by
  unfold cA at h
  have w:=rs.view r
  split at h
  · rename_i xs ev
    rw[ev] at w
    obtain ⟨a,vs,rfl,h,_⟩:=w
    exact .inl ⟨rfl,vs,.of h⟩
  · cases h
theorem ty_dct {K:PySem.W.Frag} {mg:Str→Option Value} {μ:Mu} {H:Hp} {S:Sto} {d:D} {x:V} (rs:RelS K mg μ H S) (r:Rep K mg μ H d x) (h:ix S d=true):tyV K "dict" x H:=by
  unfold ix at h
  split at h
  · rename_i l
    unfold Rep at r
    obtain ⟨a,rfl,hμ⟩:=r
    split at h
    · rename_i t kvs es
      obtain ⟨a',h1,ro⟩:=rs.at_ _ _ es
      rw[hμ] at h1; cases h1
      cases t with
      | false=>obtain ⟨vs,ks,⟨h2,_⟩,_⟩:=ro; exact .inr (.inr (.inl ⟨rfl,.inl ⟨_,h2⟩⟩))
      | true=>obtain ⟨vs,ks,⟨h2,_⟩,_⟩:=ro; exact .inr (.inr (.inl ⟨rfl,.inr ⟨_,h2⟩⟩))
    · cases h
  · cases h
theorem cR {K:PySem.W.Frag} {mg:Str→Option Value} {μ:Mu} {H:Hp} {S:Sto} {d:D} {x:V} (rs:RelS K mg μ H S) (r:Rep K mg μ H d x) (h:az S d=true):tyV K "str" x H:=by
  unfold az at h
  split at h
  · unfold Rep at r; subst r; rfl
  · cases h
theorem dZ (hok:∀ {μ:Mu} {H:Hp} {S:Sto} {d:D} {x:V},RelS X.K X.mg μ H S→Rep X.K X.mg μ H d x→ok S d=true→tyV X.K T x H) (pa:PlainAttrs T) (slot:Slot T name id) (hty:typeOf (.builtin id)=pure (.type "method_descriptor")) (hm:MtR X id (rM X.K X.mg f)) (ho:PE X o (tE X W ma)) (ha:PA X (e::es) (tAs X W r))
    (hbase:attributeBase o name X.env (eval o X.env)=eval o X.env:=by rfl)
    (hfew:((backTo cpos (starEach (e::es) X.env)).all (fun x=>!x.1)&&(backToKw cpos (keywordEach [] X.env)).all (fun x=>x.1.isSome)
      && decide ((e::es).length+([]:List Keyword).length+(if ([]:List Keyword).isEmpty then 0 else 1)<30))=true:=by rfl)
    (hline:(apos.endLine == cpos.line)=true:=by rfl) (hs:starEach (e::es) X.env=(false,eval e X.env)::starEach es X.env:=by rfl) (hplain:(backTo cpos (starEach es X.env)).any (·.1)=false:=by rfl) :
    PE X (.Call (.Attribute o name apos) (e::es) [] cpos) (tE X W (eM ok f ma r)):=
  bf (pe_bm pa slot hty hm ho ha hbase hfew hline hs hplain) fun σ H Q ⟨env,S,μ,rl,o⟩=>⟨env,S,μ,rl,(Out.bind o).mono fun x H1 ⟨μ1,S1,d,st,rs,rd,o1⟩=>by
    split at o1
    · rename_i hk
      refine ⟨hok rs rd hk,env,S1,μ1,⟨rl.env.step st,rs⟩,(Out.bind o1).mono fun xs H2 ⟨μ2,S2,ds,st2,rs2,rds,o2⟩=>?_⟩
      cases ef:f S2 d ds with
      | none=>rw[ef] at o2; exact o2.elim
      | some p=>rw[ef] at o2; exact ⟨μ2,S2,d,ds,p.1,p.2,rs2,Rep.step st2 _ _ rd,rds,ef,o2⟩
    · exact o1.elim⟩
theorem gp {r r':V→List V→Hp→VK→Prop} (h:MtR X id r) (i:∀x xs H Q,r' x xs H Q→r x xs H Q):MtR X id r':=fun pins s σ H x xs v us Q I rx rxs w=>h pins s σ H x xs v us Q I rx rxs (i _ _ _ _ w)
/-- xs.append(d) -/
def bq:BM:=fun S d ds=>match d,ds with
  | .loc l,[a]=>match S[l]? with
    | some (.lst xs)=>if xs.length<1000000 then some (.none,S.set l (.lst (xs++[a]))) else none
    | _=>none
  | _,_=>none
theorem gK:MtR X "list.append" (rM X.K X.mg bq):=gp mt_append fun x xs H Q ⟨μ,S,d,ds,r,S',rs,rd,rds,e,q⟩=>by
  unfold bq at e
  split at e
  · rename_i l a
    unfold Rep at rd
    obtain ⟨ad,rfl,hμ⟩:=rd
    obtain ⟨v,rfl,rv⟩:=bC rds
    split at e
    · rename_i ys es
      split at e
      · rename_i hl
        cases e
        obtain ⟨a',h1,vs,h2,h3⟩:=rs.at_ _ _ es
        rw[hμ] at h1; cases h1
        have st:Step μ H μ (upd H ad (.lst (vs++[v]))):=Step.write rs hμ (.of h2)
        refine ⟨ad,vs,v,rfl,rfl,h2,by rw[←h3.length,sizeLine_eq]; omega,q μ _ .non st (rs.write hμ (.of h2) ⟨_,upd_same,RepAll.step st _ _ (h3.append (.cons rv .nil))⟩) ie⟩
      · cases e
    · cases e
  · cases e
end
end DL
namespace DL
open PySem PySem.Spec PyProof.Rows L2
def kZ (t:Bool) (kvs:List (D × D)) (k v:D):List (D × D):=
  if (kvs.any fun p=>keq t p.1 k)=true then kvs.map (fun p=>if keq t p.1 k=true then (p.1,v) else p) else kvs++[(k,v)]
theorem ka {κ:Type} [DecidableEq κ] {f:κ→D} {g:D→D→Bool} (hg:∀a b,g (f a) (f b)=decide (a=b)) {K:PySem.W.Frag} {mg:Str→Option Value} {μ:Mu} {H:Hp} (k:κ) {d:D} {v:V} (rd:Rep K mg μ H d v) {kvs:List (D × D)} {ks:List κ} {vs:List V} (e:kvs.map (·.1)=ks.map f) (r:RepAll K mg μ H (kvs.map (·.2)) vs) :
    ∃(ks':List κ) (vs':List V),putK (ks.zip vs) k v=ks'.zip vs'∧(if (kvs.any fun p=>g p.1 (f k))=true then kvs.map (fun p=>if g p.1 (f k)=true then (p.1,d) else p) else kvs++[(f k,d)]).map (·.1)=ks'.map f∧
      RepAll K mg μ H ((if (kvs.any fun p=>g p.1 (f k))=true then kvs.map (fun p=>if g p.1 (f k)=true then (p.1,d) else p) else kvs++[(f k,d)]).map (·.2)) vs':=by
  have any:∀ {kvs:List (D × D)} {ks:List κ} {vs:List V},kvs.map (·.1)=ks.map f→RepAll K mg μ H (kvs.map (·.2)) vs→(kvs.any fun p=>g p.1 (f k))=((ks.zip vs).any fun p=>decide (p.1=k)):=by
    intro kvs
    induction kvs with
    | nil=>
      intro ks vs e r
      have:ks=[]:=by cases ks with|nil=>rfl|cons a b=>cases e
      subst this; rfl
    | cons p kvs ih=>
      intro ks vs e r
      cases ks with
      | nil=>cases e
      | cons k' ks=>
        have r:RepAll K mg μ H (p.2::kvs.map (·.2)) vs:=r
        unfold RepAll at r
        obtain ⟨v,q,rfl,r1,r2⟩:=r
        injection e with e1 e2
        rw[List.zip_cons_cons,List.any_cons,List.any_cons,ih e2 r2]
        have e1:p.1=f k':=e1
        rw[e1,hg]
  have mp:∀ {kvs:List (D × D)} {ks:List κ} {vs:List V},kvs.map (·.1)=ks.map f→RepAll K mg μ H (kvs.map (·.2)) vs→
      ∃vs':List V,(ks.zip vs).map (fun p=>if p.1=k then (p.1,v) else p)=ks.zip vs'∧(kvs.map fun p=>if g p.1 (f k)=true then (p.1,d) else p).map (·.1)=ks.map f∧RepAll K mg μ H ((kvs.map fun p=>if g p.1 (f k)=true then (p.1,d) else p).map (·.2)) vs':=by
    intro kvs
    induction kvs with
    | nil=>
      intro ks vs e r
      have:ks=[]:=by cases ks with|nil=>rfl|cons a b=>cases e
      subst this; exact ⟨[],rfl,rfl,.nil⟩
    | cons p kvs ih=>
      intro ks vs e r
      cases ks with
      | nil=>cases e
      | cons k' ks=>
        have r:RepAll K mg μ H (p.2::kvs.map (·.2)) vs:=r
        unfold RepAll at r
        obtain ⟨w,q,rfl,r1,r2⟩:=r
        injection e with e1 e2
        have e1:p.1=f k':=e1
        obtain ⟨vs',h1,h2,h3⟩:=ih e2 r2
        have hgk:g p.1 (f k)=decide (k'=k):=by rw[e1,hg]
        have hf1:(if g p.1 (f k)=true then (p.1,d) else p).1=f k':=by split<;>exact e1
        by_cases hk:k'=k
        · refine ⟨v::vs',?_,?_,?_⟩
          · rw[List.zip_cons_cons,List.map_cons,h1,List.zip_cons_cons]; simp[hk]
          · rw[List.map_cons,List.map_cons,h2,List.map_cons,hf1]
          · rw[List.map_cons,List.map_cons]
            simp only[hgk,hk,decide_true,if_true]
            exact .cons rd h3
        · refine ⟨w::vs',?_,?_,?_⟩
          · rw[List.zip_cons_cons,List.map_cons,h1,List.zip_cons_cons]; simp[hk]
          · rw[List.map_cons,List.map_cons,h2,List.map_cons,hf1]
          · rw[List.map_cons,List.map_cons]
            simp only[hgk,hk,decide_false,Bool.false_eq_true,if_false]
            exact .cons r1 h3
  have ha:=any e r
  unfold putK
  rw[ha]
  by_cases hb:((ks.zip vs).any fun p=>decide (p.1=k))=true
  · rw[if_pos hb,if_pos hb]
    obtain ⟨vs',h1,h2,h3⟩:=mp e r
    exact ⟨ks,vs',h1,h2,h3⟩
  · rw[if_neg hb,if_neg hb]
    have hl:ks.length=vs.length:=by
      have h1:=congrArg List.length e
      have h2:=r.length
      simp only[List.length_map] at h1 h2
      omega
    refine ⟨ks++[k],vs++[v],by rw[List.zip_append hl]; rfl,by simp[e],?_⟩
    rw[List.map_append]
    exact r.append (.cons rd .nil)
theorem put_ok {K:PySem.W.Frag} {mg:Str→Option Value} {μ:Mu} {H:Hp} {t:Bool} {kvs:List (D × D)} {a:Addr} {k d:D} {y v:V} (h:RepO K mg μ H (.dct t kvs) a) (hk:b8 t k=true) (rk:Rep K mg μ H k y) (rd:Rep K mg μ H d v) (hl:kvs.length<1000000) :
    ∃ho,DPut H a y v (upd H a ho)∧∀ {μ':Mu},Step μ H μ' (upd H a ho)→RepO K mg μ' (upd H a ho) (.dct t (kZ t kvs k d)) a:=by
  cases t with
  | false=>
    obtain ⟨vs,ks,⟨e,q⟩,rs⟩:=h
    obtain ⟨kk,rfl⟩:=nV hk
    rw[f8 rk]
    obtain ⟨ks',vs',h1,h2,h3⟩:=ka nU kk rd q rs
    have hz:(ks.zip vs).length<sizeLine:=by rw[kW q rs,sizeLine_eq]; omega
    refine ⟨_,.k e hz,fun st=>?_⟩
    rw[h1] at *
    exact ⟨vs',ks',⟨upd_same,h2⟩,RepAll.step st _ _ h3⟩
  | true=>
    obtain ⟨vs,ks,⟨e,q⟩,rs⟩:=h
    obtain ⟨kk,rfl⟩:=pR hk
    obtain ⟨b,rfl,hb⟩:=ij rk
    obtain ⟨ks',vs',h1,h2,h3⟩:=ka pQ kk rd q rs
    have hz:(ks.zip vs).length<sizeLine:=by rw[kW q rs,sizeLine_eq]; omega
    refine ⟨_,.t e hb hz,fun st=>?_⟩
    rw[h1] at *
    exact ⟨vs',ks',⟨upd_same,h2⟩,RepAll.step st _ _ h3⟩
def cz (S:Sto) (o i v:D):Option Sto:=match o with
  | .loc l=>match S[l]? with
    | some (.lst xs)=>match i with
      | .int k=>match ixN xs.length k with
        | some j=>some (S.set l (.lst (xs.set j v)))
        | none=>none
      | _=>none
    | some (.dct t kvs)=>if b8 t i=true∧kvs.length<1000000 then some (S.set l (.dct t (kZ t kvs i v))) else none
    | _=>none
  | _=>none
def rPut (K:PySem.W.Frag) (mg:Str→Option Value):TSet:=fun o i v H Q=>∃μ S od id vd S',RelS K mg μ H S∧Rep K mg μ H od o∧Rep K mg μ H id i∧Rep K mg μ H vd v∧cz S od id vd=some S'∧∀μ' H',Step μ H μ' H'→RelS K mg μ' H' S'→Q H'
section
variable {X:Cx} {W:WX}
theorem rg (hu:X.A.units+1<cLine):PSet X (rPut X.K X.mg):=by
  intro pins s σ H o i v ov iv u Q I ro ri rv ⟨μ,S,od,id,vd,S',rs,rod,rid,rvd,e,q⟩
  unfold cz at e
  split at e
  · rename_i l
    unfold Rep at rod
    obtain ⟨a,rfl,hμ⟩:=rod
    split at e
    · rename_i xs es
      obtain ⟨a',h1,vs,h2,h3⟩:=rs.at_ _ _ es
      rw[hμ] at h1; cases h1
      split at e
      · rename_i k
        unfold Rep at rid
        subst rid
        split at e
        · rename_i j ej
          cases e
          have st:Step μ H μ (upd H a (.lst (vs.set j v))):=Step.write rs hμ (.of h2)
          exact set_list pins s σ H _ _ _ ov iv u Q I ro ri rv ⟨a,vs,k,j,rfl,rfl,h2,by rw[←h3.length]; exact ej,q μ _ st (rs.write hμ (.of h2) ⟨_,upd_same,RepAll.step st _ _ (h3.set rvd j)⟩)⟩
        · cases e
      · cases e
    · rename_i t kvs es
      split at e
      · rename_i hk
        cases e
        obtain ⟨a',h1,h2⟩:=rs.at_ _ _ es
        rw[hμ] at h1; cases h1
        obtain ⟨ho,hp,hr⟩:=put_ok h2 hk.1 rid rvd hk.2
        have nf:NF H a:=by
          cases t<;>(obtain ⟨vs,ks,⟨q,_⟩,_⟩:=h2; exact .of q)
        have st:Step μ H μ (upd H a ho):=Step.write rs hμ nf
        exact set_dict hu pins s σ H _ _ _ ov iv u Q I ro ri rv ⟨a,_,rfl,hp,q μ _ st (rs.write hμ nf (hr st))⟩
      · cases e
    · cases e
  · cases e
def iy (mo mi:ME):MG:=fun v env S=>match mo env S with
  | .ok o S=>match mi env S with
    | .ok i S=>(cz S o i v).map fun S=>(env,S)
    | _=>none
  | _=>none
theorem kb {o i:Expr} {mo mi:ME} {pos:Pos} (hu:X.A.units+1<cLine) (ho:PE X o (tE X (fun _ _ _ _=>False) mo)) (hi:PE X i (tE X (fun _ _ _ _=>False) mi))
    (ha:∀v,assign (.Subscript o i pos) X.env v=(do
      let ov ←holding [v] (eval o X.env)
      let iv ←holding [v,ov] (eval i X.env)
      standAt pos
      holding [v,ov,iv] (setItem ov iv v)
      release [v,ov,iv] []):=by intro v; rfl):PG X (.Subscript o i pos) (tG X (iy mo mi)):=
  je (pg_sub ho hi (rg hu) ha) fun v σ H Q ⟨env,S,μ,d,rl,r,o⟩=>by
    unfold iy at o
    refine ⟨env,S,μ,rl,?_⟩
    cases hmo:mo env S with
    | exc a b=>simp only[hmo] at o; exact o.elim
    | stuck=>simp only[hmo] at o; exact o.elim
    | ok od S1=>
      simp only[hmo] at o
      intro μ1 H1 ov st1 rs1 ro
      refine ⟨env,S1,μ1,⟨rl.env.step st1,rs1⟩,?_⟩
      cases hmi:mi env S1 with
      | exc a b=>simp only[hmi] at o; exact o.elim
      | stuck=>simp only[hmi] at o; exact o.elim
      | ok id S2=>
        simp only[hmi] at o
        intro μ2 H2 iv st2 rs2 ri
        cases hs:cz S2 od id d with
        | none=>simp only[hs] at o; exact o.elim
        | some S3=>
          simp only[hs] at o
          exact ⟨μ2,S2,od,id,d,S3,rs2,Rep.step st2 _ _ ro,ri,Rep.step (st1.trans st2) _ _ r,hs,fun μ' H' st rs'=>o μ' H' σ ((st1.trans st2).trans st) (rl.env.step ((st1.trans st2).trans st)) rs'⟩
def eRev (m:ME):ME:=fun env S=>(m env S).bind fun d S=>match view S d with
  | .lst xs=>.ok (.lst xs.reverse) S
  | _=>.stuck
theorem RepAll.reverse {K:PySem.W.Frag} {mg:Str→Option Value} {μ:Mu} {H:Hp}:∀ {ds:List D} {vs:List V},RepAll K mg μ H ds vs→RepAll K mg μ H ds.reverse vs.reverse
  | [],_,h=>by unfold RepAll at h; subst h; exact .nil
  | d::ds,_,h=>by
    unfold RepAll at h
    obtain ⟨v,r,rfl,h1,h2⟩:=h
    rw[List.reverse_cons,List.reverse_cons]
    exact (RepAll.reverse h2).append (.cons h1 .nil)
end
end DL
namespace DL
open PySem PySem.Spec PyProof.Rows L2
section
variable {K:PySem.W.Frag} {mg:Str→Option Value} {μ:Mu} {H:Hp} {S:Sto}
theorem Stp.reveal {p:Addr} {h':List Addr} (hp:p∈μ.h) (hs:∀a∈h',a∈μ.h):Stp μ H ⟨μ.l++[p],h'⟩ H:=
  ⟨⟨⟨[p],rfl⟩,fun a ha=>.inl (by
    rcases ha with z|z
    · rcases List.mem_append.mp z with e|e
      · exact .inl e
      · have:a=p:=by simpa using e
        subst this; exact .inr hp
    · exact .inr (hs a z)),fun _ _ e _ _=>e⟩,fun _ _ _ e=>e⟩
theorem RelS.reveal {p:Addr} {o:O} {h':List Addr} (rs:RelS K mg μ H S) (hp:p∈μ.h) (hs:∀a∈h',a∈μ.h) (hn:p∉h') (r:RepO K mg μ H o p):RelS K mg ⟨μ.l++[p],h'⟩ H (S++[o]):=by
  have np:p∉μ.l:=fun z=>rs.dis p z hp
  have st:Stp μ H ⟨μ.l++[p],h'⟩ H:=.reveal hp hs
  refine ⟨by simp[rs.len],List.nodup_append.mpr ⟨rs.nd,by simp,fun a ha b hb=>?_⟩,fun a ha z=>?_,fun a ha=>rs.hid a (hs a ha),fun l u e=>?_,rs.tab⟩
  · have:b=p:=by simpa using hb
    subst this
    exact fun z=>np (z▸ha)
  · rcases List.mem_append.mp ha with e|e
    · exact rs.dis a e (hs a z)
    · have:a=p:=by simpa using e
      subst this; exact hn z
  · by_cases hl:l<S.length
    · rw[List.getElem?_append_left hl] at e
      obtain ⟨a,h1,h2⟩:=rs.at_ l u e
      exact ⟨a,st.get h1,h2.step st fun w q=>q⟩
    · rw[List.getElem?_append_right (by omega)] at e
      have hl2:l - S.length=0:=by
        have:=(List.getElem?_eq_some_iff.mp e).1
        simp at this; omega
      rw[hl2] at e
      simp at e
      subst e
      have:l=S.length:=by omega
      subst this
      exact ⟨p,by rw[rs.len]; simp,r.step st fun w q=>q⟩
end
def dle (a b:D):Bool:=PySem.W.dataLe false pdF a b
def pf (xs:List D):Bool:=xs.all (dok 60)&&(xs.all fun a=>xs.all fun b=>PySem.W.alike (pdF a) (pdF b)) &&
  ((xs.all fun a=>match a with
    | .tup (_::_)=>true
    | .tpn (_::_)=>true
    | _=>false)||xs.all fun a=>match a with
    | .tup _=>false
    | .tpn _=>false
    | .none=>false
    | _=>true)
def mQ (S:Sto) (d:D):Option (List D):=match view S d with
  | .lst xs=>some xs
  | .ro xs=>some xs
  | _=>none
def pairOf:D→Option (D × D)
  | .tup [k,v]=>if b8 false k=true then some (k,v) else none
  | _=>none
def fP:List D→Option (List (D × D))
  | []=>some []
  | d::ds=>match pairOf d,fP ds with
    | some p,some ps=>some (p::ps)
    | _,_=>none
def bn (kvs:List (D × D)):List (D × D)→List (D × D)
  | []=>kvs
  | p::ps=>bn (kZ false kvs p.1 p.2) ps
def ph (r:MA):ME:=fun env S=>(r env S).bind fun ds S=>match ds with
  | [.tpn xs]=>match fP xs with
    | some ps=>if xs.length≤1000000 then .ok (.loc S.length) (S++[.dct false (bn [] ps)]) else .stuck
    | none=>.stuck
  | _=>.stuck
section
variable {K:PySem.W.Frag} {mg:Str→Option Value} {μ:Mu} {H:Hp}
theorem kc:∀ {ps:List (D × D)} {kvs:List (Key × V)} {ds:List (D × D)} {acc:List (Key × V)},ps.map (·.1)=kvs.map (fun kv=>cV kv.1)→RepAll K mg μ H (ps.map (·.2)) (kvs.map (·.2))→(∃ks vs,acc=List.zip ks vs∧ds.map (·.1)=ks.map cV∧RepAll K mg μ H (ds.map (·.2)) vs)→
    ∃ks vs,mergeK acc kvs=List.zip ks vs∧(bn ds ps).map (·.1)=ks.map cV∧RepAll K mg μ H ((bn ds ps).map (·.2)) vs
  | [],kvs,ds,acc,e,r,h=>by
    have:kvs=[]:=by cases kvs with|nil=>rfl|cons a b=>cases e
    subst this; exact h
  | p::ps,kvs,ds,acc,e,r,⟨ks,vs,h1,h2,h3⟩=>by
    cases kvs with
    | nil=>cases e
    | cons kv kvs=>
      have r:RepAll K mg μ H (p.2::ps.map (·.2)) (kv.2::kvs.map (·.2)):=r
      unfold RepAll at r
      obtain ⟨v,q,ee,r1,r2⟩:=r
      cases ee
      injection e with e1 e2
      have e1:p.1=cV kv.1:=e1
      subst h1
      obtain ⟨ks',vs',g1,g2,g3⟩:=ka nU kv.1 r1 h2 h3
      refine kc (ds:=kZ false ds p.1 p.2) (acc:=putK (ks.zip vs) kv.1 kv.2) e2 r2 ⟨ks',vs',g1,?_,?_⟩
      · unfold kZ; rw[e1]; exact g2
      · unfold kZ; rw[e1]; exact g3
end
end DL
namespace DL
open PySem PySem.Spec PyProof.Rows L2
def turnDC (g:MG) (tc:MT) (mk mv:ME) (w:En) (d:D) (acc:List (D × D)) (S:Sto):Res (List (D × D)):=match g d w S with
  | none=>.stuck
  | some p=>(tc p.1 p.2).bindS fun c S2=>if c=true then (mk p.1 S2).bindS fun k S3=>(mv p.1 S3).bindS fun v S4=>if b8 false k=true∧acc.length<1000000 then .ok (kZ false acc k v) S4 else .stuck else .ok acc S2
def kd (g:MG) (tc:MT) (mk mv:ME) (w:En):List D→List (D × D)→Sto→Res (List (D × D))
  | [],acc,S=>.ok acc S
  | d::ds,acc,S=>(turnDC g tc mk mv w d acc S).bindS fun acc S=>kd g tc mk mv w ds acc S
/-- a dict laid -/
def kD:List (D × D)→Sto→Res D:=fun kvs S=>.ok (.loc S.length) (S++[.dct false kvs])
def pi (mi:MI) (g:MG) (tc:MT) (mk mv:ME) (vs:List Nat):ME:=fun env S=>(mi env S).bind fun it S=>match it with
  | .items ds=>(kd g tc mk mv (bR env vs) ds [] S).bind kD
  | .live _=>.stuck
  | .liveE _=>.stuck
end DL
namespace DL
open PySem PySem.Spec PyProof.Rows L2
def pj (C:Str):MS:=fun env S=>.exc ⟨C,[]⟩ env S
def flV:D→Option V
  | .none=>some .non
  | .bool b=>some (.bl b)
  | .int i=>some (.int i)
  | .str x=>some (.str x)
  | _=>none
def flVs:List D→Option (List V)
  | []=>some []
  | d::ds=>match flV d,flVs ds with
    | some v,some vs=>some (v::vs)
    | _,_=>none
section
variable {K:PySem.W.Frag} {mg:Str→Option Value} {μ:Mu} {H:Hp}
theorem mR {d:D} {v u:V} (r:Rep K mg μ H d v) (e:flV d=some u):v=u:=by
  cases d with
  | none=>cases e; unfold Rep at r; exact r
  | bool b=>cases e; unfold Rep at r; exact r
  | int b=>cases e; unfold Rep at r; exact r
  | str b=>cases e; unfold Rep at r; exact r
  | _=>cases e
theorem ke:∀ {ds:List D} {vs us:List V},RepAll K mg μ H ds vs→flVs ds=some us→vs=us
  | [],vs,us,r,e=>by unfold RepAll at r; cases e; exact r
  | d::ds,vs,us,r,e=>by
    unfold RepAll at r
    obtain ⟨v,q,rfl,r1,r2⟩:=r
    unfold flVs at e
    split at e
    · rename_i a b ea eb
      cases e
      rw[mR r1 ea,ke r2 eb]
    · cases e
end
def rCount (K:PySem.W.Frag):V→List V→Hp→VK→Prop:=fun x xs H Q=>∃(a:Addr) (ys:List V) (y:V),x=V.ref a∧xs=[y]∧SqL K H a ys∧flatV y=true∧ys.all flatV=true∧Q (.int (ys.countP fun z=>eqV z y:Nat)) H
section
variable {X:Cx}
theorem jl {x:V}:∀ {xs:List V} {us:List Value},Vals xs us→xs.all flatV=true→us.countP (eqU x)=xs.countP fun y=>eqV y x
  | _,_,.nil,_=>rfl
  | y::xs,u::us,.cons r t,f=>by
    rw[List.all_cons,Bool.and_eq_true] at f
    rw[List.countP_cons,List.countP_cons,jl t f.2,eqU_of r f.1]
theorem oW:MtR X "list.count" (rCount X.K):=by
  intro pins s σ H x xs v us Q I rx rxs h
  obtain ⟨a,ys,y,rfl,rfl,hs,fy,fys,q⟩:=h
  cases rx
  cases rxs with
  | cons ry rt=>
    rename_i uy ut
    cases rt
    obtain ⟨its,rv,⟨⟨cls,dd,data,sl⟩,n,ho,hc,hdn,hd⟩,hlen⟩:=I.list hs
    simp only at hc hd
    subst hc hd
    refine call_meets PySem.F.slot_list_count ⟨_,ho,rfl⟩ PySem.F.entry_list_count (PySem.F.args_list_count_2 _ _)
      (SeqAt.list_countAt a its.toArray n dd sl uy (eqU y)) ⟨ho,fun u' hu'=>mem_eqAt ry fy rv fys u' (by simpa using hu'),?_⟩
    refine ⟨.int (ys.countP (fun z=>eqV z y):Nat),H,I.tok _,⟨s.toks,?_⟩,q⟩
    show Value.int ((its.toArray.toList.countP (eqU y):Nat):Int) s.toks=_
    rw[show its.toArray.toList=its from rfl,jl rv fys]
def mS:BM:=fun S d ds=>match view0 S d,ds with
  | .lst xs,[a]=>match flVs xs,flV a with
    | some vs,some v=>if vs.all flatV&&flatV v then some (.int (vs.countP fun z=>eqV z v:Nat),S) else none
    | _,_=>none
  | _,_=>none
theorem rh:MtR X "list.count" (rM X.K X.mg mS):=gp oW fun x xs H Q ⟨μ,S,d,ds,r,S',rs,rd,rds,e,q⟩=>by
  unfold mS at e
  split at e
  · rename_i zs a ev
    have rw0:=rs.view0 rd
    rw[ev] at rw0
    obtain ⟨ad,vs,rfl,h1,h2⟩:=rw0
    obtain ⟨v,rfl,rv⟩:=bC rds
    split at e
    · rename_i us u e1 e2
      split at e
      · rename_i hf
        cases e
        rw[Bool.and_eq_true] at hf
        obtain rfl:=ke h2 e1
        obtain rfl:=mR rv e2
        exact ⟨ad,_,_,rfl,rfl,.of h1,hf.2,hf.1,q μ H _ .refl rs (au _)⟩
      · cases e
    · cases e
  · cases e
def mT:BM:=fun S d ds=>match view0 S d,ds with
  | .lst xs,[a]=>match flVs xs,flV a with
    | some vs,some v=>if vs.all flatV&&flatV v then (vs.findIdx? fun z=>eqV z v).map fun j=>(.int (j:Nat),S) else none
    | _,_=>none
  | _,_=>none
theorem rm:MtR X "list.index" (rM X.K X.mg mT):=gp mt_index fun x xs H Q ⟨μ,S,d,ds,r,S',rs,rd,rds,e,q⟩=>by
  unfold mT at e
  split at e
  · rename_i zs a ev
    have rw0:=rs.view0 rd
    rw[ev] at rw0
    obtain ⟨ad,vs,rfl,h1,h2⟩:=rw0
    obtain ⟨v,rfl,rv⟩:=bC rds
    split at e
    · rename_i us u e1 e2
      split at e
      · rename_i hf
        obtain ⟨j,hj,e3⟩:=Option.map_eq_some_iff.mp e
        cases e3
        rw[Bool.and_eq_true] at hf
        obtain rfl:=ke h2 e1
        obtain rfl:=mR rv e2
        obtain ⟨hjl,g1,g2⟩:=List.findIdx?_eq_some_iff_getElem.mp hj
        exact ⟨ad,_,_,j,_,rfl,rfl,.of h1,hf.2,hf.1,List.getElem?_eq_getElem hjl,g1,fun m z' hm hz=>by
          have hml:m<vs.length:=(List.getElem?_eq_some_iff.mp hz).1
          have:=g2 m hm
          rw[List.getElem?_eq_getElem hml] at hz
          cases hz
          simpa using this,q μ H _ .refl rs (au _)⟩
      · cases e
    · cases e
  · cases e
def bx:BM:=fun S d ds=>match d,ds with
  | .str a,[.str b]=>if (b.length == 0)=false∧a.length≤100000 then some (.lst ((Txt.split a b).map .str),S) else none
  | _,_=>none
theorem hX {K:PySem.W.Frag} {mg:Str→Option Value} {μ:Mu} {H:Hp}:∀ys:List Str,RepAll K mg μ H (ys.map .str) (ys.map V.str)
  | []=>.nil
  | y::ys=>.cons (bL y) (hX ys)
theorem cm:MtR X "str.split" (rM X.K X.mg bx):=gp mt_split fun x xs H Q ⟨μ,S,d,ds,r,S',rs,rd,rds,e,q⟩=>by
  unfold bx at e
  split at e
  · rename_i a b
    split at e
    · rename_i hz
      cases e
      unfold Rep at rd
      subst rd
      obtain ⟨v,rfl,rv⟩:=bC rds
      unfold Rep at rv
      subst rv
      exact ⟨a,b,rfl,rfl,hz.1,by rw[sizeLine_eq]; omega,fun p hp=>q μ _ _ (.of_sm (.upd hp)) (rs.sm (.upd hp)) (bw rs hp (hX _))⟩
    · cases e
  · cases e
end
section
open PySem.W PySem.Calls
variable {prog:Program} {w:World} {A:Around} {E:Value→Shared→Prop} {s:Shared} {K:Frag} {x D:Addr} {ox:Obj} {od:Option Obj}
theorem jR {C:Addr} {name:Str} {a g:Value} (hc:(clsIn K C).isSome=true) (ha:findIn K (.ref C) name=some (some a)) (hg:specialIn K a "__get__"=some (some g)) (ht:takesIn K a=some true):findObj K C od name=some (.bind g a):=by
  obtain ⟨cd,hc⟩:=Option.isSome_iff_exists.mp hc
  unfold findObj
  rw[hc,Option.bind_some,ha,Option.bind_some]
  simp[hg,ht]
theorem oX {Q:Option Value→Shared→Prop} (T:ExcC K D) (X:K.In s.heap) (I:InstAt s.heap x ox D od) (h:Q (some (.ref D)) { s with toks:=s.toks+1 }):wpAny (model prog w) A (getAttr? (.ref x) "__class__") Q E s:=by
  have hf:findObj K D od "__class__"=some (.bind (.builtin "getset_descriptor.__get__") (.builtin "object.__class__")):=jR (by obtain ⟨cd,hc,_⟩:=any_some T.hd; rw[hc]; rfl) T.ha T.hn T.ht
  obtain ⟨hp,g,d,t,os⟩:=s
  have L0:=I.type (M:=model prog w)
  have L1:=looks_findIn (M:=model prog w) X T.hg
  have L2:=looks_findIn (M:=model prog w) X T.hk
  have L3:=looks_find (M:=model prog w) X I hf
  have sub:Looks (model prog w) hp (isInstance (.ref x) (.type "BaseException")) true:=L0.andThen (looks_subIn X T.hs)
  have e0:(Value.builtin "BaseException.__getattribute__" == Value.builtin "object.__getattribute__")=false:=by decide +kernel
  have e1:(onTheHeap (Value.ref D)&&Value.builtin "BaseException.__getattribute__" == Value.builtin "object.__getattribute__")=false:=by rw[e0]; rfl
  unfold getAttr? getAttrBy? getAttrBy
  refine wpAny_bind (wpAny_mkText (wpAny_bind (wpAny_attempt (wpAny_holding (wpAny_bind (L0.at (wpAny_bind (L1.at ?_))))))))
  show wpAny _ _ (if (onTheHeap (Value.ref D)&&Value.builtin "BaseException.__getattribute__" == Value.builtin "object.__getattribute__")=true then _ else _) _ _ _
  rw[e1,if_neg Bool.false_ne_true]
  unfold getAttrByItsOwn hookBefore
  refine wpAny_bind ?_
  rw[if_pos (show onTheHeap (Value.ref D)=true from rfl)]
  refine L2.at ?_
  refine wpAny_bind (wpAny_attempt (wpAny_holding ?_))
  unfold callGetattribute
  rw[show (false&&onTheHeap (Value.builtin "BaseException.__getattribute__"))=false from rfl,if_neg Bool.false_ne_true]
  unfold boundAndCalled
  rw[PySem.F.excAttr_ValueError.ga.bind (.ref x)]
  refine wpAny_bind (wpAny_pure ?_)
  show wpAny _ _ (call (.builtin "BaseException.__getattribute__") [.ref x,.str "__class__" t]) _ _ _
  refine wpAny_call (codeAny_call_builtin PySem.F.excAttr_ValueError.ga.plain PySem.F.entry_bexc_ga ?_)
  refine @check_slot (model prog w) _ _ ⟨hp,g,d,t+1,os⟩ "BaseException.__getattribute__" "BaseException" "__getattribute__" (.ref x) [.str "__class__" t] [] _ (by decide +kernel) (by decide +kernel) sub (PySem.F.args_bexc_ga (.ref x) (.str "__class__" t)) ?_
  unfold Builtin.«object.__getattribute__»
  refine wpAny_bind (wpAny_of_eq (a:=((Value.ref x:Value),[Value.str "__class__" t])) (by first|rfl|(simp only[slotArgs]; rfl)) ?_)
  refine wpAny_bind (wpAny_pure (wpAny_bind (L0.at (wpAny_bind (L3.at ?_)))))
  show wpAny _ _ (holding [Value.builtin "object.__class__"] (call (.builtin "getset_descriptor.__get__") [.builtin "object.__class__",.ref x,.ref D]) >>= ret) _ _ _
  refine wpAny_bind (wpAny_holding (wpAny_call (class_get (s:=⟨hp,g,d,t+1,os⟩) (ox:=ox) (od:=od) X I T.hm ?_)))
  refine wpAny_pure ?_
  show wpAny _ _ (handedOut (.ref D)) _ _ _
  rw[handedOut_of (v:=.ref D) rfl]
  first
    | exact wpAny_pure (wpAny_pure h)
    | exact wpAny_pure h
    | exact wpAny_pure (wpAny_bind (wpAny_pure (wpAny_pure h)))
theorem kitE (T:ExcC K D):KitX K (.ref x) (.ref D) (fun h=>InstAt h x ox D od) where
  ty:=fun _ _ _ I=>I.type
  it:=fun _ _ X _=>by
    obtain ⟨cdD,hcD,_⟩:=any_some T.hd
    unfold clsIn at hcD
    split at hcD
    · rename_i c' d' cd' sl' ho
      intro A' Q' E' s' k q
      unfold isType loadHead
      exact wpAny_bind (wpAny_loadPart (k _ _ (X _ _ ho)) (wpAny_pure q))
    · cases hcD
  ne:=fun h tp dd its n sl X htp=>by
    obtain ⟨cdD,hcD,_⟩:=any_some T.hd
    refine Bool.eq_false_iff.mpr fun q=>?_
    have e:D=tp:=Value.ref.inj (beq_iff_eq.mp q)
    subst e
    unfold clsIn at hcD
    split at hcD
    · rename_i c' d' cd' sl' ho
      have z:=(X _ _ ho).symm.trans htp
      cases z
    · cases hcD
  ca:=fun X I k=>oX T X I k
end
/-- the dict of an exception stands -/
def XdAt (H:Hp):Option Addr→Prop
  | none=>True
  | some d=>∃fs,H d=some (.xd fs)
def rIsD (K:PySem.W.Frag) (D a:Addr) (dd:Option Addr):List V→Hp→VK→Prop:=fun xs H Q=>∃(c:V) (cv:Value) (b:Bool),xs=[.ref a,c]∧(∀u,L2.RelV c u→u=cv)∧PySem.W.kitOne K (.ref D) cv=some b∧XdAt H dd∧Q (.bl b) H
theorem xd_at {P:Program} {w:World} {H:Hp} {h:Heap} (hok:HOk P w H h) {d:Addr} {fs:List (Str × V)} (e:H d=some (.xd fs)):∃mA,h.Ns1 d mA∧∀f,RelO (fs.lookup f) (mA f):=by
  have x:ObjOk P w H h d (.xd fs):=hok d _ e
  exact x
theorem pk {X:Cx} {a D:Addr} {dd:Option Addr} {oe:Obj} {pn:List (Addr × Obj)} {pins:List (Addr × Obj)} {σ:L2.St} {H:Hp} {s:Shared} (I:L2.Inv (X.suite a ((a,oe)::pn)) pins σ H s) (hz:Zc (.ref D) dd oe) (hf:∃vs,oe.data=.fields vs) (hd:XdAt H dd) :
    ∃od,PySem.W.InstAt s.heap a oe D od:=by
  obtain ⟨hget,_⟩:=I.pin (a,oe) (List.mem_append_left _ List.mem_cons_self)
  obtain ⟨vs,hv⟩:=hf
  cases dd with
  | none=>
    refine ⟨none,?_⟩
    obtain ⟨oc,od,oda,osl⟩:=oe
    obtain ⟨h1,h2⟩:=hz
    dsimp only at h1 h2 hv
    subst h1 h2 hv
    exact ⟨hget,rfl,rfl,trivial⟩
  | some d=>
    obtain ⟨fs,e⟩:=hd
    obtain ⟨mA,hns,_⟩:=xd_at I.hok e
    obtain ⟨o,es,ep,ho,_⟩:=hns
    refine ⟨some o,hget,hz.1,?_,?_⟩
    · unfold PySem.W.notCls
      rw[hv]<;>rfl
    · rw[hz.2]
      exact ho
theorem po {X:Cx} {a D:Addr} {dd:Option Addr} {oe:Obj} {pn:List (Addr × Obj)} (C:ExcC X.K D) (hz:Zc (.ref D) dd oe) (hf:∃vs,oe.data=.fields vs):CallR (X.suite a ((a,oe)::pn)) (.builtin "isinstance") (rIsD X.K D a dd):=by
  intro pins s σ H xs us Q I r h
  obtain ⟨c,cv,b,rfl,hcv,e,hd,q⟩:=h
  cases r with
  | cons rx rr=>
    cases rr with
    | cons rt rr=>
      cases rr
      cases rx
      have ec:=hcv _ rt
      subst ec
      obtain ⟨od,J⟩:=pk I hz hf hd
      exact PySem.W.kia_one (kitE C) I.kIn J e (fun z=>nomatch z) fun tk=>⟨.bl b,H,I.kept (t':=tk) fun _ _ z=>z,rfl,q⟩
/-- kt: what the class table says; a: where the exception stands; dd: its dict -/
def cD (a:Addr) (dd:Option Addr) (kt:D→Option Bool):BF:=fun _ ds=>match ds,dd with
  | [.adr b,c],none=>if b=a then (kt c).map .bool else none
  | [.exn b d' _ _,c],some d=>if b=a∧d'=d then (kt c).map .bool else none
  | _,_=>none
theorem br {X:Cx} {a C:Addr} {dd:Option Addr} {oe:Obj} {pn:List (Addr × Obj)} {kt:D→Option Bool} (hC:ExcC X.K C) (hz:Zc (.ref C) dd oe) (hf:∃vs,oe.data=.fields vs)
    (hk:∀c b,kt c=some b→∃cv,PySem.W.kitOne X.K (.ref C) cv=some b∧∀(μ:Mu) (H:Hp) (v:V),Rep X.K X.mg μ H c v→∀u,L2.RelV v u→u=cv):CallR (X.suite a ((a,oe)::pn)) (.builtin "isinstance") (rB X.K X.mg (cD a dd kt)):=
  fF (po hC hz hf) fun xs H Q ⟨μ,S,ds,d,rs,ra,e,q⟩=>by
    unfold cD at e
    split at e
    · split at e
      · rename_i hb
        subst hb
        obtain ⟨k,hk1,rfl⟩:=Option.map_eq_some_iff.mp e
        obtain ⟨v,w,rfl,r1,r2⟩:=gG ra
        unfold Rep at r1
        subst r1
        obtain ⟨cv,h1,h2⟩:=hk _ k hk1
        exact ⟨w,cv,k,rfl,h2 μ H w r2,h1,trivial,q H _ .rfl (bI _)⟩
      · cases e
    · split at e
      · rename_i hb
        obtain ⟨rfl,rfl⟩:=hb
        obtain ⟨k,hk1,rfl⟩:=Option.map_eq_some_iff.mp e
        obtain ⟨v,w,rfl,r1,r2⟩:=gG ra
        unfold Rep at r1
        obtain ⟨vs,rfl,h3,_,_⟩:=r1
        obtain ⟨cv,h1,h2⟩:=hk _ k hk1
        exact ⟨w,cv,k,rfl,h2 μ H w r2,h1,⟨_,h3⟩,q H _ .rfl (bI _)⟩
      · cases e
    · cases e
def eXf (a:Addr) (dd:Option Addr) (ok:Bool) (f:Str) (ma:ME):ME:=fun env S=>(ma env S).bind fun d S=>match d,dd with
  | .exn b d' ns ds,some d=>if b=a∧d'=d∧ok=true then (match (ns.zip ds).lookup f with
    | some v=>.ok v S
    | none=>.stuck) else .stuck
  | _,_=>.stuck
theorem hY {K:PySem.W.Frag} {mg:Str→Option Value} {μ:Mu} {H:Hp} {g:Str}:∀ {ns:List Str} {ds:List D} {vs:List V} {d:D},RepAll K mg μ H ds vs→(ns.zip ds).lookup g=some d→∃v,(ns.zip vs).lookup g=some v∧Rep K mg μ H d v
  | [],_,_,_,_,h=>by simp at h
  | _::_,[],_,_,_,h=>by simp at h
  | n::ns,d0::ds,_,_,r,h=>by
    unfold RepAll at r
    obtain ⟨v,t,rfl,h1,h2⟩:=r
    rw[List.zip_cons_cons,List.lookup_cons] at h ⊢
    cases e:(g == n) with
    | true=>
      rw[e] at h
      cases h
      exact ⟨v,rfl,h1⟩
    | false=>
      rw[e] at h
      exact hY h2 h
theorem nj {X:Cx} {W:WX} {a C:Addr} {dd:Option Addr} {oe:Obj} {pn:List (Addr × Obj)} {e:Expr} {ma:ME} {pos:Pos} {n:Str} {ok:Bool} (T:ok=true→XfC X.K C∧PySem.W.findIn X.K (.ref C) n=some none)
    (hz:Zc (.ref C) dd oe) (hf:∃vs,oe.data=.fields vs) (he:PE (X.suite a ((a,oe)::pn)) e (tE (X.suite a ((a,oe)::pn)) W ma)) (hb:attributeBase e n X.env (eval e X.env)=eval e X.env:=by rfl) :
    PE (X.suite a ((a,oe)::pn)) (.Attribute e n pos) (tE (X.suite a ((a,oe)::pn)) W (eXf a dd ok n ma)):=by
  cases ok with
  | false=>
    refine ⟨fun pins s σ H Q I h=>?_⟩
    refine attr_of hb (thn (he.run pins s σ H (fun _ _=>False) I ?_) fun u s1 hh=>?_)
    · obtain ⟨env,S,μ,rl,o⟩:=h
      refine ⟨env,S,μ,rl,(Out.bind (R:=fun μ H a b=>Rep X.K X.mg μ H a b) o).mono fun v H1 ⟨μ1,S1,d,st,rs,r,o1⟩=>?_⟩
      split at o1
      · rw[if_neg (fun z=>by cases z.2.2)] at o1
        exact o1.elim
      · exact o1.elim
    · obtain ⟨_,_,_,_,q⟩:=hh
      exact q.elim
  | true=>
    obtain ⟨T1,hno⟩:=T rfl
    refine bf (pe_xf (cls:=.ref C) (d:=dd) T1 hno hz hf he hb) fun σ H Q h=>?_
    obtain ⟨env,S,μ,rl,o⟩:=h
    refine ⟨env,S,μ,rl,(Out.bind (R:=fun μ H a b=>Rep X.K X.mg μ H a b) o).mono fun v H1 ⟨μ1,S1,d,st,rs,r,o1⟩=>?_⟩
    split at o1
    · rename_i b d' ns ds d0
      split at o1
      · rename_i hb
        obtain ⟨rfl,rfl,_⟩:=hb
        unfold Rep at r
        obtain ⟨vs,rfl,h3,n3,h4⟩:=r
        split at o1
        · rename_i dv hl
          obtain ⟨v,hv,rv⟩:=hY h4 hl
          exact ⟨rfl,rfl,_,_,v,rfl,h3,hv,o1 μ1 H1 v .refl rs rv⟩
        · exact o1.elim
      · exact o1.elim
    · exact o1.elim
end DL
namespace DL
open PySem PySem.Spec PyProof.Rows L2 LamX
/-- what is told of an error,by its class and its fields -/
abbrev Hdr:=Str→List (Str × D)→Option D
/-- what the def makes of what the lambda does -/
def jm (hd:Hdr):Res D→Res D
  | .ok d S=>.ok d S
  | .exc e S=>match hd e.cls e.fs with
    | some d=>.ok d S
    | none=>.stuck
  | .stuck=>.stuck
def hZ (hd:Hdr) (m:ME):ME:=fun env S=>jm hd (m env S)
/-- an error's dict and its fields -/
def DdR (K:PySem.W.Frag) (mg:Str→Option Value) (μ:Mu) (H:Hp) (fs:List (Str × D)) (dd:Option Addr):Prop:=
  (fs=[]∧dd=none)∨fs≠[]∧∃d vs,dd=some d∧H d=some (.xd ((fs.map (·.1)).zip vs))∧RepAll K mg μ H (fs.map (·.2)) vs
/-- .. as a value -/
def exD (ea:Addr) (fs:List (Str × D)):Option Addr→D
  | none=>.adr ea
  | some d=>.exn ea d (fs.map (·.1)) (fs.map (·.2))
/-- the dict is there where fields are -/
def DdK (fs:List (Str × D)) (dd:Option Addr):Prop:=(fs=[]∧dd=none)∨fs≠[]∧∃d,dd=some d
theorem DdR.k {K:PySem.W.Frag} {mg:Str→Option Value} {μ:Mu} {H:Hp} {fs:List (Str × D)} {dd:Option Addr} (h:DdR K mg μ H fs dd):DdK fs dd:=by
  rcases h with h|⟨h,d,_,e,_⟩
  · exact .inl h
  · exact .inr ⟨h,d,e⟩
theorem pp {K:PySem.W.Frag} {mg:Str→Option Value} {μ:Mu} {H:Hp} {S:Sto} (rs:RelS K mg μ H S) {d:Addr} {fs:List (Str × V)} (e:H d=some (.xd fs)):d∉μ:=fun z=>by
  rcases z with z|z
  · obtain ⟨l,hl⟩:=List.mem_iff_getElem?.mp z
    have hlt:l<S.length:=by
      rw[rs.len]
      exact (List.getElem?_eq_some_iff.mp hl).1
    obtain ⟨a,h1,h2⟩:=rs.at_ l S[l] (List.getElem?_eq_getElem hlt)
    rw[hl] at h1
    cases h1
    cases ho:S[l] with
    | lst xs=>
      rw[ho] at h2
      obtain ⟨vs,h3,_⟩:=h2
      rw[e] at h3
      cases h3
    | ins C fs=>
      rw[ho] at h2
      obtain ⟨_,_,_,_,h3,_⟩:=h2
      rw[e] at h3
      cases h3
    | dct t kvs=>
      rw[ho] at h2
      cases t with
      | false=>
        obtain ⟨_,_,⟨h3,_⟩,_⟩:=h2
        rw[e] at h3
        cases h3
      | true=>
        obtain ⟨_,_,⟨h3,_⟩,_⟩:=h2
        rw[e] at h3
        cases h3
    | fdc t kvs=>
      rw[ho] at h2
      cases t with
      | false=>
        obtain ⟨_,_,⟨⟨_,h3⟩,_⟩,_⟩:=h2
        rw[e] at h3
        cases h3
      | true=>
        obtain ⟨_,_,⟨⟨_,h3⟩,_⟩,_⟩:=h2
        rw[e] at h3
        cases h3
  · obtain ⟨u,h1,h2⟩:=rs.hid d z
    rw[e] at h1
    cases h1
    rcases h2 with ⟨_,h2⟩|⟨_,h2⟩|⟨_,h2⟩<;>cases h2
theorem DdR.rep {K:PySem.W.Frag} {mg:Str→Option Value} {μ:Mu} {H:Hp} {S:Sto} (rs:RelS K mg μ H S) {fs:List (Str × D)} {dd:Option Addr} (h:DdR K mg μ H fs dd) (ea:Addr):Rep K mg μ H (exD ea fs dd) (.ref ea):=by
  rcases h with ⟨_,rfl⟩|⟨_,d,vs,rfl,h1,h2⟩
  · unfold exD Rep
    rfl
  · unfold exD Rep
    exact ⟨vs,rfl,h1,pp rs h1,h2⟩
def Ek (K:PySem.W.Frag) (mg:Str→Option Value) (hd:Hdr) (Q:VK):XK:=fun cls d H'=>∃μ S C D fs r,mg C=some (.ref D)∧cls=.ref D∧DdR K mg μ H' fs d∧hd C fs=some r∧RelS K mg μ H' S∧∀μ' H'' v,Step μ H' μ' H''→RelS K mg μ' H'' S→Rep K mg μ' H'' r v→Q v H''
def TTk (K:PySem.W.Frag) (mg:Str→Option Value) (hd:Hdr):(XK→Hp→VK→Prop)→Hp→VK→Prop:=fun tl H Q=>tl (Ek K mg hd Q) H Q
theorem oY {K:PySem.W.Frag} {mg:Str→Option Value} {μ:Mu} {H H1:Hp} {S:Sto} (rs:RelS K mg μ H S) (e:ExtN H H1) (t:Tabs (tbs K) H1):Step μ H μ H1∧RelS K mg μ H1 S:=by
  have st:Step μ H μ H1:=⟨⟨⟨⟨[],by simp⟩,fun _ h=>.inl h,fun a o h _ nt=>e a o h nt⟩,fun a _ _ h=>e a _ h fun _ z=>nomatch z⟩,rfl,fun a u _ h nt=>e a u h nt⟩
  refine ⟨st,rs.len,rs.nd,rs.dis,fun a ha=>?_,fun l o el=>?_,t⟩
  · obtain ⟨u,h1,h2⟩:=rs.hid a ha
    exact ⟨u,e a u h1 h2.ntb,h2⟩
  · obtain ⟨a,h1,h2⟩:=rs.at_ l o el
    refine ⟨a,h1,h2.step st.toStp fun u hu=>e a u hu fun ps z=>?_⟩
    subst z
    exact h2.nt hu
/-- the reading of a whole call -/
theorem t_kind {X:Cx} {W:WX} {hd:Hdr} {m:ME} {σ:L2.St} {H:Hp} {Q:VK} (h:tE X W (hZ hd m) σ H Q) :
    tLam (tbs X.K) (TTk X.K X.mg hd) (fun E=>tE X (fun c d _ H=>E c d H) m) σ H Q:=by
  obtain ⟨env,S,μ,rl,o⟩:=h
  refine ⟨rl.sto.tab,fun H1 e t=>?_⟩
  obtain ⟨st,rs⟩:=oY rl.sto e t
  refine ⟨env,S,μ,⟨rl.env.step st,rs⟩,?_⟩
  have o:=Out.of_step st o
  unfold hZ jm at o
  cases hm:m env S with
  | ok d S'=>rw[hm] at o; exact o
  | stuck=>rw[hm] at o; exact o.elim
  | exc x S'=>
    rw[hm] at o
    simp only at o
    split at o
    · rename_i d e2
      intro μ' H' cls dd st' rs' rx
      obtain ⟨C,h1,h2,h3⟩:=rx
      exact ⟨μ',S',x.cls,C,x.fs,d,h1,h2,h3,e2,rs',fun μ2 H2 v s2 r2 rv=>o μ2 H2 v (st'.trans s2) r2 rv⟩
    · exact o.elim
/-- what the suite is asked -/
def tsK (K:PySem.W.Frag) (mg:Str→Option Value) (hd:Hdr) (i:Nat) (a:Addr) (cls:Value) (d:Option Addr):TS:=fun D σ H=>(∃σ0:L2.St,σ=σ0.set i (some (.ref a)))∧Ek K mg hd D.rt cls d H
theorem mU {X:Cx} {Ng:List Str} {x a e:Str} {sg:Scope} {g CS:Addr} {cdg:Value} {b₀:Stmt} {suite:List Stmt} {q:Str} {hd:Hdr} {i:Nat} {ec:Str} {sm:Str→Addr→Option Addr→MS} {p1 p2 p3 p4 p7 p8:Pos}
    (hN:Ng.Nodup) (hi:Ng[i]?=some e) (hln:sg.names.lookup e=some .local) (hge:sg.names.lookup ec=some .globalImplicit) (hme:X.mg ec=some (.ref CS)) (hde:(ec == ("__debug__":Str))=false) (h0:∀f:Addr,(L2.start Ng [V.ref f])[0]?=some (some (V.ref f)))
    (hx:∀C fs r,hd C fs=some r→∀Da,X.mg C=some (.ref Da)→PySem.W.exmOne X.K (.ref Da) (.ref CS)=some true)
    (hs:∀(s:Shared) (H:Hp) (ea Da:Addr) (oe:Obj) (pn:List (Addr × Obj)) (C:Str) (fs:List (Str × D)) (dd:Option Addr) (r:D),X.mg C=some (.ref Da)→hd C fs=some r→DdK fs dd→Zc (.ref Da) dd oe→(∃vs,oe.data=.fields vs)→
      PSs ((cxOf C8.CX0 X.prog X.w X.K X.mg X.base Ng x sg g cdg X.A X.stack s H C8.E0).nox.suite ea ((ea,oe)::pn)) (b₀::suite) (tS ((cxOf C8.CX0 X.prog X.w X.K X.mg X.base Ng x sg g cdg X.A X.stack s H C8.E0).nox.suite ea ((ea,oe)::pn)) W0 (sm C ea dd)))
    (hsem:∀C fs (ea:Addr) (dd:Option Addr) (S:Sto) r,hd C fs=some r→DdK fs dd→sm C ea dd ((List.replicate Ng.length none).set i (some (exD ea fs dd))) S=.ret r S) :
    GivesTo X Ng x sg g cdg [.Try [.Return (some (.Call (.Name a p1) [] [] p2)) p3] [.ExceptHandler (some (.Name ec p4)) (some e) (b₀::suite) p7] [] [] p8] a q (TTk X.K X.mg hd):=by
  intro f c' s H Q tl act hc h
  have hgl:Gl (cxOf C8.CX0 X.prog X.w X.K X.mg X.base Ng x sg g cdg X.A X.stack s H C8.E0).nox ec:=hge
  refine ⟨_,pss_one (ps_try_as (X:=(cxOf C8.CX0 X.prog X.w X.K X.mg X.base Ng x sg g cdg X.A X.stack s H C8.E0).nox) (c:=.ref CS) (i:=i) (ts:=tsK X.K X.mg hd i)
      (tb:=fun W D σ H=>∃Ech:XK,(∀cls d σ' H',Ech cls d H'→W cls d σ' H')∧σ[0]?=some (some (.ref f))∧H c'=some (CodeO c' q)∧tl Ech H D.rt)
      rfl rfl hN hi hln ⟨hgl,hde,.inl hme⟩ LamX.takes0 (fun W pn xe tk _=>?_) (fun ea oe cls d pn hz hf=>?_)),?_⟩
  · refine ⟨fun pins s' σ H' D I h'=>?_⟩
    obtain ⟨Ech,hW,h1,h2,h3⟩:=h'
    have hp:=act W pn xe Ech p1 p2 tk hW
    have hq:=pss_one (ps_ret (pos:=p3) hp)
    exact hq.run pins s' σ H' D I ⟨h1,h2,h3⟩
  · refine ⟨fun pins s' σ H' D I h'=>?_⟩
    obtain ⟨⟨σ0,rfl⟩,μ,S,C,Da,fs,r,m1,rfl,hdd,m4,rs,hq⟩:=h'
    have hq0:=hs s H ea Da oe pn C fs d r m1 m4 hdd.k hz hf
    have hil:i<Ng.length:=(List.getElem?_eq_some_iff.mp hi).1
    have hsl:σ0.length=Ng.length:=by
      have:=I.len
      rw[List.length_set] at this
      exact this
    refine hq0.run pins s' _ H' D I ⟨(List.replicate Ng.length none).set i (some (exD ea fs d)),S,μ,⟨⟨by simp[hsl],fun j d1 ej=>?_⟩,rs⟩,?_⟩
    · by_cases hj:j=i
      · subst hj
        rw[List.getElem?_set_self (by simpa using hil)] at ej
        cases ej
        exact ⟨.ref ea,by rw[List.getElem?_set_self (by rw[hsl]; exact hil)],hdd.rep rs ea⟩
      · rw[List.getElem?_set_ne (Ne.symm hj)] at ej
        rw[List.getElem?_replicate] at ej
        split at ej<;>cases ej
    · rw[hsem C fs ea d S r m4 hdd.k]
      exact fun μ' H'' v st rs' rv=>hq μ' H'' v st rs' rv
  · refine ⟨Ek X.K X.mg hd Q,fun cls d σ' H' he=>?_,h0 f,hc,h⟩
    obtain ⟨μ,S,C,Da,fs,r,m1,rfl,hdd,m4,rs,hq⟩:=he
    exact ⟨true,hx C fs r m4 Da m1,fun _ ea hea=>⟨⟨σ',rfl⟩,μ,S,C,Da,fs,r,m1,rfl,hdd,m4,rs,hq⟩,fun z=>by cases z⟩
end DL
namespace DL
open PySem PySem.Spec PyProof.Rows L2 LamX
/-- here lambdas may be made -/
structure LamHere (X:Cx) (p:Str × Option Str):Prop where
  tb:TabB X.base X.mg (He.cT X.K p).1 (He.cT X.K p).2
  code:X.env.code=.ref (He.cT X.K p).1
  mem:((He.cT X.K p).2,X.env.qual++"<lambda>")∈tbs X.K
  uniq:∀r∈tbs X.K,r.1=(He.cT X.K p).2→r.2=X.env.qual++"<lambda>"
theorem mV {X:Cx} {K:PySem.W.Frag} {p:Str × Option Str} {x qual:Str} {params:Arguments} {body:List Stmt} {scope:Scope} {fd:FuncData} (F:FunD K x qual params body scope [] [] (He.fAd K p) fd) (hK:X.K=K) (tb:TabB X.base X.mg (He.cT K p).1 (He.cT K p).2)
    (hc:X.env.code=fd.code) (hq:X.env.qual=qual++".<locals>.") {q:Str} (mem:((He.cT K p).2,q)∈tbs K) (uniq:∀r∈tbs K,r.1=(He.cT K p).2→r.2=q) (hqq:qual++".<locals>."++"<lambda>"=q:=by decide +kernel):LamHere X p:=by
  subst hK hqq
  obtain ⟨oc,od,dV,kV,doc,pm,an,cdv,ct,osl,rfl,lk,hcd,_⟩:=F.ex
  obtain ⟨c,rfl⟩:=He.codeIn_ref hcd
  have e:=He.codeOf_eq lk (c:=c) rfl
  refine ⟨tb,?_,by rw[hq]; exact mem,fun r hr h=>by rw[hq]; exact uniq r hr h⟩
  rw[hc]
  show Value.ref c=.ref (He.codeOf X.K p)
  rw[e]
/-- a def that tells the error of what it is handed -/
structure KindF (P:Program) (w:World) (K:PySem.W.Frag) (mg:Str→Option Value) (base:Heap) (k:Nat) (x:Str) (g:Addr) (hd:Hdr):Prop where
  ex:∃(pg:Arguments) (bg:List Stmt) (sg:Scope) (dV kV doc pm cdv ct oc:Value) (an od:Option Addr) (osl:Array (Option Value)) (Ng:List Str) (a:Str),
    K.lookup g=some ⟨oc,od,.func (PySem.W.fnOf x x pg bg sg dV kV doc pm an cdv ct),osl⟩∧PySem.W.codeIn K cdv x=true∧L2.Binds K (PySem.W.fnOf x x pg bg sg dV kV doc pm an cdv ct) [a] []∧FnScope Ng [a] sg∧Ng[0]?=some a∧Vis sg a∧
    (a == ("__debug__":Str))=false∧(a == ("__classdict__":Str))=false∧
    ∀X:Cx,X.prog=P→X.w=w→X.K=K→X.mg=mg→X.base=base→Room (k+2) X.A→∀q,GivesTo X Ng x sg g cdv bg a q (TTk K mg hd)
  kp:PySem.W.keepIn K (.ref g)=true
end DL
namespace DL
open PySem PySem.Spec PyProof.Rows L2 LamX
theorem ru1 {k:Nat} {A:Around} (r:Room k A):A.units+1<cLine:=by have:=r.un; omega
theorem dP {k:Nat} {A:Around} (r:Room k A):A.units+64<cLine:=by have:=r.un; omega
theorem dQ {k:Nat} {A:Around} (r:Room k A):A.units+65<cLine:=by have:=r.un; omega
/-- a def,whatever its record -/
def FnE (P:Program) (w:World) (K:PySem.W.Frag) (mg:Str→Option Value) (base:Heap) (k:Nat) (f:Addr) (ps:List Str) (m:MF):Prop:=∃fd,FnM P w K mg base k f fd ps m
theorem bE {P:Program} {w:World} {K:PySem.W.Frag} {mg:Str→Option Value} {base:Heap} {x qual:Str} {st:Stmt} {f:Addr} {fd:FuncData} {N ps:List Str} {k n:Nat} {m:MS} (F:FunD K x qual (defArgs st) (defBody st) (defScope st) [] [] f fd) (S:FnScope N ps (defScope st)) (hn:N.length - ps.length=n)
    (hb:∀(kV doc pm:Value) (an:Option Addr) (cdv ct:Value) (us:List Value),us.length=ps.length→bindArgs (PySem.W.fnOf x qual (defArgs st) (defBody st) (defScope st) .none kV doc pm an cdv ct) ⟨us,[]⟩=pure (ps.zip us))
    (hbody:∀(cdv:Value) (A:Around) (outer:List Env) (s:Shared) (H:Hp) (E:XK),fd.code=cdv→PassesOwn (model P w) (cxOf (L2N.CX P w) P w K mg base N qual (defScope st) f cdv A outer s H E).A (cxOf (L2N.CX P w) P w K mg base N qual (defScope st) f cdv A outer s H E).env (cxOf (L2N.CX P w) P w K mg base N qual (defScope st) f cdv A outer s H E).xe→
      Room k (cxOf (L2N.CX P w) P w K mg base N qual (defScope st) f cdv A outer s H E).A→∀W,Takes (cxOf (L2N.CX P w) P w K mg base N qual (defScope st) f cdv A outer s H E) W→PSs (cxOf (L2N.CX P w) P w K mg base N qual (defScope st) f cdv A outer s H E) (defBody st) (tS (cxOf (L2N.CX P w) P w K mg base N qual (defScope st) f cdv A outer s H E) W m)):FnM P w K mg base (k+1) f fd ps (bJ n m):=by
  have b:Binds K fd ps []:=F.bindsN hb
  obtain ⟨oc,od,dV,kV,doc,pm,an,cdv,ct,osl,rfl,lk,hcd,_⟩:=F.ex
  refine ⟨fn_of lk hcd S (fun vs H Q E h=>rY h) (fun A outer s H vs Q E hr h=>?_),F.kp,b⟩
  refine ⟨_,hbody cdv A outer s H E rfl (passes_of rfl) hr (fun cls d _ H=>E cls d H) (takes_of rfl rfl rfl rfl),?_⟩
  obtain ⟨ds,So,μ,rs,ra,o⟩:=h
  unfold chk at o
  split at o
  · rename_i hl
    have e0:n=N.length - ds.length:=by rw[hl]; exact hn.symm
    refine ⟨ds.map some++List.replicate n none,So,μ,⟨by rw[e0]; exact mP ra,rs⟩,?_⟩
    unfold bJ at o
    cases hm:m (ds.map some++List.replicate n none) So with
    | next e S1=>rw[hm] at o; exact fun μ' H' σ' st re rs'=>o μ' H' .non st rs' ie
    | ret d S1=>rw[hm] at o; exact fun μ' H' v st rs' r=>o μ' H' v st rs' r
    | exc e v S1=>rw[hm] at o; exact fun μ' H' σ' c d st re rs' r=>o μ' H' c d st rs' r
    | brk e S1=>rw[hm] at o; exact o.elim
    | cont e S1=>rw[hm] at o; exact o.elim
    | stuck=>rw[hm] at o; exact o
  · exact o.elim
section
variable {X:Cx} {W:WX} {k:Nat} {f C:Addr} {ps:List Str} {m mi:MF} {x nm cn:Str} {p pos apos:Pos} {e o:Expr} {es:List Expr} {r:MA} {ma mv:ME}
theorem kg {i:Int} (hm:∃t,X.mg x=some (.int i t)) (hg:Gl X x:=by rfl) (hd:(x == ("__debug__":Str))=false:=by decide):PE X (.Name x pos) (tE X W (eC (.int i))):=hm.elim fun _ h=>rQ hg h hd
theorem kh {i:Str} (hm:∃t,X.mg x=some (.str i t)) (hg:Gl X x:=by rfl) (hd:(x == ("__debug__":Str))=false:=by decide):PE X (.Name x pos) (tE X W (eC (.str i))):=hm.elim fun _ h=>rR hg h hd
theorem aM (F:FnE X.prog X.w X.K X.mg X.base k f ps m) (hr:Room k X.A) (hm:X.mg x=some (.ref f)) (tk:Takes X W) (ha:PA X (e::es) (tAs X W r)) (hg:Gl X x:=by rfl) (hdb:(x == ("__debug__":Str))=false:=by decide)
    (he:starEach (e::es) X.env=(false,eval e X.env)::starEach es X.env:=by rfl) (hpl:(backTo pos (starEach es X.env)).any (·.1)=false:=by rfl) :
    PE X (.Call (.Name x p) (e::es) [] pos) (tE X W (aO ps.length m r)):=F.elim fun _ F=>rf F hr hg hm tk ha hdb he hpl
end
/-- the lambda,for a text of one's own -/
theorem rn {X:Cx} {W:WX} {k:Nat} {x:Str} {g:Addr} {hd:Hdr} {p:Str × Option Str} {params:Arguments} {body:Expr} {scope:Scope} {lpos pos ppos:Pos} {m:ME} (kf:KindF X.prog X.w X.K X.mg X.base k x g hd) (hm:X.mg x=some (.ref g)) (lh:LamHere X p) (hr:Room (k+2) X.A)
    (L:LamS X.env.scope scope)
    (hbody:∀(A:Around) (outer:List Env) (s:Shared) (H:Hp) (E:XK) (f c':Addr),Room k (lamCx X A outer s H E scope f c').A→∀W,Takes (lamCx X A outer s H E scope f c') W→PE (lamCx X A outer s H E scope f c') body (tE (lamCx X A outer s H E scope f c') W m))
    (hg:Gl X x:=by rfl) (hdef:defaultsOf params X.env=([],[]):=by rfl)
    (hbind:∀(q:Str) (cl:List (Str × Addr)) (pm cv ctv:Value),bindArgs (PySem.W.kla_fn "<lambda>" q params body scope cl pm cv ctv) ⟨[],[]⟩=pure []:=by intros; rfl)
    (hdb:(x == ("__debug__":Str))=false:=by decide):PE X (.Call (.Name x ppos) [.Lambda params body scope lpos] [] pos) (tE X W (hZ hd m)):=by
  obtain ⟨pg,bg,sg,dV,kV,doc,pm,cdv,ct,oc,an,od,osl,Ng,a,lk,hcg,hb,Sg,hNg,hva,hda,hca,hG⟩:=kf.ex
  exact bf (pe_lamcall (T:=tbs X.K) (TT:=TTk X.K X.mg hd) (t:=fun E=>tE X (fun c d _ H=>E c d H) m) (c:=(He.cT X.K p).1) (P:=(He.cT X.K p).2) hg hm kf.kp lk hcg hb Sg hNg hva (hG X rfl rfl rfl rfl rfl hr _) lh.tb lh.code lh.mem lh.uniq hr L hdef hbind
    (fun A outer s H E f c' hr2=>hbody A outer s H E f c' hr2 (fun c d _ H=>E c d H) (lX (L2.takes_of rfl rfl rfl rfl))) hdb hda hca) fun σ H Q h=>t_kind h
end DL
namespace DL
open PySem PySem.Spec PyProof.Rows L2 LamX
theorem bT:bootBuiltins "len"=some (.builtin "len"):=by decide +kernel
theorem aH:bootBuiltins "isinstance"=some (.builtin "isinstance"):=by decide +kernel
theorem ki:bootBuiltins "all"=some (.builtin "all"):=by decide +kernel
theorem gq:bootBuiltins "int"=some (.type "int"):=by decide +kernel
theorem kj:bootBuiltins "bool"=some (.type "bool"):=by decide +kernel
theorem mW:bootBuiltins "str"=some (.type "str"):=by decide +kernel
theorem bU:bootBuiltins "tuple"=some (.type "tuple"):=by decide +kernel
theorem gM:bootBuiltins "list"=some (.type "list"):=by decide +kernel
theorem jS:bootBuiltins "ValueError"=some (.type "ValueError"):=by decide +kernel
theorem gr {X:Cx} {W:WX} {ss:List Stmt}:PSs X ss (tS X W eP):=⟨fun _ _ _ _ _ _ ⟨_,_,_,_,o⟩=>o.elim⟩
/-- what isinstance tells of an error of the class C -/
def ktK (C:Str):D→Option Bool
  | .glo y=>if kinds.contains y=true then some (decide (y=C)) else none
  | .ty n=>if n="ValueError" then some true else none
  | _=>none
/-- what is told of an error -/
def hdOf (cs:List Str):Hdr:=fun C fs=>if cs.contains C=true∧fs.map (·.1)=cw C then some (if fs=[] then .str C else .tup (.str C::(fs.map (·.2)).reverse)) else none
/-- what the head tells of the classes cs -/
structure mX (K:PySem.W.Frag) (mg:Str→Option Value) (cs:List Str):Prop where
  gl:∀y∈kinds,mg y=some (.ref (He.ga K y))
  air:mg "AirError"=some (.ref (He.ga K "AirError"))
  kit:∀C∈cs,∀y∈kinds,PySem.W.kitOne K (.ref (He.ga K C)) (.ref (He.ga K y))=some (decide (y=C))
  val:∀C∈cs,PySem.W.kitOne K (.ref (He.ga K C)) (.type "ValueError")=some true
  exm:∀C∈cs,PySem.W.exmOne K (.ref (He.ga K C)) (.ref (He.ga K "AirError"))=some true
  exc:∀C∈cs,ExcC K (He.ga K C)
  sub:∀C∈cs,C∈kinds
  fld:∀C∈cs,∀n∈cw C,PySem.W.findIn K (.ref (He.ga K C)) n=some none
theorem hk_of {K:PySem.W.Frag} {mg:Str→Option Value} {cs:List Str} (F:mX K mg cs) {C:Str} (hC:C∈cs):∀c b,ktK C c=some b→∃cv,PySem.W.kitOne K (.ref (He.ga K C)) cv=some b∧∀(μ:Mu) (H:Hp) (v:V),Rep K mg μ H c v→∀u,L2.RelV v u→u=cv:=by
  intro c b e
  cases c with
  | glo y=>
    unfold ktK at e
    dsimp only at e
    split at e
    · rename_i hy
      have hy:y∈kinds:=List.contains_iff_mem.mp hy
      cases e
      refine ⟨_,F.kit C hC y hy,fun μ H v r u ru=>?_⟩
      unfold Rep at r
      obtain ⟨a,rfl,ha⟩:=r
      rw[F.gl y hy] at ha
      cases ha
      exact ru
    · cases e
  | ty n=>
    unfold ktK at e
    dsimp only at e
    split at e
    · rename_i hn
      subst hn
      cases e
      refine ⟨_,F.val C hC,fun μ H v r u ru=>?_⟩
      unfold Rep at r
      subst r
      exact ru
    · cases e
  | _=>cases e
theorem pq {P:Program} {w:World} {H:Hp} {s:Shared} {e:Value} {s':Shared} (h:L2N.CX P w [] H s (fun _ _ _=>False) e s'):False:=by
  obtain ⟨_,_,_,_,_,_,_,_,_,_,_,_,z⟩:=h
  exact z.elim
theorem iA {K:PySem.W.Frag} {mg:Str→Option Value} {μ:Mu} {H:Hp}:∀ns:List Int,RepAll K mg μ H (ns.map .int) (ns.map V.int)
  | []=>.nil
  | n::ns=>.cons (au n) (iA ns)
/-- where the law begins -/
theorem pz {K:PySem.W.Frag} {mg:Str→Option Value} {H:Hp} {a:Addr} {ns:List Int} {m:MF} (hS:SqL K H a (ns.map V.int)) (hT:∀p∈tbs K,H p.1=some (.tbl #[])) (hL:∃S,m [.ro (ns.map .int)] []=.ok (.bool true) S):spD K mg 1 m [.ref a] H (fun v _=>v=.bl true) fun _ _ _=>False:=by
  obtain ⟨S,hL⟩:=hL
  have nm:∀b:Addr,b∉(⟨[],[]⟩:Mu):=fun b z=>z.elim (fun z=>nomatch z) fun z=>nomatch z
  refine ⟨[.ro (ns.map .int)],[],⟨[],[]⟩,⟨rfl,List.nodup_nil,(fun _ h=>by cases h),(fun _ h=>by cases h),(fun l o e=>by simp at e),fun p hp=>TabS.nil (hT p hp)⟩,.cons ?_ .nil,?_⟩
  · unfold Rep
    refine ⟨a,ns.map V.int,rfl,?_,iA ns⟩
    rcases hS with h|h
    · exact .inl ⟨h,nm a⟩
    · exact .inr (.inr h)
  · have e:chk 1 m [.ro (ns.map .int)] []=.ok (.bool true) S:=by
      unfold chk
      exact hL
    rw[e]
    intro μ' H' v st rs r
    have r:Rep K mg μ' H' (.bool true) v:=r
    unfold Rep at r
    exact r
theorem rq {K:PySem.W.Frag} {D:Addr} (h:excB K D=true):ExcC K D:=by
  unfold excB at h
  simp only[Bool.and_eq_true,decide_eq_true_eq] at h
  obtain ⟨⟨⟨⟨⟨⟨⟨h1,h2⟩,h3⟩,h4⟩,h5⟩,h6⟩,h7⟩,h8⟩:=h
  exact ⟨He.eqO_ok h1,He.eqO_ok h2,h3,h4,He.eqO_ok h5,He.eqO_ok h6,h7,h8⟩
theorem jn {K:PySem.W.Frag} (h:mI K=true):(∀p∈lamDefs,((He.cT K p.1).2,p.2)∈tbs K)∧∀p∈lamDefs,∀r∈tbs K,r.1=(He.cT K p.1).2→r.2=p.2:=by
  refine ⟨fun p hp=>List.mem_map.mpr ⟨p,hp,rfl⟩,fun p hp r hr e=>?_⟩
  unfold mI at h
  simp only[List.all_eq_true,Bool.or_eq_true,Bool.not_eq_true',decide_eq_false_iff_not,decide_eq_true_eq] at h
  rcases h p hp r hr with z|z
  · exact absurd e z
  · exact z
theorem oZ {K:PySem.W.Frag} {h:Heap} {mg:Str→Option Value} {cs:List Str} (X:K.In h) (G:h.Ns mainGlobals mg) (hx:kI K cs=true) (h1:∀y∈kinds,(He.Fa.glo y).ok K=true) (h2:(He.Fa.glo "AirError").ok K=true) (h3:∀C∈cs,(He.Fa.exm C "AirError" true).ok K=true):mX K mg cs:=by
  unfold kI at hx
  simp only[List.all_eq_true,Bool.and_eq_true,decide_eq_true_eq] at hx
  exact ⟨fun y hy=>He.glo_ok X G (h1 y hy),He.glo_ok X G h2,fun C hC y hy=>(hx C hC).1.1.1.2 y hy,fun C hC=>(hx C hC).1.1.2,fun C hC=>He.exm_ok (h3 C hC),fun C hC=>rq (hx C hC).1.2,fun C hC=>List.contains_iff_mem.mp (hx C hC).1.1.1.1,fun C hC n hn=>He.eqO_ok ((hx C hC).2 n hn)⟩
end DL
namespace DL
open PySem PySem.Spec PyProof.Rows L2 LamX
@[simp] theorem bind_ok {α β:Type} (a:α) (S:Sto) (f:α→Sto→Res β):Res.bind (.ok a S) f=f a S:=rfl
@[simp] theorem bind_exc {α β:Type} (e:XV) (S:Sto) (f:α→Sto→Res β):Res.bind (.exc e S) f=.exc e S:=rfl
@[simp] theorem bind_stuck {α β:Type} (f:α→Sto→Res β):Res.bind (.stuck:Res α) f=.stuck:=rfl
@[simp] theorem dp {α β:Type} (a:α) (S:Sto) (f:α→Sto→Res β):Res.bindS (.ok a S) f=f a S:=rfl
@[simp] theorem bindS_exc {α β:Type} (e:XV) (S:Sto) (f:α→Sto→Res β):Res.bindS (.exc e S) f=.stuck:=rfl
@[simp] theorem s5 {α β:Type} (f:α→Sto→Res β):Res.bindS (.stuck:Res α) f=.stuck:=rfl
@[simp] theorem rs_ok {α:Type} (env:En) (a:α) (S:Sto) (k:α→Sto→RS):Res.rs env (.ok a S) k=k a S:=rfl
@[simp] theorem rs_exc {α:Type} (env:En) (e:XV) (S:Sto) (k:α→Sto→RS):Res.rs env (.exc e S) k=.exc e env S:=rfl
@[simp] theorem rs_stuck {α:Type} (env:En) (k:α→Sto→RS):Res.rs env (.stuck:Res α) k=.stuck:=rfl
@[simp] theorem then_next (e:En) (S:Sto) (k:MS):RS.andThen (.next e S) k=k e S:=rfl
@[simp] theorem then_brk (e:En) (S:Sto) (k:MS):RS.andThen (.brk e S) k=.brk e S:=rfl
@[simp] theorem then_cont (e:En) (S:Sto) (k:MS):RS.andThen (.cont e S) k=.cont e S:=rfl
@[simp] theorem then_ret (d:D) (S:Sto) (k:MS):RS.andThen (.ret d S) k=.ret d S:=rfl
@[simp] theorem then_exc (x:XV) (e:En) (S:Sto) (k:MS):RS.andThen (.exc x e S) k=.exc x e S:=rfl
@[simp] theorem then_stuck (k:MS):RS.andThen .stuck k=.stuck:=rfl
@[simp] theorem ofO_some {α:Type} (S:Sto) (a:α):ofO S (some a)=.ok a S:=rfl
@[simp] theorem ofO_none {α:Type} (S:Sto):ofO S (none:Option α)=.stuck:=rfl
@[simp] theorem ofG_some (p:En × Sto):ofG (some p)=.next p.1 p.2:=rfl
@[simp] theorem ofG_none:ofG none=.stuck:=rfl
@[simp] theorem vt_none  : vt (.none)=.none:=rfl
@[simp] theorem view0_none (S:Sto)  : view0 S (.none)=.none:=rfl
@[simp] theorem view_none (S:Sto)  : view S (.none)=.none:=rfl
@[simp] theorem vt_bool (b:Bool):vt (.bool b)=.bool b:=rfl
@[simp] theorem view0_bool (S:Sto) (b:Bool):view0 S (.bool b)=.bool b:=rfl
@[simp] theorem view_bool (S:Sto) (b:Bool):view S (.bool b)=.bool b:=rfl
@[simp] theorem vt_int (b:Int):vt (.int b)=.int b:=rfl
@[simp] theorem view0_int (S:Sto) (b:Int):view0 S (.int b)=.int b:=rfl
@[simp] theorem view_int (S:Sto) (b:Int):view S (.int b)=.int b:=rfl
@[simp] theorem vt_str (b:Str):vt (.str b)=.str b:=rfl
@[simp] theorem view0_str (S:Sto) (b:Str):view0 S (.str b)=.str b:=rfl
@[simp] theorem view_str (S:Sto) (b:Str):view S (.str b)=.str b:=rfl
@[simp] theorem vt_ty (b:String):vt (.ty b)=.ty b:=rfl
@[simp] theorem view0_ty (S:Sto) (b:String):view0 S (.ty b)=.ty b:=rfl
@[simp] theorem view_ty (S:Sto) (b:String):view S (.ty b)=.ty b:=rfl
@[simp] theorem vt_tup (b:List D):vt (.tup b)=.tup b:=rfl
@[simp] theorem view0_tup (S:Sto) (b:List D):view0 S (.tup b)=.tup b:=rfl
@[simp] theorem view_tup (S:Sto) (b:List D):view S (.tup b)=.tup b:=rfl
@[simp] theorem vt_lst (b:List D):vt (.lst b)=.lst b:=rfl
@[simp] theorem view0_lst (S:Sto) (b:List D):view0 S (.lst b)=.lst b:=rfl
@[simp] theorem view_lst (S:Sto) (b:List D):view S (.lst b)=.lst b:=rfl
@[simp] theorem vt_ro (b:List D):vt (.ro b)=.ro b:=rfl
@[simp] theorem view0_ro (S:Sto) (b:List D):view0 S (.ro b)=.ro b:=rfl
@[simp] theorem view_ro (S:Sto) (b:List D):view S (.ro b)=.ro b:=rfl
@[simp] theorem vt_glo (b:Str):vt (.glo b)=.glo b:=rfl
@[simp] theorem view0_glo (S:Sto) (b:Str):view0 S (.glo b)=.glo b:=rfl
@[simp] theorem view_glo (S:Sto) (b:Str):view S (.glo b)=.glo b:=rfl
@[simp] theorem vt_adr (b:Addr):vt (.adr b)=.adr b:=rfl
@[simp] theorem view0_adr (S:Sto) (b:Addr):view0 S (.adr b)=.adr b:=rfl
@[simp] theorem view_adr (S:Sto) (b:Addr):view S (.adr b)=.adr b:=rfl
@[simp] theorem vt_exn (a b:Addr) (ns:List Str) (xs:List D):vt (.exn a b ns xs)=.exn a b ns xs:=rfl
@[simp] theorem view0_exn (S:Sto) (a b:Addr) (ns:List Str) (xs:List D):view0 S (.exn a b ns xs)=.exn a b ns xs:=rfl
@[simp] theorem view_exn (S:Sto) (a b:Addr) (ns:List Str) (xs:List D):view S (.exn a b ns xs)=.exn a b ns xs:=rfl
@[simp] theorem vt_tpn (b:List D):vt (.tpn b)=.tup b:=rfl
@[simp] theorem vt_loc (l:Nat):vt (.loc l)=.loc l:=rfl
@[simp] theorem view0_tpn (S:Sto) (b:List D):view0 S (.tpn b)=.tpn b:=rfl
@[simp] theorem view_tpn (S:Sto) (b:List D):view S (.tpn b)=.tup b:=rfl
@[simp] theorem view0_loc (S:Sto) (l:Nat):view0 S (.loc l)=match S[l]? with
  | some (.lst xs)=>.lst xs
  | _=>.loc l:=rfl
@[simp] theorem view_loc (S:Sto) (l:Nat):view S (.loc l)=vt (match S[l]? with
  | some (.lst xs)=>.lst xs
  | _=>.loc l):=rfl
@[simp] theorem eBin_at (f:Sto→D→D→Option D) (ma mb:ME) (env:En) (S:Sto):aL f ma mb env S=(ma env S).bind fun a S=>(mb env S).bind fun b S=>ofO S (f S a b):=rfl
@[simp] theorem tOf_at (m:ME) (env:En) (S:Sto):tOf m env S=(m env S).bind fun d S=>match d with
  | .bool b=>.ok b S
  | _=>.stuck:=rfl
@[simp] theorem pNo_at (x0:En) (S:Sto):pNo  x0 S=.ok none S:=rfl
@[simp] theorem pSome_at (m:ME) (env:En) (S:Sto):g9 m env S=(m env S).bind fun d S=>match d with
  | .int i=>.ok (some i) S
  | _=>.stuck:=rfl
@[simp] theorem eCut_at (m:ME) (ml mh:MP) (env:En) (S:Sto):lO m ml mh env S=(m env S).bind fun d S=>(ml env S).bind fun lo S=>(mh env S).bind fun hi S=>ofO S (jP (view0 S d) lo hi):=rfl
@[simp] theorem eC_at (d:D) (x0:En) (S:Sto):eC d x0 S=.ok d S:=rfl
@[simp] theorem eV_at (i:Nat) (env:En) (S:Sto):eV i env S=match env[i]? with
  | some (some d)=>.ok d S
  | _=>.stuck:=rfl
@[simp] theorem tTru_at (m:ME) (env:En) (S:Sto):dO m env S=(m env S).bind fun d S=>ofO S (dN S d):=rfl
@[simp] theorem tAndM_at (ma mb:MT) (env:En) (S:Sto):nY ma mb env S=(ma env S).bind fun c S=>if c=true then mb env S else .ok false S:=rfl
@[simp] theorem tOrM_at (ma mb:MT) (env:En) (S:Sto):dj ma mb env S=(ma env S).bind fun c S=>if c=true then .ok true S else mb env S:=rfl
@[simp] theorem tNotM_at (ma:MT) (env:En) (S:Sto):cK ma env S=(ma env S).bind fun c S=>.ok (!c) S:=rfl
@[simp] theorem eAnd_at (ma mb:ME) (env:En) (S:Sto):gj ma mb env S=(ma env S).bind fun d S=>(ofO S (dN S d)).bind fun c S=>if c=true then mb env S else .ok d S:=rfl
@[simp] theorem eOr_at (ma mb:ME) (env:En) (S:Sto):eOr ma mb env S=(ma env S).bind fun d S=>(ofO S (dN S d)).bind fun c S=>if c=true then .ok d S else mb env S:=rfl
@[simp] theorem eNot_at (ma:ME) (env:En) (S:Sto):eNot ma env S=(ma env S).bind fun d S=>(ofO S (dN S d)).bind fun c S=>.ok (.bool (!c)) S:=rfl
@[simp] theorem eIf_at (tc:MT) (ma mb:ME) (env:En) (S:Sto):eIf tc ma mb env S=(tc env S).bind fun c S=>if c=true then ma env S else mb env S:=rfl
@[simp] theorem eNeg_at (ma:ME) (env:En) (S:Sto):eNeg ma env S=(ma env S).bind fun d S=>match d with
  | .int i=>.ok (.int (-i)) S
  | _=>.stuck:=rfl
@[simp] theorem eChain_at (f g:Sto→D→D→Option D) (ma mb mc:ME) (env:En) (S:Sto):eO f g ma mb mc env S=(ma env S).bind fun a S=>(mb env S).bind fun b S=>match f S a b with
  | some (.bool true)=>(mc env S).bind fun c S=>ofO S (g S b c)
  | some (.bool false)=>.ok (.bool false) S
  | _=>.stuck:=rfl
@[simp] theorem aNil_at (x0:En) (S:Sto):aF  x0 S=.ok [] S:=rfl
@[simp] theorem aCons_at (m:ME) (r:MA) (env:En) (S:Sto):aB m r env S=(m env S).bind fun d S=>(r env S).bind fun ds S=>.ok (d::ds) S:=rfl
@[simp] theorem eTup_at (r:MA) (env:En) (S:Sto):cH r env S=(r env S).bind fun ds S=>if ds.length≤1000000 then .ok (.tup ds) S else .stuck:=rfl
@[simp] theorem eLst_at (r:MA) (env:En) (S:Sto):bv r env S=(r env S).bind fun ds S=>if ds.length≤1000000 then .ok (.lst ds) S else .stuck:=rfl
@[simp] theorem eLstM_at (r:MA) (env:En) (S:Sto):hB r env S=(r env S).bind fun ds S=>if ds.length≤1000000 then .ok (.loc S.length) (S++[.lst ds]) else .stuck:=rfl
@[simp] theorem eDct_at (t:Bool) (x0:En) (S:Sto):eDct t x0 S=.ok (.loc S.length) (S++[.dct t []]):=rfl
@[simp] theorem sNil_at (env:En) (S:Sto):bS  env S=.next env S:=rfl
@[simp] theorem sSeq_at (a b:MS) (env:En) (S:Sto):aP a b env S=(a env S).andThen b:=rfl
@[simp] theorem sExpr_at (m:ME) (env:En) (S:Sto):gD m env S=(m env S).rs env fun _ S=>.next env S:=rfl
@[simp] theorem sRet_at (m:ME) (env:En) (S:Sto):aw m env S=(m env S).rs env fun d S=>.ret d S:=rfl
@[simp] theorem sRetN_at (x0:En) (S:Sto):sRetN  x0 S=.ret .none S:=rfl
@[simp] theorem sBreak_at (env:En) (S:Sto):pU  env S=.brk env S:=rfl
@[simp] theorem sCont_at (env:En) (S:Sto):sCont  env S=.cont env S:=rfl
@[simp] theorem sStuck_at (x0:En) (x1:Sto):eP  x0 x1=.stuck:=rfl
@[simp] theorem eStuck_at (x0:En) (x1:Sto):pV  x0 x1=.stuck:=rfl
@[simp] theorem sIf_at (tc:MT) (a b:MS) (env:En) (S:Sto):sIf tc a b env S=(tc env S).rs env fun c S=>if c=true then a env S else b env S:=rfl
@[simp] theorem gV_at (i:Nat) (d:D) (env:En) (S:Sto):gV i d env S=some (env.set i (some d),S):=rfl
@[simp] theorem gsNil_at (ds:List D) (env:En) (S:Sto):dS  ds env S=match ds with
  | []=>some (env,S)
  | _=>none:=rfl
@[simp] theorem gsCons_at (g:MG) (gs:MGs) (ds:List D) (env:En) (S:Sto):a9 g gs ds env S=match ds with
  | d::ds=>(g d env S).bind fun p=>gs ds p.1 p.2
  | []=>none:=rfl
@[simp] theorem gTupD_at (n:Nat) (gs:MGs) (d:D) (env:En) (S:Sto):dG n gs d env S=match vt d with
  | .tup ds=>if ds.length=n then gs ds env S else none
  | _=>none:=rfl
@[simp] theorem sAsg_at (m:ME) (g:MG) (env:En) (S:Sto):lR m g env S=(m env S).rs env fun d S=>ofG (g d env S):=rfl
@[simp] theorem sPar_at (i j:Nat) (r:MA) (env:En) (S:Sto):sPar i j r env S=(r env S).rs env fun ds S=>match ds with
  | [a,b]=>.next ((env.set i (some a)).set j (some b)) S
  | _=>.stuck:=rfl
@[simp] theorem sSet_at (i:Nat) (m:ME) (env:En) (S:Sto):al i m env S=(m env S).rs env fun d S=>.next (env.set i (some d)) S:=rfl
@[simp] theorem sAug_at (i:Nat) (f:Sto→D→D→Option D) (m:ME) (env:En) (S:Sto):sAug i f m env S=match env[i]? with
  | some (some a)=>(m env S).rs env fun b S=>match f S a b with
    | some d=>.next (env.set i (some d)) S
    | none=>.stuck
  | _=>.stuck:=rfl
@[simp] theorem iAny_at (m:ME) (env:En) (S:Sto):fV m env S=(m env S).bind fun d S=>ofO S (bj S d):=rfl
@[simp] theorem iRng1D_at (r:MA) (env:En) (S:Sto):cy r env S=(r env S).bind fun ds S=>match ds with
  | [.int j]=>if ay j then .ok (.items (gF 0 j.toNat)) S else .stuck
  | _=>.stuck:=rfl
@[simp] theorem iRng2D_at (r:MA) (env:En) (S:Sto):pY r env S=(r env S).bind fun ds S=>match ds with
  | [.int i,.int j]=>if ay i&&ay j then .ok (.items (gF i (j - i).toNat)) S else .stuck
  | _=>.stuck:=rfl
@[simp] theorem oh (r:MA) (env:En) (S:Sto):eR r env S=(r env S).bind fun ds S=>match ds.map vt with
  | [.tup xs]=>.ok (.items (bp 0 xs)) S
  | [.lst xs]=>.ok (.items (bp 0 xs)) S
  | [.loc l]=>match S[l]? with
    | some (.lst _)=>.ok (.liveE l) S
    | _=>.stuck
  | _=>.stuck:=rfl
@[simp] theorem iZipD_at (r:MA) (env:En) (S:Sto):iZipD r env S=(r env S).bind fun ds S=>match ds.map vt with
  | [.tup xs,.tup ys]=>.ok (.items (cB xs ys)) S
  | [.lst xs,.lst ys]=>.ok (.items (cB xs ys)) S
  | _=>.stuck:=rfl
@[simp] theorem kl (mi:MI) (g:MG) (b:MS) (env:En) (S:Sto):fW mi g b env S=(mi env S).rs env fun it S=>match it with
  | .items ds=>cp g b ds env S
  | .live l=>hO g b l (eu S l+1) 0 env S
  | .liveE l=>dm g b l (eu S l+1) 0 env S:=rfl
@[simp] theorem compR_at (mi:MI) (g:MG) (tc:MT) (m:ME) (vs:List Nat) (env:En) (S:Sto):fX mi g tc m vs env S=(mi env S).bind fun it S=>match it with
  | .items ds=>cW g tc m (bR env vs) ds [] S
  | .live l=>ir g tc m (bR env vs) l (eu S l+1) 0 [] S
  | .liveE l=>iu g tc m (bR env vs) l (eu S l+1) 0 [] S:=rfl
@[simp] theorem eComp_at (mi:MI) (g:MG) (tc:MT) (m:ME) (vs:List Nat) (env:En) (S:Sto):cC mi g tc m vs env S=(fX mi g tc m vs env S).bind fun ds S=>.ok (.lst ds) S:=rfl
@[simp] theorem eCompM_at (mi:MI) (g:MG) (tc:MT) (m:ME) (vs:List Nat) (env:En) (S:Sto):pZ mi g tc m vs env S=(fX mi g tc m vs env S).bind fun ds S=>.ok (.loc S.length) (S++[.lst ds]):=rfl
@[simp] theorem tYesM_at (x0:En) (S:Sto):b9  x0 S=.ok true S:=rfl
@[simp] theorem chk_at (n:Nat) (m:MF) (ds:List D) (S:Sto):chk n m ds S=if ds.length=n then m ds S else .stuck:=rfl
@[simp] theorem p0 (n:Nat) (m:MS) (ds:List D) (S:Sto):bJ n m ds S=match m (ds.map some++List.replicate n none) S with
  | .next _ S=>.ok .none S
  | .ret d S=>.ok d S
  | .exc e _ S=>.exc e S
  | _=>.stuck:=rfl
@[simp] theorem eCall_at (n:Nat) (m:MF) (r:MA) (env:En) (S:Sto):aO n m r env S=(r env S).bind fun ds S=>chk n m ds S:=rfl
@[simp] theorem eMeth_at (cn nm:Str) (n:Nat) (m:MF) (ma:ME) (r:MA) (env:En) (S:Sto):eMeth cn nm n m ma r env S=(ma env S).bind fun d S=>match d with
  | .loc l=>match S[l]? with
    | some (.ins C fs)=>if C=cn∧(fs.map (·.1)).contains nm=false then (r env S).bind fun ds S=>chk n m (.loc l::ds) S else .stuck
    | _=>.stuck
  | _=>.stuck:=rfl
@[simp] theorem eMake_at (cn:Str) (n:Nat) (mi:MF) (r:MA) (env:En) (S:Sto):eMake cn n mi r env S=(r env S).bind fun ds S=>(chk n mi (.loc S.length::ds) (S++[.ins cn []])).bind fun d S'=>match d with
  | .none=>.ok (.loc S.length) S'
  | _=>.stuck:=rfl
@[simp] theorem eFld_at (cn f:Str) (ma:ME) (env:En) (S:Sto):eFld cn f ma env S=(ma env S).bind fun d S=>match d with
  | .loc l=>match S[l]? with
    | some (.ins C fs)=>if C=cn then ofO S (fs.lookup f) else .stuck
    | _=>.stuck
  | _=>.stuck:=rfl
@[simp] theorem sFldM_at (cn f:Str) (ma mv:ME) (env:En) (S:Sto):sFldM cn f ma mv env S=(mv env S).rs env fun d S=>(ma env S).rs env fun o S=>match o with
  | .loc l=>match S[l]? with
    | some (.ins C fs)=>if C=cn∧fs.length<1000 then .next env (S.set l (.ins C (kU f d fs))) else .stuck
    | _=>.stuck
  | _=>.stuck:=rfl
@[simp] theorem eB_at (f:BF) (r:MA) (env:En) (S:Sto):eB f r env S=(r env S).bind fun ds S=>ofO S (f S ds):=rfl
@[simp] theorem eM_at (ok:Sto→D→Bool) (f:BM) (ma:ME) (r:MA) (env:En) (S:Sto):eM ok f ma r env S=(ma env S).bind fun d S=>if ok S d then (r env S).bind fun ds S=>match f S d ds with
  | some p=>.ok p.1 p.2
  | none=>.stuck else .stuck:=rfl
@[simp] theorem gSubM_at (mo mi:ME) (v:D) (env:En) (S:Sto):iy mo mi v env S=match mo env S with
  | .ok o S=>match mi env S with
    | .ok i S=>(cz S o i v).map fun S=>(env,S)
    | _=>none
  | _=>none:=rfl
@[simp] theorem eRev_at (m:ME) (env:En) (S:Sto):eRev m env S=(m env S).bind fun d S=>match view S d with
  | .lst xs=>.ok (.lst xs.reverse) S
  | _=>.stuck:=rfl
@[simp] theorem eDictP_at (r:MA) (env:En) (S:Sto):ph r env S=(r env S).bind fun ds S=>match ds with
  | [.tpn xs]=>match fP xs with
    | some ps=>if xs.length≤1000000 then .ok (.loc S.length) (S++[.dct false (bn [] ps)]) else .stuck
    | none=>.stuck
  | _=>.stuck:=rfl
@[simp] theorem eDComp_at (mi:MI) (g:MG) (tc:MT) (mk mv:ME) (vs:List Nat) (env:En) (S:Sto):pi mi g tc mk mv vs env S=(mi env S).bind fun it S=>match it with
  | .items ds=>(kd g tc mk mv (bR env vs) ds [] S).bind kD
  | .live _=>.stuck
  | .liveE _=>.stuck:=rfl
@[simp] theorem sRaise_at (C:Str) (env:En) (S:Sto):pj C env S=.exc ⟨C,[]⟩ env S:=rfl
@[simp] theorem eKind_at (hd:Hdr) (m:ME) (env:En) (S:Sto):hZ hd m env S=jm hd (m env S):=rfl
@[simp] theorem kD_at (kvs:List (D × D)) (S:Sto):kD kvs S=.ok (.loc S.length) (S++[.dct false kvs]):=rfl
@[simp] theorem lv_at (f:D→D→Option D) (S:Sto) (a b:D):lv f S a b=f (view S a) (view S b):=rfl
@[simp] theorem lv0_at (f:D→D→Option D) (S:Sto) (a b:D):lv0 f S a b=f (view0 S a) (view0 S b):=rfl
@[simp] theorem oI_at (g:Int→Int→Int) (i j:Int):oI g (.int i) (.int j)=some (.int (g i j)):=rfl
@[simp] theorem oIC_at (C:Int→Int→Bool) (g:Int→Int→Int) (i j:Int):oIC C g (.int i) (.int j)=if C i j then some (.int (g i j)) else none:=rfl
@[simp] theorem oIB_at (g:Int→Int→Bool) (i j:Int):oIB g (.int i) (.int j)=some (.bool (g i j)):=rfl
@[simp] theorem dAdd_int (i j:Int):bO (.int i) (.int j)=some (.int (i+j)):=rfl
@[simp] theorem dAdd_str (x y:Str):bO (.str x) (.str y)=if x.length+y.length≤1000000 then some (.str (x++y)) else none:=rfl
@[simp] theorem dAdd_tup (xs ys:List D):bO (.tup xs) (.tup ys)=if xs.length+ys.length≤1000000 then some (.tup (xs++ys)) else none:=rfl
@[simp] theorem gN (xs ys:List D):bO (.lst xs) (.lst ys)=if xs.length+ys.length≤1000000 then some (.lst (xs++ys)) else none:=rfl
@[simp] theorem ah (a b:D):dEq a b=if dok 60 a&&dok 60 b then some (.bool (peq a b)) else none:=rfl
@[simp] theorem ap (a b:D):dNe a b=if dok 60 a&&dok 60 b then some (.bool (!peq a b)) else none:=rfl
@[simp] theorem fIn_at (S:Sto) (a b:D):fIn S a b=(dIn S a b).map .bool:=rfl
@[simp] theorem fNotIn_at (S:Sto) (a b:D):fk S a b=(dIn S a b).map fun c=>.bool (!c):=rfl
@[simp] theorem dIsN_at (a:D):dIsN a .none=some (.bool (isN a)):=rfl
@[simp] theorem dIsntN_at (a:D):dIsntN a .none=some (.bool (!isN a)):=rfl
end DL
namespace DL
open PySem PySem.Spec PyProof.Rows L2 LamX
theorem r6 {fs:List (Str × D)} {dd:Option Addr} (h:fs≠[]) (k:DdK fs dd):∃d,dd=some d:=by
  rcases k with ⟨k,_⟩|⟨_,k⟩
  · exact absurd k h
  · exact k
theorem p9 {fs:List (Str × D)} {dd:Option Addr} {a:Str} (h:fs.map (·.1)=[a]) (k:DdK fs dd):∃x d,fs=[(a,x)]∧dd=some d:=by
  match fs,h with
  | [(b,x)],h=>
    obtain rfl:b=a:=by simpa using h
    obtain ⟨d,rfl⟩:=r6 (by simp) k
    exact ⟨x,d,rfl,rfl⟩
theorem aX {a b:MS} {env env':En} {S S':Sto} {r:RS} (h:a env S=.next env' S') (h2:b env' S'=r):aP a b env S=r:=by
  unfold aP; rw[h]; exact h2
theorem nk {ea:Addr} {dd:Option Addr} {fs:List (Str × D)} {kt:D→Option Bool} {c:D} {b:Bool} {env:En} {S:Sto} (h:env[1]?=some (some (exD ea fs dd))) (hk:kt c=some b):eB (cD ea dd kt) (aB (eV 1) (aB (eC c) aF)) env S=.ok (.bool b) S:=by
  cases dd<;>simp[eB,aB,eV,h,cD,hk,exD]
theorem qA {ea:Addr} {dd:Option Addr} {fs0:List (Str × D)} {kt:D→Option Bool} {c:D} {b:Bool} {env:En} {S:Sto} {r:MA} {ds:List D} (h:env[1]?=some (some (exD ea fs0 dd))) (hk:kt c=some b) (hr:r env S=.ok ds S):aB (eB (cD ea dd kt) (aB (eV 1) (aB (eC c) aF))) r env S=.ok (.bool b::ds) S:=by
  show Res.bind (eB (cD ea dd kt) (aB (eV 1) (aB (eC c) aF)) env S) _=_
  rw[nk h hk]
  show Res.bind (r env S) _=_
  rw[hr]
  rfl
theorem aj {C y:Str} {ea:Addr} {dd:Option Addr} {fs0:List (Str × D)} {env:En} {S:Sto} {r:MA} {ds:List D} (h:env[1]?=some (some (exD ea fs0 dd))) (hk:kinds.contains y=true) (hr:r env S=.ok ds S):aB (eB (cD ea dd (ktK C)) (aB (eV 1) (aB (eC (.glo y)) aF))) r env S=.ok (.bool (decide (y=C))::ds) S:=
  qA h (by unfold ktK; simp only[hk,if_true]) hr
theorem nl {i:Nat} {r:MA} {env:En} {S:Sto} {ds:List D} (h:r env S=.ok ds S) (hl:ds.length≤1000000):al i (bv r) env S=.next (env.set i (some (.lst ds))) S:=by
  simp[al,bv,h,hl,Res.rs]
theorem cE {i j:Nat} {r:MA} {env:En} {S:Sto} {ds xs:List D} (hj:env[j]?=some (some (.lst xs))) (h:r env S=.ok ds S) (hl:ds.length≤1000000) (hl2:xs.length+ds.length≤1000000):al i (aL (lv0 bO) (eV j) (bv r)) env S=.next (env.set i (some (.lst (xs++ds)))) S:=by
  simp[al,aL,eV,bv,h,hl,hj,hl2,Res.rs]
theorem set_c {i:Nat} {d:D} {env:En} {S:Sto}:al i (eC d) env S=.next (env.set i (some d)) S:=rfl
theorem iT {i j:Nat} {x y:Str} {env:En} {S:Sto} (hj:env[j]?=some (some (.str x))) (hl:decide (x.length+y.length≤1000000)=true):al i (aL (lv0 bO) (eV j) (eC (.str y))) env S=.next (env.set i (some (.str (x++y)))) S:=by
  have hl:=of_decide_eq_true hl
  simp[al,aL,eV,hj,hl,Res.rs]
theorem lc {ea:Addr} {dd:Option Addr} {fs0:List (Str × D)} {kt:D→Option Bool} {c:D} {env:En} {S:Sto} (h:env[1]?=some (some (exD ea fs0 dd))) (hk:kt c=some true):cK (dO (eB (cD ea dd kt) (aB (eV 1) (aB (eC c) aF)))) env S=.ok false S:=by
  unfold cK dO
  rw[nk h hk]
  simp[dN]
theorem qB {ta tb:MT} {env:En} {S:Sto} (h1:ta env S=.ok false S) (h2:tb env S=.ok false S):dj ta tb env S=.ok false S:=by
  simp[dj,h1,h2]
theorem qC {i:Nat} {m:ME} {d:D} {env:En} {S:Sto} (h:m env S=.ok d S):al i m env S=.next (env.set i (some d)) S:=by
  unfold al; rw[h]; rfl
theorem qD {ea d:Addr} {ok:Bool} {f:Str} {ns:List Str} {ds:List D} {x:D} {env:En} {S:Sto} (h:env[1]?=some (some (.exn ea d ns ds))) (l:(ns.zip ds).lookup f=some x) (o:ok=true):eXf ea (some d) ok f (eV 1) env S=.ok x S:=by
  simp[eXf,eV,h,l,o]
theorem r7 {t:MT} {m:MS} {ea d:Addr} {o1:Bool} {f1:Str} {ns:List Str} {ds:List D} {w x:D} {env:En} {S:Sto} (ht:t env S=.ok true S) (h4:env[4]?=some (some w)) (h:env[1]?=some (some (.exn ea d ns ds))) (l1:(ns.zip ds).lookup f1=some x) (p1:o1=true) :
    aP (sIf t (aw (cH (aB (eV 4) (aB (eXf ea (some d) o1 f1 (eV 1)) aF)))) bS) m env S=.ret (.tup [w,x]) S:=by
  simp[aP,sIf,ht,Res.rs,aw,cH,aB,eV,h4,qD h l1 p1,aF]
theorem ld {t:MT} {a:MS} {env:En} {S:Sto} (h:t env S=.ok false S):sIf t a bS env S=.next env S:=by
  simp[sIf,h,Res.rs]
end DL
namespace DL
open PySem PySem.Spec PyProof.Rows L2 LamX
end DL
namespace DL
open PySem PySem.Spec PyProof.Rows L2 LamX PySem.W
end DL
namespace DL
open PySem PySem.Spec PyProof.Rows L2 LamX PySem.W
end DL
namespace DL
open PySem PySem.Spec PyProof.Rows L2 LamX PySem.W
/-- the keys,one behind the other -/
def qE (mk:ME) (i:Nat) (env:En):List D→List D→Sto→Res (List D)
  | [],acc,S=>.ok acc S
  | d::ds,acc,S=>(mk (env.set i (some d)) S).bindS fun k S=>qE mk i env ds (acc++[k]) S
def qF (xs ks:List D):List D:=((xs.zip ks).mergeSort fun a b=>dle a.2 b.2).map (·.1)
def qG (m:ME) (i:Nat) (mk:ME):ME:=fun env S=>(m env S).bind fun d S=>match mQ S d with
  | some xs=>(qE mk i env xs [] S).bindS fun ks S=>if pf ks=true∧xs.length≤1000000 then .ok (.loc S.length) (S++[.lst (qF xs ks)]) else .stuck
  | none=>.stuck
end DL
namespace DL
open PySem PySem.Spec PyProof.Rows L2 LamX
section
variable {K:PySem.W.Frag} {mg:Str→Option Value} {μ μ':Mu} {H H':Hp} {S S':Sto} {env:En} {σ:L2.St} {l:Nat} {t:Bool} {kvs:List (D × D)} {a:Addr} {u:HO}
theorem RelS.dict (rs:RelS K mg μ H S) (e:S[l]?=some (.dct t kvs)):∃a u,μ.l[l]?=some a∧H a=some u∧Mut (some u)∧NF H a∧(∀ps,u≠.tbl ps)∧RepO K mg μ H (.dct t kvs) a:=by
  obtain ⟨a,h1,h2⟩:=rs.at_ l _ e
  cases t with
  | false=>
    obtain ⟨vs,ks,⟨q,hk⟩,rr⟩:=id h2
    exact ⟨a,_,h1,q,trivial,.of q,fun _ z=>(nomatch z),h2⟩
  | true=>
    obtain ⟨vs,ks,⟨q,hk⟩,rr⟩:=id h2
    exact ⟨a,_,h1,q,trivial,.of q,fun _ z=>(nomatch z),h2⟩
end
/-- the dict that ml tells is locked while mb runs -/
def eLock (ml mb:ME):ME:=fun env S=>match ml env S with
  | .ok (.loc l) _=>match S[l]? with
    | some (.dct t kvs)=>match mb env (S.set l (.fdc t kvs)) with
      | .ok d S'=>.ok d (S'.set l (.dct t kvs))
      | _=>.stuck
    | _=>.stuck
  | _=>.stuck
def sLock (ml:ME) (mb:MS):MS:=fun env S=>match ml env S with
  | .ok (.loc l) _=>match S[l]? with
    | some (.dct t kvs)=>match mb env (S.set l (.fdc t kvs)) with
      | .next e S'=>.next e (S'.set l (.dct t kvs))
      | .brk e S'=>.brk e (S'.set l (.dct t kvs))
      | .cont e S'=>.cont e (S'.set l (.dct t kvs))
      | .ret d S'=>.ret d (S'.set l (.dct t kvs))
      | _=>.stuck
    | _=>.stuck
  | _=>.stuck
end DL
namespace DL
open PySem PySem.Spec PyProof.Rows L2
theorem WalkOk.stp {K:PySem.W.Frag} {mg:Str→Option Value} {μ μ':Mu} {H H':Hp} {it:ItD} {J:It} (s:Stp μ H μ' H') (h:WalkOk K mg μ H it J):WalkOk K mg μ' H' it J:=by
  cases it with
  | items ds=>
    have h:dH K mg μ H ds J:=h
    exact (⟨fun i μ2 H2 hi t=>h.goes i μ2 H2 hi (s.trans t),fun μ2 H2 t=>h.stops μ2 H2 (s.trans t),fun i d μ2 H2 S x H3 hd t rs y=>h.yields i d μ2 H2 S x H3 hd (s.trans t) rs y⟩:dH K mg μ' H' ds J)
  | live l=>
    obtain ⟨a,ha,e⟩:=h
    exact ⟨a,s.get ha,e⟩
  | liveE l=>
    obtain ⟨a,ha,e⟩:=h
    exact ⟨a,s.get ha,e⟩
def fStr (_:Sto) (ds:List D):Option D:=match ds with
  | [.int i]=>if i.natAbs.log2<1920 then some (.str (toString i)) else none
  | [.str z]=>some (.str z)
  | _=>none
theorem c_str {X:Cx}:CallR X (.type "str") (rB X.K X.mg fStr):=fun pins s σ H xs us Q I rx w=>by
  obtain ⟨μ,S,ds,d,rs,ra,e,q⟩:=w
  unfold fStr at e
  split at e
  · split at e
    · cases e
      obtain ⟨v,rfl,r1⟩:=bC ra
      unfold Rep at r1; subst r1
      exact call_str_int pins s σ H _ us Q I rx ⟨_,rfl,by assumption,q H _ .rfl (bL _)⟩
    · cases e
  · cases e
    obtain ⟨v,rfl,r1⟩:=bC ra
    unfold Rep at r1; subst r1
    exact SkE.call_str_str pins s σ H _ us Q I rx ⟨_,rfl,q H _ .rfl (bL _)⟩
  · cases e
end DL
namespace DL
open PySem PySem.Spec PyProof.Rows L2 LamX
def isD (S:Sto) (d:D):Bool:=match d with
  | .loc l=>(bW S[l]?).isSome
  | _=>false
def iB (S:Sto) (d k z:D):Option D:=match d with
  | .loc l=>match bW S[l]? with
    | some (t,kvs)=>if b8 t k=true then some ((dR t kvs k).getD z) else none
    | none=>none
  | _=>none
def eGet (md mk mz:ME):ME:=fun env S=>(md env S).bind fun d S=>if isD S d=true then (mk env S).bind fun k S=>(mz env S).bind fun z S=>ofO S (iB S d k z) else .stuck
section
variable {K:PySem.W.Frag} {mg:Str→Option Value} {μ:Mu} {H:Hp} {S:Sto}
theorem isD_ok (rs:RelS K mg μ H S) {l:Nat} {a:Addr} (hμ:μ.l[l]?=some a) (h:(bW S[l]?).isSome=true):IsD H a:=by
  obtain ⟨⟨t,kvs⟩,e⟩:=Option.isSome_iff_exists.mp h
  rcases fj e with es|es
  · obtain ⟨a',h1,ro⟩:=rs.at_ l _ es
    rw[hμ] at h1; cases h1
    cases t with
    | false=>obtain ⟨vs,ks,⟨h2,_⟩,_⟩:=ro; exact .inl ⟨_,.of h2⟩
    | true=>obtain ⟨vs,ks,⟨h2,_⟩,_⟩:=ro; exact .inr ⟨_,.of h2⟩
  · obtain ⟨a',h1,ro⟩:=rs.at_ l _ es
    rw[hμ] at h1; cases h1
    cases t with
    | false=>obtain ⟨vs,ks,⟨⟨od,h2⟩,_⟩,_⟩:=ro; exact .inl ⟨_,.inr ⟨od,h2⟩⟩
    | true=>obtain ⟨vs,ks,⟨⟨od,h2⟩,_⟩,_⟩:=ro; exact .inr ⟨_,.inr ⟨od,h2⟩⟩
end
section
variable {X:Cx} {W:WX} {o e f:Expr} {apos cpos:Pos} {md mk mz:ME}
theorem sE_get (hu:X.A.units+1<cLine) (ho:PE X o (tE X W md)) (he:PE X e (tE X W mk)) (hf:PE X f (tE X W mz)) (m:M2 X o "get" apos e f cpos:=by exact ⟨rfl,rfl,rfl,rfl⟩):PE X (.Call (.Attribute o "get" apos) [e,f] [] cpos) (tE X W (eGet md mk mz)):=
  bf (pe_dget2 hu ho he hf m) fun σ H Q ⟨env,S,μ,rl,o⟩=>⟨env,S,μ,rl,(Out.bind o).mono fun x H1 ⟨μ1,S1,d,st,rs,rd,o1⟩=>by
    split at o1
    · rename_i hd
      unfold isD at hd
      split at hd
      · rename_i l
        unfold Rep at rd
        obtain ⟨a,rfl,hμ⟩:=rd
        refine ⟨a,rfl,isD_ok rs hμ hd,env,S1,μ1,⟨rl.env.step st,rs⟩,(Out.bind o1).mono fun y H2 ⟨μ2,S2,k,st2,rs2,rk,o2⟩=>?_⟩
        refine ⟨env,S2,μ2,⟨(rl.env.step st).step st2,rs2⟩,(Out.bind o2).mono fun z H3 ⟨μ3,S3,dz,st3,rs3,rz,o3⟩=>?_⟩
        cases eg:iB S3 (.loc l) k dz with
        | none=>rw[eg] at o3; exact o3.elim
        | some r=>
          rw[eg] at o3
          unfold iB at eg
          dsimp only at eg
          split at eg
          · rename_i t kvs es
            split at eg
            · rename_i hk
              cases eg
              obtain ⟨og,g1,g2⟩:=ik rs3 (st3.get (st2.get hμ)) es hk (Rep.step st3 _ _ rk)
              refine ⟨og,g1,?_⟩
              split at g2
              · rename_i dv ev
                obtain ⟨v,rfl,rv⟩:=g2
                exact o3 μ3 H3 v .refl rs3 (by rw[ev]; exact rv)
              · rename_i ev
                subst g2
                exact o3 μ3 H3 z .refl rs3 (by rw[ev]; exact rz)
            · cases eg
          · cases eg
      · cases hd
    · exact o1.elim⟩
end
def eSetd (md mk mz:ME):ME:=fun env S=>(md env S).bind fun d S=>if isD S d=true then (mk env S).bind fun k S=>(mz env S).bind fun z S=>match d with
  | .loc l=>match S[l]? with
    | some (.dct false kvs)=>if b8 false k=true∧kvs.length<1000000 then (match dR false kvs k with
      | some v=>.ok v S
      | none=>.ok z (S.set l (.dct false (kZ false kvs k z)))) else .stuck
    | _=>.stuck
  | _=>.stuck else .stuck
end DL
namespace DL
open PySem PySem.Spec PyProof.Rows L2 LamX
def qH (n:Nat) (d:D) (m:MF) (r:MA):ME:=fun env S=>(r env S).bind fun ds S=>chk n m (ds++[d]) S
def qI (n k:Nat) (m:MF) (r rk:MA):ME:=fun env S=>(r env S).bind fun ds S=>(rk env S).bind fun zs S=>if ds.length=k then chk n m (ds++zs) S else .stuck
def sPar3 (i j l:Nat) (r:MA):MS:=fun env S=>(r env S).rs env fun ds S=>match ds with
  | [a,b,c]=>.next (((env.set i (some a)).set j (some b)).set l (some c)) S
  | _=>.stuck
/-- xs+ys,a list that is changed later -/
def eCatM (ma mb:ME):ME:=fun env S=>(ma env S).bind fun a S=>(mb env S).bind fun b S=>match view0 S a,view0 S b with
  | .lst xs,.lst ys=>if xs.length+ys.length≤1000000 then .ok (.loc S.length) (S++[.lst (xs++ys)]) else .stuck
  | _,_=>.stuck
end DL
namespace DL
open PySem PySem.Spec PyProof.Rows L2 LamX
end DL
namespace DL
open PySem PySem.Spec PyProof.Rows L2 LamX
end DL
namespace DL
open PySem PySem.Spec PyProof.Rows L2 LamX
end DL
namespace DL
open PySem PySem.Spec PyProof.Rows L2 LamX
end DL
namespace DL
open PySem PySem.Spec PyProof.Rows L2 LamX
end DL
namespace DL
open PySem PySem.Spec PyProof.Rows L2 LamX
end DL
namespace DL
open PySem PySem.Spec PyProof.Rows L2 LamX
end DL
namespace DL
open PySem PySem.Spec PyProof.Rows L2 LamX
end DL
namespace DL
open PySem PySem.Spec PyProof.Rows L2
section
variable {X:Cx} {W:WX}
def dRep:D→D→Option D
  | .lst xs,.int k=>if 0≤k∧k≤1000∧xs.length*k.toNat≤1000000 then some (.lst (List.replicate k.toNat xs).flatten) else none
  | _,_=>none
@[simp] theorem dRep_at (xs:List D) (k:Int):dRep (.lst xs) (.int k)=if 0≤k∧k≤1000∧xs.length*k.toNat≤1000000 then some (.lst (List.replicate k.toNat xs).flatten) else none:=rfl
theorem RepAll.rep {K:PySem.W.Frag} {mg:Str→Option Value} {μ:Mu} {H:Hp} {ds:List D} {vs:List V} (h:RepAll K mg μ H ds vs):∀k:Nat,RepAll K mg μ H (List.replicate k ds).flatten (List.replicate k vs).flatten
  | 0=>.nil
  | k+1=>by
    rw[List.replicate_succ,List.replicate_succ,List.flatten_cons,List.flatten_cons]
    exact h.append (RepAll.rep h k)
theorem o_rep:OpR X (binaryOp .Mult) (rP X.K X.mg dRep):=fun pins s σ H x y v u Q I rx ry ⟨μ,S,a,b,d,rs,ra,rb,e,q⟩=>
  op_rep pins s σ H x y v u Q I rx ry (by
    have wa:=rs.view ra
    have wb:=rs.view rb
    unfold lv at e
    generalize view S a=va at e wa
    generalize view S b=vb at e wb
    unfold dRep at e
    split at e
    · rename_i xs k
      split at e
      · rename_i hk
        cases e
        obtain ⟨ad,vs,rfl,h1,h2⟩:=wa
        have hv:=wb.int
        subst hv
        exact ⟨ad,k,vs,rfl,rfl,h1,by omega,by omega,by rw[←h2.length]; exact bh hk.2.2,fun p hp=>q _ _ (.upd hp) (bw rs hp (h2.rep _))⟩
      · cases e
    · cases e)
end
end DL
namespace DL
open PySem PySem.Spec PyProof.Rows L2
end DL
namespace DL
open PySem PySem.Spec PyProof.Rows L2
end DL
namespace DL
open PySem PySem.Spec PyProof.Rows L2
/-- one turn: the items made so far,behind it; an exception goes on -/
def nq (g:MG) (m:ME) (w:En) (d:D) (acc:List D) (S:Sto):Res (List D):=match g d w S with
  | none=>.stuck
  | some p=>(m p.1 p.2).bind fun v S3=>if acc.length<1000000 then .ok (acc++[v]) S3 else .stuck
def gt (g:MG) (m:ME) (w:En):List D→List D→Sto→Res (List D)
  | [],acc,S=>.ok acc S
  | d::ds,acc,S=>(nq g m w d acc S).bind fun acc S=>gt g m w ds acc S
def mY (g:MG) (m:ME) (w:En) (l:Nat):Nat→Nat→List D→Sto→Res (List D)
  | 0,_,_,_=>.stuck
  | n+1,i,acc,S=>match S[l]? with
    | some (.lst xs)=>match xs[i]? with
      | none=>.ok acc S
      | some d=>(nq g m w d acc S).bind fun acc S=>mY g m w l n (i+1) acc S
    | _=>.stuck
def mZ (mi:MI) (g:MG) (m:ME) (vs:List Nat):MA:=fun env S=>(mi env S).bind fun it S=>match it with
  | .items ds=>gt g m (bR env vs) ds [] S
  | .live l=>mY g m (bR env vs) l (eu S l+1) 0 [] S
  | .liveE _=>.stuck
def eCompX (mi:MI) (g:MG) (m:ME) (vs:List Nat):ME:=fun env S=>(mZ mi g m vs env S).bind fun ds S=>.ok (.lst ds) S
end DL
namespace DL
open PySem PySem.Spec PyProof.Rows L2
/-- at A.m stands v -/
structure ClV (K:PySem.W.Frag) (A:Addr) (m:Str) (v:Value):Prop where
  rd:PySem.W.readsIn K A (.type "type")=true
  ga:PySem.W.specialIn K (.ref A) "__getattribute__"=some (some (.builtin "type.__getattribute__"))
  up:PySem.W.findCls K (.ref A) (.type "type") m=some (.val v)
theorem r8 {K:PySem.W.Frag} {A:Addr} {m:Str} {v:Value} (h:clVB K A m v=true):ClV K A m v:=by
  unfold clVB at h
  simp only[Bool.and_eq_true] at h
  obtain ⟨⟨h1,h2⟩,h3⟩:=h
  refine ⟨h1,He.eqO_ok h2,?_⟩
  split at h3
  · rename_i u e
    rw[of_decide_eq_true h3] at e
    exact e
  · cases h3
theorem r9 {K:PySem.W.Frag} {C:Addr} (h:oexB K C=true):OexC K C:=by
  unfold oexB at h
  simp only[Bool.and_eq_true,decide_eq_true_eq] at h
  obtain ⟨⟨⟨⟨q,h2⟩,h3⟩,h4⟩,h5⟩:=h
  refine ⟨?_,He.eqO_ok h2,h3,h4,h5⟩
  split at q
  · rename_i dd cd sl ho
    split at q
    · rename_i C' bm k0 k1 k2 k3 n k5 hm hs
      simp only[Bool.and_eq_true,beq_iff_eq,Bool.not_eq_true'] at q
      obtain ⟨⟨⟨⟨rfl,rfl⟩,hdel⟩,hdi⟩,hr⟩:=q
      obtain ⟨nm,bs,mro,ns,qn,hd,sn,sub,ab,col,del⟩:=cd
      dsimp only at hm hdel hdi
      subst hm hdel hdi
      have hsl:sl=#[k0,k1,k2,k3,some (.builtin "ValueError.__new__"),k5]:=by
        obtain ⟨l⟩:=sl
        simp only at hs
        rw[hs]
      subst hsl
      exact ⟨nm,qn,ns,bs,bm,sn,sub,ab,col,dd,k0,k1,k2,k3,k5,ho,hr⟩
    · cases q
  · cases q
/-- an own error with fields: its class at C,its __init__ at fI,the class above at A -/
structure ExcI (K:PySem.W.Frag) (C fI A:Addr) (ns:List Str):Prop where
  ox:OexC K C
  ini:PySem.W.findIn K (.ref C) "__init__"=some (some (.ref fI))
  ty:PySem.W.typeIn K (.ref fI)=some (.type "function")
  fl:∀n∈ns,PySem.W.findIn K (.ref C) n=some none
  up:ClV K A "__init__" (.builtin "ValueError.__init__")
theorem le {K:PySem.W.Frag} {C fI A:Addr} {ns:List Str} (h:nR K C fI A ns=true):ExcI K C fI A ns:=by
  unfold nR at h
  simp only[Bool.and_eq_true,decide_eq_true_eq,List.all_eq_true] at h
  obtain ⟨⟨⟨⟨h1,h2⟩,h3⟩,h4⟩,h5⟩:=h
  exact ⟨r9 h1,He.eqO_ok h2,h3,fun n hn=>He.eqO_ok (h4 n hn),r8 h5⟩
/-- the call of y.m is evaluated as a method's call -/
def qJ (y nm:Str) (p1 p2 pos:Pos) (es:List Expr) (env:Env):Prop:=∃pl:Sem Bool,eval (.Call (.Attribute (.Name y p1) nm p2) es [] pos) env=(do
      let ov ←eval (.Name y p1) env
      standAt p2.atName
      let (f,first) ←holding [ov] (getMethod ov nm pl)
      callWith pos f first (backTo pos (starEach es env)) (backToKw pos (keywordEach [] env)))
section
variable {X:Cx} {e:Expr} {es:List Expr} {ta:TA} {y:Str} {A:Addr} {p1 p2 pos:Pos}
/-- A.__init__(self,..),A without an own one -/
theorem oi (hg:Gl X y) (hm:X.mg y=some (.ref A)) (V:ClV X.K A "__init__" (.builtin "ValueError.__init__")) (ha:PA X (e::es) ta) (hdb:(y == ("__debug__":Str))=false:=by decide)
    (hc:qJ y "__init__" p1 p2 pos (e::es) X.env)
    (he:starEach (e::es) X.env=(false,eval e X.env)::starEach es X.env:=by rfl) (hpl:(backTo pos (starEach es X.env)).any (·.1)=false:=by rfl) :
    PE X (.Call (.Attribute (.Name y p1) "__init__" p2) (e::es) [] pos) (tVeI X.K ta):=by
  obtain ⟨pl,hc⟩:=hc
  refine ⟨fun pins s σ H Q I h=>?_⟩
  refine PySem.W.methodCall_KW (ld_glob I hg hm ?_ hdb) hc
  refine PySem.W.method_cls I.kIn V.ga (PySem.W.cls_value I.kIn V.rd V.up rfl ?_)
  show wpAny _ _ (callWith pos (Value.builtin "ValueError.__init__") [] (backTo pos (starEach (e::es) X.env)) []) _ _ _
  refine PyProof.Rows.callWith_method1 (thn (ha.run pos pins _ σ H _ (I.tok _) h) fun us s1 ⟨vs,H1,I1,r1,a,C,ws,ev,hl,T,ea,q⟩=>?_) he hpl
  subst ev
  cases r1 with
  | @cons _ u0 _ ur ra rw'=>
    obtain rfl:u0=Value.ref a:=ra
    have hlen:ur.length≤sizeLine:=by
      rw[←Paired.length rw',sizeLine_eq]
      omega
    exact oinit_ok T I1 ea hlen fun s' J=>⟨.non,H1,J,rfl,q⟩
end
/-- what such an __init__ keeps: the fields are these -/
def spI (C:Addr) (ns:List Str):Sp:=fun vs H Q E=>∃(a:Addr) (ys:List V),vs=.ref a::ys∧ys.length=ns.length∧H a=some (exo a C none)∧
  ∀dx H',H dx=none→dx≠a→H' a=some (exo a C (some dx))→H' dx=some (exd dx (ns.zip ys).reverse)→(∀b,b≠a→b≠dx→H' b=H b)→Q .non H'
section
variable {P:Program} {w:World} {K:PySem.W.Frag} {mg:Str→Option Value} {base:Heap} {qual y m f1 f2:Str} {params:Arguments} {body:List Stmt} {scope:Scope} {C fI A:Addr} {fd:FuncData} {k j:Nat}
  {p1 p2 p3 p4 p5 p6 q1 q2 q3 q4 r1 r2 r3 r4:Pos}
theorem km {N ps:List Str} (S:FnScope N ps scope) {x:Str} (h:x∈ps):Vis scope x:=(S.par x h).elim .inl fun z=>.inr (.inl z)
theorem lf (T:ExcI K C fI A [f1]) (F:FunD K "__init__" qual params body scope [] [] fI fd) (S:FnScope ["self",f1] ["self",f1] scope) (hA:mg y=some (.ref A)) (hg:scope.names.lookup y=some .globalImplicit)
    (hb:body=[.Expr (.Call (.Attribute (.Name y p1) "__init__" p2) [.Name "self" p3,.Constant (.str m) j p4] [] p5) p6,.Assign [.Attribute (.Name "self" q1) f1 q2] (.Name f1 q3) q4])
    (hce:∀(n:Nat) (cdv:Value),qJ y "__init__" p1 p2 p5 [.Name "self" p3,.Constant (.str m) j p4] (envOfC qual scope n fI cdv))
    (hdb:(y == ("__debug__":Str))=false:=by decide) (hd1:(f1 == ("__debug__":Str))=false:=by decide) (hc1:(f1 == ("__classdict__":Str))=false:=by decide) :
    FnOk P w K mg base C8.CX0 (k+1) fI fd ["self",f1] (spI C [f1]):=by
  subst hb
  refine FunD.ok F S (fun vs H Q E ⟨a,ys,e,hl,_⟩=>by rw[e]; simp[hl]) fun cdv A0 outer s H vs Q E hr ⟨a,ys,e,hl,ha,hq⟩=>?_
  subst e
  match ys,hl with
  | [v1],_=>
    refine ⟨_,pss_cons (ps_expr (oi (A:=A) hg hA T.up (pa_cons (pe_var (i:=0) rfl (km S (by simp))) (pa_cons pe_str pa_nil)) hdb (hce _ _))) (pss_one (ps_ost (pe_var (i:=0) rfl (km S (by simp))) (pe_var (i:=1) rfl (km S (by simp)) hd1 hc1))),?_⟩
    refine ⟨.ref a,rfl,a,C,[.str m],rfl,by simp,T.ox,ha,?_⟩
    refine ⟨v1,rfl,.ref a,rfl,a,C,rfl,T.ox,T.fl f1 (by simp),.inl ⟨ha,fun dx hd hne=>?_⟩⟩
    refine hq dx _ hd hne upd_same ?_ fun b h1 h2=>?_
    · rw[upd_ne hne,upd_same]
      rfl
    · rw[upd_ne h1,upd_ne h2]
end
def c9 (C:Str) (ns:List Str) (r:MA):MS:=fun env S=>(r env S).rs env fun ds S=>if ds.length=ns.length∧ns≠[]∧ns.length≤1000 then .exc ⟨C,(ns.zip ds).reverse⟩ env S else .stuck
section
variable {X:Cx} {W:WX} {x:Str} {C fI A:Addr} {fd:FuncData} {k:Nat} {ns:List Str} {e:Expr} {es:List Expr} {r:MA} {p pos pos':Pos}
theorem map_fst_zip {α β:Type}:∀ {as:List α} {bs:List β},as.length=bs.length→(as.zip bs).map (·.1)=as
  | [],[],_=>rfl
  | a::as,b::bs,h=>by simp[map_fst_zip (as:=as) (bs:=bs) (by simpa using h)]
theorem map_snd_zip {α β:Type}:∀ {as:List α} {bs:List β},as.length=bs.length→(as.zip bs).map (·.2)=bs
  | [],[],_=>rfl
  | a::as,b::bs,h=>by simp[map_snd_zip (as:=as) (bs:=bs) (by simpa using h)]
theorem sA {α β:Type} {as:List α} {bs:List β} (h:as.length=bs.length):as.reverse.zip bs.reverse=(as.zip bs).reverse:=by
  unfold List.zip
  exact (List.reverse_zipWith h).symm
theorem RepAll.rev {K:PySem.W.Frag} {mg:Str→Option Value} {μ:Mu} {H:Hp} {ds:List D} {vs:List V} (h:RepAll K mg μ H ds vs):RepAll K mg μ H ds.reverse vs.reverse:=h.reverse
theorem oj {ps:List Str} (hc:X.calm=true) (tk:Takes X W) (T:ExcI X.K C fI A ns) (F:FnOk X.prog X.w X.K X.mg X.base C8.CX0 k fI fd ps (spI C ns)) (hb:Binds X.K fd ps []) (hr:Room (k+1) X.A) (gC:X.mg x=some (.ref C)) (hg:Gl X x)
    (ha:PA X (e::es) (tAs X W r)) (hdb:(x == ("__debug__":Str))=false:=by decide) (he:starEach (e::es) X.env=(false,eval e X.env)::starEach es X.env:=by rfl) (hpl:(backTo pos (starEach es X.env)).any (·.1)=false:=by rfl) :
    PS X (.Raise (some (.Call (.Name x p) (e::es) [] pos)) none pos') (tS X W (c9 x ns r)):=
  gB (L2N.ps_raise hc tk (pe T.ox T.ini T.ty F hr hb pass0 hg gC ha hdb he hpl)) fun D σ H ⟨env,S,μ,rl,o⟩=>by
    refine ⟨env,S,μ,rl,(OutS.rs rl.env o).mono fun vs H1 ⟨μ1,S1,ds,st,rs,ra,o1⟩=>?_⟩
    split at o1
    · rename_i hl
      obtain ⟨hl,hn,h1000⟩:=hl
      have hlv:vs.length=ns.length:=by rw[←ra.length]; exact hl
      refine ⟨by omega,fun a na=>⟨a,vs,by simp,hlv,upd_same,fun dx H' hd hne e1 e2 e3=>?_⟩⟩
      rw[upd_ne hne] at hd
      refine ⟨rfl,dx,_,e1,e2,hd,?_⟩
      have eH:upd (del H' a) dx (.xd (ns.zip vs).reverse)=upd H1 dx (.xd (ns.zip vs).reverse):=by
        funext b
        by_cases h1:b=dx
        · subst h1; rw[upd_same,upd_same]
        · rw[upd_ne h1,upd_ne h1]
          by_cases h2:b=a
          · subst h2; rw[del_same,na]
          · rw[del_ne h2,e3 b h2 h1,upd_ne h2]
      rw[eH]
      have sm:Sm H1 (upd H1 dx (.xd (ns.zip vs).reverse)):=.upd hd
      have st2:Step μ1 H1 μ1 (upd H1 dx (.xd (ns.zip vs).reverse)):=.of_sm sm
      refine o1 μ1 _ σ (.ref C) (some dx) st2 ((rl.env.step st).step st2) (rs.sm sm) ⟨C,gC,rfl,.inr ⟨?_,dx,vs.reverse,rfl,?_,?_⟩⟩
      · intro z
        have z:(ns.zip ds).reverse=[]:=z
        rw[List.reverse_eq_nil_iff,List.zip_eq_nil_iff] at z
        rcases z with z|z
        · exact hn z
        · rw[z] at hl
          exact hn (List.eq_nil_of_length_eq_zero hl.symm)
      · rw[upd_same]
        show some (HO.xd _)=some (HO.xd _)
        rw[List.map_reverse,map_fst_zip hl.symm,sA hlv.symm]
      · show RepAll _ _ _ _ (((ns.zip ds).reverse).map (·.2)) _
        rw[List.map_reverse,map_snd_zip hl.symm]
        exact RepAll.step st2 _ _ ra.rev
    · exact o1.elim
end
end DL
namespace DL
open PySem PySem.Spec PyProof.Rows L2
def qK (cn:Str) (n k:Nat) (mi:MF) (r rk:MA):ME:=fun env S=>(r env S).bind fun ds S=>(rk env S).bind fun zs S=>if ds.length+1=k then (chk n mi (.loc S.length::(ds++zs)) (S++[.ins cn []])).bind (fun d S'=>match d with
  | .none=>.ok (.loc S.length) S'
  | _=>.stuck) else .stuck
section
variable {X:Cx} {W:WX} {k n:Nat} {f C A:Addr} {ps ks:List Str} {m mi:MF} {x y nm cn kn:Str} {dv:Int} {p p1 p2 pos kpos:Pos} {e ek:Expr} {es:List Expr} {r:MA} {mk:ME}
theorem dq {x:Str} {fI:Addr} {ns:List Str} {pos':Pos} (hc:X.calm=true) (tk:Takes X W) (T:ExcI X.K C fI A ns) (F:∃fd,FnOk X.prog X.w X.K X.mg X.base C8.CX0 k fI fd ps (spI C ns)∧Binds X.K fd ps []) (hr:Room (k+1) X.A) (gC:X.mg x=some (.ref C)) (hg:Gl X x)
    (ha:PA X (e::es) (tAs X W r)) (hdb:(x == ("__debug__":Str))=false:=by decide) (he:starEach (e::es) X.env=(false,eval e X.env)::starEach es X.env:=by rfl) (hpl:(backTo pos (starEach es X.env)).any (·.1)=false:=by rfl) :
    PS X (.Raise (some (.Call (.Name x p) (e::es) [] pos)) none pos') (tS X W (c9 x ns r)):=by
  obtain ⟨fd,F,hb⟩:=F
  exact oj hc tk T F hb hr gC hg ha hdb he hpl
end
end DL
namespace DL
open PySem PySem.Spec PyProof.Rows L2
def me:List (ME × ME)→En→Sto→Res (List (D × D))
  | [],_,S=>.ok [] S
  | p::r,env,S=>(p.1 env S).bind fun k S=>(p.2 env S).bind fun v S=>(me r env S).bind fun ps S=>.ok ((k,v)::ps) S
def jo (r:List (ME × ME)):ME:=fun env S=>match me r env S with
  | .ok ps S=>if (ps.all fun p=>b8 false p.1)=true∧ps.length≤15 then .ok (.loc S.length) (S++[.dct false (bn [] ps)]) else .stuck
  | _=>.stuck
def RPs (K:PySem.W.Frag) (mg:Str→Option Value):Mu→Hp→List (D × D)→List (V × V)→Prop:=fun μ H kvs ps=>RepAll K mg μ H (kvs.map (·.1)) (ps.map (·.1))∧RepAll K mg μ H (kvs.map (·.2)) (ps.map (·.2))
section
variable {X:Cx}
theorem jp:∀(r:List (ME × ME)) {σ:L2.St} {H:Hp} {Q:List (V × V)→Hp→Prop} {env:En} {S:Sto} {μ:Mu},Rl X.K X.mg μ H env σ S→Out X.K X.mg W0 σ μ H (RPs X.K X.mg) Q (me r env S)→tPairs (r.map fun p=>(tE X W0 p.1,tE X W0 p.2)) σ H Q
  | [],σ,H,Q,env,S,μ,rl,o=>o μ H [] .refl rl.sto ⟨.nil,.nil⟩
  | p::r,σ,H,Q,env,S,μ,rl,o=>by
    show tE X W0 p.1 σ H _
    refine ⟨env,S,μ,rl,(Out.bind o).mono fun x H1 ⟨μ1,S1,k,st1,rs1,r1,o1⟩=>?_⟩
    refine ⟨env,S1,μ1,⟨rl.env.step st1,rs1⟩,(Out.bind o1).mono fun y H2 ⟨μ2,S2,v,st2,rs2,r2,o2⟩=>?_⟩
    refine jp r (env:=env) (S:=S2) (μ:=μ2) ⟨(rl.env.step st1).step st2,rs2⟩ ?_
    refine (Out.bind o2).mono fun ps H3 ⟨μ3,S3,kvs,st3,rs3,r3,o3⟩=>?_
    exact o3 μ3 H3 ((x,y)::ps) .refl rs3 ⟨.cons (Rep.step st3 _ _ (Rep.step st2 _ _ r1)) r3.1,.cons (Rep.step st3 _ _ r2) r3.2⟩
theorem lg {K:PySem.W.Frag} {mg:Str→Option Value} {μ:Mu} {H:Hp}:∀ {ps:List (D × D)} {vs:List (V × V)},(ps.all fun p=>b8 false p.1)=true→RepAll K mg μ H (ps.map (·.1)) (vs.map (·.1))→RepAll K mg μ H (ps.map (·.2)) (vs.map (·.2))→
    ∃kvs:List (Key × V),vs=kvs.map (fun kv=>(kV kv.1,kv.2))∧ps.map (·.1)=kvs.map (fun kv=>cV kv.1)∧RepAll K mg μ H (ps.map (·.2)) (kvs.map (·.2))∧kvs.length=ps.length
  | [],vs,_,h,_=>by
    unfold RepAll at h
    have:vs=[]:=List.map_eq_nil_iff.mp h
    subst this
    exact ⟨[],rfl,rfl,.nil,rfl⟩
  | p::ps,vs,hk,h1,h2=>by
    cases vs with
    | nil=>
      have h1:=h1.length
      simp at h1
    | cons v vs=>
      rw[List.map_cons,List.map_cons] at h1 h2
      unfold RepAll at h1 h2
      obtain ⟨x,xs,e1,r1,t1⟩:=h1
      obtain ⟨y,ys,e2,r2,t2⟩:=h2
      cases e1
      cases e2
      rw[List.all_cons,Bool.and_eq_true] at hk
      obtain ⟨kvs,g1,g2,g3,g4⟩:=lg hk.2 t1 t2
      obtain ⟨k,ek⟩:=nV hk.1
      obtain ⟨p1,p2⟩:=p
      obtain ⟨v1,v2⟩:=v
      dsimp only at ek r1 r2
      subst ek
      have e:=f8 r1
      subst e
      exact ⟨(k,v2)::kvs,by rw[g1,List.map_cons],by simp[g2],.cons r2 g3,by simp[g4]⟩
theorem nr {W:WX} {keys:List (Option Expr)} {values:List Expr} {pos:Pos} {r:List (ME × ME)} (h:PPs X pos keys values (r.map fun p=>(tE X W0 p.1,tE X W0 p.2))) (hall:keys.all (·.isSome)=true:=by rfl) (hl:keys.length=values.length:=by rfl) (h0:keys≠[]:=by simp)
    (h15:keys.length≤15:=by decide):PE X (.Dict keys values pos) (tE X W (jo r)):=
  bf (pe_disp h hall hl h0 h15) fun σ H Q ⟨env,S,μ,rl,o⟩ p hp=>by
    unfold jo at o
    split at o
    · rename_i ps S1 em
      split at o
      · rename_i hc
        have sh:Stp μ H (μ.hide p) (upd H p (.dK [])):=.new_hid hp
        refine jp r (env:=env) (S:=S) (μ:=μ.hide p) ⟨rl.env.stp sh,rl.sto.hide hp⟩ ?_
        rw[em]
        intro μ2 H2 vs st rs2 ⟨r1,r2⟩
        have hpm:p∈(μ.hide p).h:=List.mem_cons_self
        have hp2:H2 p=some (.dK []):=st.hk _ _ hpm upd_same
        obtain ⟨kvs,g1,g2,g3,g4⟩:=lg hc.1 r1 r2
        refine ⟨hp2,kvs,g1,by rw[g4]; exact hc.2,?_⟩
        have np2:p∈μ2.h:=by rw[st.hid]; exact hpm
        have sw:Stp μ2 H2 μ2 (upd H2 p (.dK (mergeK [] kvs))):=.write_hid np2 (.of hp2)
        have rs3:RelS X.K X.mg μ2 (upd H2 p (.dK (mergeK [] kvs))) S1:=rs2.write_hid np2
        have sub:∀a∈μ.h,a∈μ2.h:=fun a ha=>by rw[st.hid]; exact List.mem_cons_of_mem _ ha
        have su:Stp μ2 (upd H2 p (.dK (mergeK [] kvs))) ⟨μ2.l++[p],μ.h⟩ (upd H2 p (.dK (mergeK [] kvs))):=.reveal np2 sub
        obtain ⟨ks,us,m1,m2,m3⟩:=kc (ds:=[]) (acc:=[]) g2 (RepAll.stp sw _ _ g3) ⟨[],[],rfl,rfl,.nil⟩
        have rr:=rs3.reveal (o:=.dct false (bn [] ps)) np2 sub (rl.sto.notinH hp) ⟨us,ks,⟨by rw[upd_same,m1],m2⟩,m3⟩
        refine o ⟨μ2.l++[p],μ.h⟩ _ (.ref p) ⟨((sh.trans st.toStp).trans sw).trans su,rfl,fun a u ha e nt=>?_⟩ rr ?_
        · have hap:a≠p:=ne_of_none e hp
          rw[upd_ne hap]
          exact st.hk a u (List.mem_cons_of_mem _ ha) (by rw[upd_ne hap]; exact e) nt
        · unfold Rep
          exact ⟨p,rfl,by rw[rs2.len]; simp⟩
      · exact o.elim
    · exact o.elim
end
end DL
namespace DL
open PySem PySem.Spec PyProof.Rows L2 LamX
/-- keeps what is wanted from being rewritten ahead of its time -/
inductive Dum {α:Type} (x:α):Type where
  | mk
/-- what holds behind an expression -/
@[irreducible] def Res.wp {α:Type} (r:Res α) (Q:α→Sto→Prop) (E:XV→Sto→Prop) (_:Dum Q:=.mk) (_:Dum E:=.mk) (_:True:=trivial):Prop:=match r with
  | .ok a S=>Q a S
  | .exc e S=>E e S
  | .stuck=>False
/-- what holds behind statements: next,return,raise,break,continue -/
@[irreducible] def RS.wp (x:RS) (N:En→Sto→Prop) (R:D→Sto→Prop) (E:XV→Sto→Prop) (B C:En→Sto→Prop) (_:Dum N:=.mk) (_:Dum R:=.mk) (_:Dum E:=.mk) (_:Dum B:=.mk) (_:Dum C:=.mk) (_:True:=trivial):Prop:=match x with
  | .next e S=>N e S
  | .brk e S=>B e S
  | .cont e S=>C e S
  | .ret d S=>R d S
  | .exc e _ S=>E e S
  | .stuck=>False
abbrev NoE:XV→Sto→Prop:=fun _ _=>False
abbrev NoB:En→Sto→Prop:=fun _ _=>False
@[simp] theorem NoE_at (e:XV) (S:Sto):NoE e S=False:=rfl
@[simp] theorem NoB_at (e:En) (S:Sto):NoB e S=False:=rfl
section
variable {α β:Type} {Q Q':α→Sto→Prop} {E E':XV→Sto→Prop} {N N' B B' C C':En→Sto→Prop} {R R':D→Sto→Prop} {S:Sto} {env:En}
@[simp] theorem dt {a:α}:Res.wp (.ok a S) Q E=Q a S:=by unfold Res.wp; rfl
@[simp] theorem iz:Res.wp (.stuck:Res α) Q E=False:=by unfold Res.wp; rfl
@[simp] theorem qL {a:XV}:Res.wp (.exc a S:Res α) Q E=E a S:=by unfold Res.wp; rfl
@[simp] theorem jq:RS.wp .stuck N R E B C=False:=by unfold RS.wp; rfl
@[simp] theorem du {a:En}:RS.wp (.next a S) N R E B C=N a S:=by unfold RS.wp; rfl
@[simp] theorem wpS_ret {a:D}:RS.wp (.ret a S) N R E B C=R a S:=by unfold RS.wp; rfl
@[simp] theorem wpS_exc {a:XV}:RS.wp (.exc a env S) N R E B C=E a S:=by unfold RS.wp; rfl
@[simp] theorem wpS_brk {a:En}:RS.wp (.brk a S) N R E B C=B a S:=by unfold RS.wp; rfl
@[simp] theorem i3 {a:En}:RS.wp (.cont a S) N R E B C=C a S:=by unfold RS.wp; rfl
@[simp ↓] theorem wp_bind {r:Res β} {f:β→Sto→Res α}:Res.wp (r.bind f) Q E=Res.wp r (fun a S=>Res.wp (f a S) Q E) E:=by cases r<;>simp[Res.bind]
@[simp ↓] theorem wp_rs {r:Res β} {k:β→Sto→RS}:RS.wp (r.rs env k) N R E B C=Res.wp r (fun a S=>RS.wp (k a S) N R E B C) E:=by cases r<;>simp[Res.rs]
@[simp ↓] theorem wp_then {r:RS} {k:MS}:RS.wp (r.andThen k) N R E B C=RS.wp r (fun e S=>RS.wp (k e S) N R E B C) R E B C:=by cases r<;>simp[RS.andThen]
theorem nu {r:Res α} (h:Res.wp r Q E) (i:∀a S,Q a S→Q' a S) (j:∀a S,E a S→E' a S):Res.wp r Q' E':=by
  cases r with
  | ok a S=>rw[dt] at *; exact i a S h
  | exc e S=>rw[qL] at *; exact j e S h
  | stuck=>rw[iz] at *; exact h
/-- a call whose rule is known; nothing is raised -/
theorem iU {r:Res α} (h:Res.wp r Q NoE) (i:∀a S,Q a S→Q' a S):Res.wp r Q' E':=nu h i fun _ _ z=>z.elim
/-- what a def gives -/
theorem aW {n:Nat} {m:MS} {ds:List D} {Q:D→Sto→Prop} (h:RS.wp (m (ds.map some++List.replicate n none) S) (fun _ S=>Q .none S) Q E NoB NoB):Res.wp (bJ n m ds S) Q E:=by
  rw[p0]
  generalize m (ds.map some++List.replicate n none) S=x at h
  cases x<;>simpa using h
theorem sB {τ:Type} {g:MG} {b:MS} {f:τ→D} (I:List τ→List τ→En→Sto→Prop) (xs:List τ)
    (step:∀pre x rest env S,pre++x::rest=xs→I pre (x::rest) env S→∃p,g (f x) env S=some p∧RS.wp (b p.1 p.2) (I (pre++[x]) rest) R E N (I (pre++[x]) rest))
    (fin:∀env S,I xs [] env S→N env S):∀(pre rest:List τ) (env:En) (S:Sto),pre++rest=xs→I pre rest env S→RS.wp (cp g b (rest.map f) env S) N R E B C:=by
  intro pre rest
  induction rest generalizing pre with
  | nil=>
    intro env S e h
    rw[List.append_nil] at e
    subst e
    show RS.wp (.next env S) N R E B C
    rw[du]
    exact fin env S h
  | cons x rest ih=>
    intro env S e h
    obtain ⟨p,e1,hb⟩:=step pre x rest env S e h
    rw[List.map_cons]
    unfold cp
    rw[e1]
    simp only[]
    generalize b p.1 p.2=y at hb
    cases y with
    | next e' S'=>rw[du] at hb; exact ih (pre++[x]) e' S' (by rw[←e]; simp) hb
    | cont e' S'=>rw[i3] at hb; exact ih (pre++[x]) e' S' (by rw[←e]; simp) hb
    | brk e' S'=>simpa using hb
    | ret d S'=>simpa using hb
    | exc x e' S'=>simpa using hb
    | stuck=>simpa using hb
theorem gu {τ:Type} {g:MG} {b:MS} {f:τ→D} {ds:List D} {env:En} {S:Sto} (xs:List τ) (I:List τ→List τ→En→Sto→Prop) (e:ds=xs.map f) (h:I [] xs env S)
    (step:∀pre x rest env S,pre++x::rest=xs→I pre (x::rest) env S→∃p,g (f x) env S=some p∧RS.wp (b p.1 p.2) (I (pre++[x]) rest) R E N (I (pre++[x]) rest))
    (fin:∀env S,I xs [] env S→N env S):RS.wp (cp g b ds env S) N R E B C:=by
  subst e
  exact sB I xs step fin [] xs env S rfl h
/-- a comprehension -/
theorem qM {τ:Type} {g:MG} {tc:MT} {m:ME} {w:En} {f:τ→D} {ds:List D} {Q:List D→Sto→Prop} (xs:List τ) (I:List τ→List τ→List D→Sto→Prop) (e:ds=xs.map f) (h:I [] xs [] S)
    (step:∀pre x rest acc S,pre++x::rest=xs→I pre (x::rest) acc S→∃p,g (f x) w S=some p∧Res.wp (tc p.1 p.2) (fun c S=>if c=true then Res.wp (m p.1 S) (fun v S=>acc.length<1000000∧I (pre++[x]) rest (acc++[v]) S) NoE else I (pre++[x]) rest acc S) NoE)
    (fin:∀acc S,I xs [] acc S→Q acc S):Res.wp (cW g tc m w ds [] S) Q E:=by
  subst e
  have loop:∀(rest pre:List τ) (acc:List D) (S:Sto),pre++rest=xs→I pre rest acc S→Res.wp (cW g tc m w (rest.map f) acc S) Q E:=by
    intro rest
    induction rest with
    | nil=>
      intro pre acc S e h
      rw[List.append_nil] at e
      rw[e] at h
      show Res.wp (.ok acc S) Q E
      rw[dt]
      exact fin acc S h
    | cons x rest ih=>
      intro pre acc S e h
      obtain ⟨p,e1,ht⟩:=step pre x rest acc S e h
      rw[List.map_cons]
      unfold cW iq
      simp only[e1]
      generalize tc p.1 p.2=y at ht
      cases y with
      | exc _ _=>simp at ht
      | stuck=>simp at ht
      | ok c S1=>
        rw[dt] at ht
        have ht:if c=true then Res.wp (m p.1 S1) (fun v S=>acc.length<1000000∧I (pre++[x]) rest (acc++[v]) S) NoE else I (pre++[x]) rest acc S1:=ht
        cases c with
        | false=>
          simp only[dp,Bool.false_eq_true,if_false] at ht ⊢
          exact ih (pre++[x]) acc S1 (by rw[←e]; simp) ht
        | true=>
          simp only[dp,if_true] at ht ⊢
          generalize m p.1 S1=z at ht
          cases z with
          | exc _ _=>simp at ht
          | stuck=>simp at ht
          | ok v S2=>
            rw[dt] at ht
            obtain ⟨hl,hi⟩:=ht
            simp only[dp,hl,if_true]
            exact ih (pre++[x]) (acc++[v]) S2 (by rw[←e]; simp) hi
  exact loop xs [] [] S rfl h
/-- a comprehension of what changes nothing,by an own filter and function -/
theorem eT {τ:Type} {g:MG} {tc:MT} {m:ME} {w:En} {f:τ→D} {S:Sto} (xs:List τ) (p:τ→Bool) (v:τ→D) (hl:xs.length≤1000000)
    (hx:∀x∈xs,∃e,g (f x) w S=some (e,S)∧tc e S=.ok (p x) S∧(p x=true→m e S=.ok (v x) S)):cW g tc m w (xs.map f) [] S=.ok ((xs.filter p).map v) S:=by
  have loop:∀(rest:List τ) (acc:List D),(∀x∈rest,x∈xs)→acc.length+rest.length≤1000000→cW g tc m w (rest.map f) acc S=.ok (acc++(rest.filter p).map v) S:=by
    intro rest
    induction rest with
    | nil=>intro acc _ _; simp[cW]
    | cons x rest ih=>
      intro acc hm hl
      obtain ⟨e,e1,e2,e3⟩:=hx x (hm x List.mem_cons_self)
      rw[List.length_cons] at hl
      rw[List.map_cons]
      unfold cW iq
      simp only[e1,e2,dp]
      cases hp:p x with
      | false=>
        simp only[Bool.false_eq_true,if_false,dp]
        rw[ih acc (fun y hy=>hm y (List.mem_cons_of_mem _ hy)) (by omega)]
        simp[hp]
      | true=>
        have ha:acc.length<1000000:=by omega
        simp only[if_true,e3 hp,dp,ha]
        rw[ih (acc++[v x]) (fun y hy=>hm y (List.mem_cons_of_mem _ hy)) (by simp; omega)]
        simp[hp]
  exact (loop xs [] (fun _ h=>h) (by simpa using hl)).trans (by simp)
end
end DL
namespace DL
open PySem PySem.Spec PyProof.Rows L2 LamX
@[simp] theorem sC (a b:String):(Str.ofString a=Str.ofString b)↔a=b:=by
  refine ⟨fun h=>?_,fun h=>by rw[h]⟩
  rw[Str.ofString_eq_toList,Str.ofString_eq_toList] at h
  have h1:a.toList.map Char.toNat=b.toList.map Char.toNat:=by simpa using h
  have h2:a.toList=b.toList:=(List.map_inj_right fun x y e=>Char.toNat_inj.mp e).mp h1
  exact String.toList_inj.mp h2
@[simp] theorem lookup_if (k a:Str) (v:D) (r:List (Str × D)):List.lookup k ((a,v)::r)=if k=a then some v else List.lookup k r:=by
  rw[List.lookup_cons]
  by_cases h:k=a
  · rw[if_pos h,show (k == a)=true by simp[h]]
  · rw[if_neg h,show (k == a)=false by simp[h]]
def cI (xs ys:List D):Bool:=PyData.eqvAll (pdFs xs) (pdFs ys)
@[simp] theorem peqAll_nil:cI [] []=true:=by simp[cI,pdFs,PyData.eqvAll]
@[simp] theorem s6 (x:D) (xs:List D):cI [] (x::xs)=false:=by simp[cI,pdFs,PyData.eqvAll]
@[simp] theorem s7 (x:D) (xs:List D):cI (x::xs) []=false:=by simp[cI,pdFs,PyData.eqvAll]
@[simp] theorem s8 (x y:D) (xs ys:List D):cI (x::xs) (y::ys)=(peq x y&&cI xs ys):=by simp[cI,peq,pdFs,PyData.eqvAll]
@[simp] theorem peq_int (i j:Int):peq (.int i) (.int j)=decide (i=j):=by unfold peq pdF PyData.eqv; exact Bool.beq_eq_decide_eq i j
@[simp] theorem peq_str (i j:Str):peq (.str i) (.str j)=decide (i=j):=by unfold peq pdF PyData.eqv; exact Bool.beq_eq_decide_eq i j
@[simp] theorem peq_bool (i j:Bool):peq (.bool i) (.bool j)=(i == j):=by unfold peq pdF PyData.eqv; rfl
@[simp] theorem qN (xs ys:List D):peq (.tup xs) (.tup ys)=cI xs ys:=by unfold peq pdF PyData.eqv; rfl
@[simp] theorem peq_tp (xs ys:List D):peq (.tup xs) (.tpn ys)=cI xs ys:=by unfold peq pdF PyData.eqv; rfl
@[simp] theorem peq_pt (xs ys:List D):peq (.tpn xs) (.tup ys)=cI xs ys:=by unfold peq pdF PyData.eqv; rfl
@[simp] theorem peq_pp (xs ys:List D):peq (.tpn xs) (.tpn ys)=cI xs ys:=by unfold peq pdF PyData.eqv; rfl
@[simp] theorem qO (xs ys:List D):peq (.lst xs) (.lst ys)=cI xs ys:=by unfold peq pdF PyData.eqv; rfl
@[simp] theorem qP:peq .none .none=true:=by unfold peq pdF PyData.eqv; rfl
@[simp] theorem peq_lt (xs ys:List D):peq (.lst xs) (.tup ys)=false:=by unfold peq pdF PyData.eqv; rfl
@[simp] theorem peq_tl (xs ys:List D):peq (.tup xs) (.lst ys)=false:=by unfold peq pdF PyData.eqv; rfl
@[simp] theorem peq_sl (x:Str) (ys:List D):peq (.str x) (.lst ys)=false:=by unfold peq pdF PyData.eqv; rfl
@[simp] theorem peq_ls (x:Str) (ys:List D):peq (.lst ys) (.str x)=false:=by unfold peq pdF PyData.eqv; rfl
@[simp] theorem peq_st (x:Str) (ys:List D):peq (.str x) (.tup ys)=false:=by unfold peq pdF PyData.eqv; rfl
@[simp] theorem peq_ts (x:Str) (ys:List D):peq (.tup ys) (.str x)=false:=by unfold peq pdF PyData.eqv; rfl
@[simp] theorem peq_nt (ys:List D):peq .none (.tup ys)=false:=by unfold peq pdF PyData.eqv; rfl
@[simp] theorem peq_tn (ys:List D):peq (.tup ys) .none=false:=by unfold peq pdF PyData.eqv; rfl
@[simp] theorem peq_is (i:Int) (x:Str):peq (.int i) (.str x)=false:=by unfold peq pdF PyData.eqv; rfl
@[simp] theorem peq_si (i:Int) (x:Str):peq (.str x) (.int i)=false:=by unfold peq pdF PyData.eqv; rfl
@[simp] theorem peq_it (i:Int) (x:List D):peq (.int i) (.tup x)=false:=by unfold peq pdF PyData.eqv; rfl
@[simp] theorem peq_ti (i:Int) (x:List D):peq (.tup x) (.int i)=false:=by unfold peq pdF PyData.eqv; rfl
@[simp] theorem peq_ni (i:Int):peq .none (.int i)=false:=by unfold peq pdF PyData.eqv; rfl
@[simp] theorem peq_in (i:Int):peq (.int i) .none=false:=by unfold peq pdF PyData.eqv; rfl
@[simp] theorem peq_ns (i:Str):peq .none (.str i)=false:=by unfold peq pdF PyData.eqv; rfl
@[simp] theorem peq_sn (i:Str):peq (.str i) .none=false:=by unfold peq pdF PyData.eqv; rfl
@[simp] theorem dok_none (n:Nat):dok n .none=true:=by cases n<;>rfl
@[simp] theorem dok_bool (n:Nat) (b:Bool):dok n (.bool b)=true:=by cases n<;>rfl
@[simp] theorem sD (n:Nat) (i:Int):dok n (.int i)=true:=by cases n<;>rfl
@[simp] theorem sE (n:Nat) (x:Str):dok n (.str x)=PyData.strOk x:=by cases n<;>rfl
@[simp] theorem sF (n:Nat) (xs:List D):dok (n+1) (.tup xs)=xs.all (dok n):=rfl
@[simp] theorem sG (n:Nat) (xs:List D):dok (n+1) (.lst xs)=xs.all (dok n):=rfl
@[simp] theorem sH (n:Nat) (xs:List D):dok (n+1) (.tpn xs)=xs.all (dok n):=rfl
@[simp] theorem dok_tup60 (xs:List D):dok 60 (.tup xs)=xs.all (dok 59):=rfl
@[simp] theorem dok_lst60 (xs:List D):dok 60 (.lst xs)=xs.all (dok 59):=rfl
@[simp] theorem dok_tpn60 (xs:List D):dok 60 (.tpn xs)=xs.all (dok 59):=rfl
@[simp] theorem dok_tup59 (xs:List D):dok 59 (.tup xs)=xs.all (dok 58):=rfl
@[simp] theorem dok_lst59 (xs:List D):dok 59 (.lst xs)=xs.all (dok 58):=rfl
@[simp] theorem dok_tpn59 (xs:List D):dok 59 (.tpn xs)=xs.all (dok 58):=rfl
@[simp] theorem dok_tup58 (xs:List D):dok 58 (.tup xs)=xs.all (dok 57):=rfl
@[simp] theorem dok_lst58 (xs:List D):dok 58 (.lst xs)=xs.all (dok 57):=rfl
@[simp] theorem dok_tpn58 (xs:List D):dok 58 (.tpn xs)=xs.all (dok 57):=rfl
/-- what stands for values of one kind -/
structure Enc {τ:Type} (k:Nat) (f:τ→D):Prop where
  dok:∀n a,k≤n→dok n (f a)=true
  peq:∀a b,peq (f a) (f b)=true↔a=b
theorem Enc.int:Enc 0 D.int:=⟨fun n a _=>sD n a,fun a b=>by simp⟩
theorem Enc.all {τ:Type} {k:Nat} {f:τ→D} (h:Enc k f):∀xs ys:List τ,cI (xs.map f) (ys.map f)=true↔xs=ys
  | [],[]=>by simp
  | [],y::ys=>by simp
  | x::xs,[]=>by simp
  | x::xs,y::ys=>by simp[h.peq,h.all xs ys]
theorem Enc.tup {τ:Type} {k:Nat} {f:τ→D} (h:Enc k f):Enc (k+1) fun xs:List τ=>D.tup (xs.map f):=
  ⟨fun n a hn=>by
    obtain ⟨m,rfl⟩:∃m,n=m+1:=⟨n - 1,by omega⟩
    rw[sF,List.all_map,List.all_eq_true]
    exact fun x _=>h.dok m x (by omega),fun a b=>by rw[qN,h.all]⟩
theorem Enc.tpn {τ:Type} {k:Nat} {f:τ→D} (h:Enc k f):Enc (k+1) fun xs:List τ=>D.tpn (xs.map f):=
  ⟨fun n a hn=>by
    obtain ⟨m,rfl⟩:∃m,n=m+1:=⟨n - 1,by omega⟩
    rw[sH,List.all_map,List.all_eq_true]
    exact fun x _=>h.dok m x (by omega),fun a b=>by rw[peq_pp,h.all]⟩
theorem Enc.lst {τ:Type} {k:Nat} {f:τ→D} (h:Enc k f):Enc (k+1) fun xs:List τ=>D.lst (xs.map f):=
  ⟨fun n a hn=>by
    obtain ⟨m,rfl⟩:∃m,n=m+1:=⟨n - 1,by omega⟩
    rw[sG,List.all_map,List.all_eq_true]
    exact fun x _=>h.dok m x (by omega),fun a b=>by rw[qO,h.all]⟩
theorem kq {α:Type} {xs:List α} {i:Int} (h0:0≤i) (h1:i<xs.length):atI xs i=xs[i.toNat]?:=by
  unfold atI ixN
  simp[h0,h1]
theorem dA {α:Type} {xs:List α} {i:Nat} (h1:i<xs.length):atI xs i=xs[i]?:=by
  rw[kq (by omega) (by omega),Int.toNat_natCast]
@[simp] theorem atI_0 {α:Type} (x:α) (xs:List α):atI (x::xs) 0=some x:=by rw[kq (by omega) (by simp)]; rfl
theorem jr {α:Type} {x:α} {xs:List α} {i:Int} (h:0<i):atI (x::xs) i=atI xs (i - 1):=by
  unfold atI ixN
  by_cases hl:i<xs.length+1
  · rw[if_pos (by omega),if_pos (by simpa using hl),if_pos (by omega),if_pos (by omega)]
    simp only[Option.bind_some]
    obtain ⟨j,rfl⟩:∃j:Nat,i=j+1:=⟨(i - 1).toNat,by omega⟩
    rw[show ((j:Int)+1).toNat=j+1 by omega,show ((j:Int)+1 - 1).toNat=j by omega]
    rfl
  · rw[if_pos (by omega),if_neg (by simpa using hl),if_pos (by omega),if_neg (by omega)]; rfl
@[simp] theorem atI_1 {α:Type} (x:α) (xs:List α):atI (x::xs) 1=atI xs 0:=jr (by omega)
@[simp] theorem atI_2 {α:Type} (x:α) (xs:List α):atI (x::xs) 2=atI xs 1:=jr (by omega)
@[simp] theorem atI_3 {α:Type} (x:α) (xs:List α):atI (x::xs) 3=atI xs 2:=jr (by omega)
@[simp] theorem atI_4 {α:Type} (x:α) (xs:List α):atI (x::xs) 4=atI xs 3:=jr (by omega)
@[simp] theorem atI_5 {α:Type} (x:α) (xs:List α):atI (x::xs) 5=atI xs 4:=jr (by omega)
@[simp] theorem atI_6 {α:Type} (x:α) (xs:List α):atI (x::xs) 6=atI xs 5:=jr (by omega)
@[simp] theorem fIx_tup (S:Sto) (xs:List D) (i:Int):fIx S (.tup xs) (.int i)=atI xs i:=rfl
@[simp] theorem fIx_tpn (S:Sto) (xs:List D) (i:Int):fIx S (.tpn xs) (.int i)=atI xs i:=rfl
@[simp] theorem fIx_lst (S:Sto) (xs:List D) (i:Int):fIx S (.lst xs) (.int i)=atI xs i:=rfl
@[simp] theorem fIx_ro (S:Sto) (xs:List D) (i:Int):fIx S (.ro xs) (.int i)=atI xs i:=rfl
@[simp] theorem dctOf_dct (t:Bool) (kvs:List (D × D)):bW (some (.dct t kvs))=some (t,kvs):=rfl
@[simp] theorem dctOf_fdc (t:Bool) (kvs:List (D × D)):bW (some (.fdc t kvs))=some (t,kvs):=rfl
@[simp] theorem dctOf_lst (xs:List D):bW (some (.lst xs))=none:=rfl
@[simp] theorem dctOf_none:bW none=none:=rfl
@[simp] theorem fLen_tup (S:Sto) (xs:List D):aq S [.tup xs]=some (.int xs.length):=rfl
@[simp] theorem fLen_tpn (S:Sto) (xs:List D):aq S [.tpn xs]=some (.int xs.length):=rfl
@[simp] theorem fLen_lst (S:Sto) (xs:List D):aq S [.lst xs]=some (.int xs.length):=rfl
@[simp] theorem fLen_ro (S:Sto) (xs:List D):aq S [.ro xs]=some (.int xs.length):=rfl
theorem qQ {S:Sto} {l:Nat} {xs:List D} (h:S[l]?=some (.lst xs)):aq S [.loc l]=some (.int xs.length):=by simp[aq,h]
@[simp] theorem fInt_int (S:Sto) (i:Int):kX S [.int i]=some (.int i):=rfl
@[simp] theorem fTup_lst (S:Sto) (xs:List D):eS S [.lst xs]=some (.tpn xs):=rfl
@[simp] theorem fSum_ints (S:Sto) (xs:List Int):fSum S [.lst (xs.map .int)]=some (.int xs.sum):=by
  have h:kY (xs.map .int)=some xs:=by
    induction xs with
    | nil=>rfl
    | cons x xs ih=>simp[kY,ih]
  simp[fSum,h]
@[simp] theorem mf (S:Sto) (xs:List Bool):jQ S [.lst (xs.map .bool)]=some (.bool (xs.all id)):=by
  have h:fO (xs.map .bool)=some xs:=by
    induction xs with
    | nil=>rfl
    | cons x xs ih=>simp[fO,ih]
  simp[jQ,h]
@[simp] theorem fMax2_int (S:Sto) (i j:Int):fMax2 S [.int i,.int j]=some (.int (max i j)):=by
  unfold fMax2
  simp only[Option.some.injEq,D.int.injEq]
  split<;>omega
@[simp] theorem fMin2_int (S:Sto) (i j:Int):fMin2 S [.int i,.int j]=some (.int (min i j)):=by
  unfold fMin2
  simp only[Option.some.injEq,D.int.injEq]
  split<;>omega
@[simp] theorem dTru_bool (S:Sto) (b:Bool):dN S (.bool b)=some b:=rfl
@[simp] theorem dTru_tup (S:Sto) (xs:List D):dN S (.tup xs)=some (!xs.isEmpty):=rfl
@[simp] theorem dTru_lst (S:Sto) (xs:List D):dN S (.lst xs)=some (!xs.isEmpty):=rfl
@[simp] theorem dTru_int (S:Sto) (i:Int):dN S (.int i)=some (i != 0):=rfl
@[simp] theorem iterD_tup (S:Sto) (xs:List D):bj S (.tup xs)=some (.items xs):=by simp[bj]
@[simp] theorem iterD_tpn (S:Sto) (xs:List D):bj S (.tpn xs)=some (.items xs):=by simp[bj]
@[simp] theorem iterD_lst (S:Sto) (xs:List D):bj S (.lst xs)=some (.items xs):=by simp[bj]
@[simp] theorem iterD_ro (S:Sto) (xs:List D):bj S (.ro xs)=some (.items xs):=by simp[bj]
theorem li {α:Type} (xs:List α) (i:Nat):dX xs (some (i:Int)) none=xs.drop i:=by
  unfold dX
  rw[HT.sIx_nat,HT.sIx_none]
  by_cases h:i≤xs.length
  · rw[Nat.min_eq_left h]; exact List.take_of_length_le (by simp)
  · rw[Nat.min_eq_right (by omega),List.drop_length,List.drop_eq_nil_of_le (by omega),List.take_nil]
theorem cut_to {α:Type} (xs:List α) (i:Nat):dX xs none (some (i:Int))=xs.take i:=by
  unfold dX
  rw[HT.sIx_nat,HT.sIx_none,List.drop_zero,Nat.sub_zero]
  by_cases h:i≤xs.length
  · rw[Nat.min_eq_left h]
  · rw[Nat.min_eq_right (by omega),List.take_of_length_le (Nat.le_refl _),List.take_of_length_le (by omega)]
@[simp] theorem fCut_lst (xs:List D) (lo hi:Option Int):jP (.lst xs) lo hi=some (.lst (dX xs lo hi)):=rfl
@[simp] theorem fCut_tup (xs:List D) (lo hi:Option Int):jP (.tup xs) lo hi=some (.tup (dX xs lo hi)):=rfl
@[simp] theorem keyOk_int (i:Int):b8 false (.int i)=true:=rfl
@[simp] theorem ol (i:Str):b8 false (.str i)=true:=rfl
theorem nv {τ:Type} (f:τ→D):∀xs ys:List τ,cB (xs.map f) (ys.map f)=(xs.zip ys).map fun p=>D.tup [f p.1,f p.2]
  | [],ys=>by cases ys<;>rfl
  | x::xs,[]=>rfl
  | x::xs,y::ys=>by simp[cB,nv f xs ys]
theorem lm {τ:Type} (f:τ→D):∀(xs:List τ) (n:Nat),bp n (xs.map f)=(xs.zipIdx n).map fun p=>D.tup [.int (p.2:Nat),f p.1]
  | [],_=>rfl
  | x::xs,n=>by simp[bp,lm f xs (n+1)]
@[simp] theorem cMul_l2 (j:Int):bG 2 j=true:=by simp[bG]
@[simp] theorem cMul_r2 (j:Int):bG j 2=true:=by simp[bG]
@[simp] theorem cMul_l3 (j:Int):bG 3 j=true:=by simp[bG]
@[simp] theorem cMul_r3 (j:Int):bG j 3=true:=by simp[bG]
@[simp] theorem cMul_l5 (j:Int):bG 5 j=true:=by simp[bG]
@[simp] theorem cMul_r5 (j:Int):bG j 5=true:=by simp[bG]
@[simp] theorem cMul_l7 (j:Int):bG 7 j=true:=by simp[bG]
@[simp] theorem cMul_r7 (j:Int):bG j 7=true:=by simp[bG]
@[simp] theorem cMul_l10 (j:Int):bG 10 j=true:=by simp[bG]
@[simp] theorem cMul_r10 (j:Int):bG j 10=true:=by simp[bG]
@[simp] theorem cMul_l20 (j:Int):bG 20 j=true:=by simp[bG]
@[simp] theorem cMul_r20 (j:Int):bG j 20=true:=by simp[bG]
@[simp] theorem cMul_l30 (j:Int):bG 30 j=true:=by simp[bG]
@[simp] theorem cMul_r30 (j:Int):bG j 30=true:=by simp[bG]
@[simp] theorem cMul_l60 (j:Int):bG 60 j=true:=by simp[bG]
@[simp] theorem cMul_r60 (j:Int):bG j 60=true:=by simp[bG]
@[simp] theorem cMul_l100 (j:Int):bG 100 j=true:=by simp[bG]
@[simp] theorem cMul_r100 (j:Int):bG j 100=true:=by simp[bG]
@[simp] theorem cMul_l1440 (j:Int):bG 1440 j=true:=by simp[bG]
@[simp] theorem cMul_r1440 (j:Int):bG j 1440=true:=by simp[bG]
@[simp] theorem s9 (j:Int):bG 48271 j=true:=by simp[bG]
@[simp] theorem tA (j:Int):bG j 48271=true:=by simp[bG]
@[simp] theorem cMod_2 (j:Int):dW j 2=true:=by simp[dW]
@[simp] theorem cMod_3 (j:Int):dW j 3=true:=by simp[dW]
@[simp] theorem cMod_4 (j:Int):dW j 4=true:=by simp[dW]
@[simp] theorem cMod_7 (j:Int):dW j 7=true:=by simp[dW]
@[simp] theorem cMod_100 (j:Int):dW j 100=true:=by simp[dW]
@[simp] theorem cMod_1440 (j:Int):dW j 1440=true:=by simp[dW]
@[simp] theorem pI (j:Int):dW j 2147483647=true:=by simp[dW]
@[simp] theorem cDiv_2 (j:Int):fT j 2=true:=by simp[fT]
@[simp] theorem cDiv_4 (j:Int):fT j 4=true:=by simp[fT]
@[simp] theorem cDiv_7 (j:Int):fT j 7=true:=by simp[fT]
@[simp] theorem cDiv_100 (j:Int):fT j 100=true:=by simp[fT]
@[simp] theorem cDiv_1440 (j:Int):fT j 1440=true:=by simp[fT]
@[simp] theorem smallI_0:ay 0=true:=smallI_iff.mpr (by decide)
@[simp] theorem smallI_1:ay 1=true:=smallI_iff.mpr (by decide)
@[simp] theorem smallI_2:ay 2=true:=smallI_iff.mpr (by decide)
@[simp] theorem smallI_3:ay 3=true:=smallI_iff.mpr (by decide)
@[simp] theorem smallI_4:ay 4=true:=smallI_iff.mpr (by decide)
@[simp] theorem smallI_5:ay 5=true:=smallI_iff.mpr (by decide)
@[simp] theorem smallI_7:ay 7=true:=smallI_iff.mpr (by decide)
@[simp] theorem smallI_8:ay 8=true:=smallI_iff.mpr (by decide)
theorem cb {i:Int} (h : -4611686018427387904≤i∧i<4611686018427387904):ay i=true:=by
  exact smallI_iff.mpr ⟨by omega,by omega⟩
@[simp] theorem set_concat {α:Type} (T:List α) (x y:α):(T++[x]).set T.length y=T++[y]:=by
  rw[List.set_append_right _ _ (Nat.le_refl _)]; simp
@[simp] theorem wipe_nil (e:En):bR e []=e:=rfl
@[simp] theorem wipe_cons (e:En) (v:Nat) (vs:List Nat):bR e (v::vs)=(bR e vs).set v none:=rfl
end DL
namespace DL
open PySem PySem.Spec PyProof.Rows L2 LamX
section
variable {N B B2:En→Sto→Prop} {R:D→Sto→Prop} {E:XV→Sto→Prop}
@[simp ↓] theorem wq_eBin (f:Sto→D→D→Option D) (ma mb:ME) (env:En) (S:Sto) {Q:D→Sto→Prop}:Res.wp (aL f ma mb env S) Q E=Res.wp ((ma env S).bind fun a S=>(mb env S).bind fun b S=>ofO S (f S a b)) Q E:=rfl
@[simp ↓] theorem wq_tOf (m:ME) (env:En) (S:Sto) {Q:Bool→Sto→Prop}:Res.wp (tOf m env S) Q E=Res.wp ((m env S).bind fun d S=>match d with
  | .bool b=>.ok b S
  | _=>.stuck) Q E:=rfl
@[simp ↓] theorem wq_pNo (x0:En) (S:Sto) {Q:Option Int→Sto→Prop}:Res.wp (pNo  x0 S) Q E=Res.wp (.ok none S) Q E:=rfl
@[simp ↓] theorem wq_pSome (m:ME) (env:En) (S:Sto) {Q:Option Int→Sto→Prop}:Res.wp (g9 m env S) Q E=Res.wp ((m env S).bind fun d S=>match d with
  | .int i=>.ok (some i) S
  | _=>.stuck) Q E:=rfl
@[simp ↓] theorem wq_eCut (m:ME) (ml mh:MP) (env:En) (S:Sto) {Q:D→Sto→Prop}:Res.wp (lO m ml mh env S) Q E=Res.wp ((m env S).bind fun d S=>(ml env S).bind fun lo S=>(mh env S).bind fun hi S=>ofO S (jP (view0 S d) lo hi)) Q E:=rfl
@[simp ↓] theorem wq_eC (d:D) (x0:En) (S:Sto) {Q:D→Sto→Prop}:Res.wp (eC d x0 S) Q E=Res.wp (.ok d S) Q E:=rfl
@[simp ↓] theorem wq_eV (i:Nat) (env:En) (S:Sto) {Q:D→Sto→Prop}:Res.wp (eV i env S) Q E=Res.wp (match env[i]? with
  | some (some d)=>.ok d S
  | _=>.stuck) Q E:=rfl
@[simp ↓] theorem wq_tTru (m:ME) (env:En) (S:Sto) {Q:Bool→Sto→Prop}:Res.wp (dO m env S) Q E=Res.wp ((m env S).bind fun d S=>ofO S (dN S d)) Q E:=rfl
@[simp ↓] theorem wq_tAndM (ma mb:MT) (env:En) (S:Sto) {Q:Bool→Sto→Prop}:Res.wp (nY ma mb env S) Q E=Res.wp ((ma env S).bind fun c S=>if c=true then mb env S else .ok false S) Q E:=rfl
@[simp ↓] theorem wq_tOrM (ma mb:MT) (env:En) (S:Sto) {Q:Bool→Sto→Prop}:Res.wp (dj ma mb env S) Q E=Res.wp ((ma env S).bind fun c S=>if c=true then .ok true S else mb env S) Q E:=rfl
@[simp ↓] theorem wq_tNotM (ma:MT) (env:En) (S:Sto) {Q:Bool→Sto→Prop}:Res.wp (cK ma env S) Q E=Res.wp ((ma env S).bind fun c S=>.ok (!c) S) Q E:=rfl
@[simp ↓] theorem wq_eAnd (ma mb:ME) (env:En) (S:Sto) {Q:D→Sto→Prop}:Res.wp (gj ma mb env S) Q E=Res.wp ((ma env S).bind fun d S=>(ofO S (dN S d)).bind fun c S=>if c=true then mb env S else .ok d S) Q E:=rfl
@[simp ↓] theorem wq_eOr (ma mb:ME) (env:En) (S:Sto) {Q:D→Sto→Prop}:Res.wp (eOr ma mb env S) Q E=Res.wp ((ma env S).bind fun d S=>(ofO S (dN S d)).bind fun c S=>if c=true then .ok d S else mb env S) Q E:=rfl
@[simp ↓] theorem wq_eNot (ma:ME) (env:En) (S:Sto) {Q:D→Sto→Prop}:Res.wp (eNot ma env S) Q E=Res.wp ((ma env S).bind fun d S=>(ofO S (dN S d)).bind fun c S=>.ok (.bool (!c)) S) Q E:=rfl
@[simp ↓] theorem wq_eIf (tc:MT) (ma mb:ME) (env:En) (S:Sto) {Q:D→Sto→Prop}:Res.wp (eIf tc ma mb env S) Q E=Res.wp ((tc env S).bind fun c S=>if c=true then ma env S else mb env S) Q E:=rfl
@[simp ↓] theorem wq_eNeg (ma:ME) (env:En) (S:Sto) {Q:D→Sto→Prop}:Res.wp (eNeg ma env S) Q E=Res.wp ((ma env S).bind fun d S=>match d with
  | .int i=>.ok (.int (-i)) S
  | _=>.stuck) Q E:=rfl
@[simp ↓] theorem wq_eChain (f g:Sto→D→D→Option D) (ma mb mc:ME) (env:En) (S:Sto) {Q:D→Sto→Prop}:Res.wp (eO f g ma mb mc env S) Q E=Res.wp ((ma env S).bind fun a S=>(mb env S).bind fun b S=>match f S a b with
  | some (.bool true)=>(mc env S).bind fun c S=>ofO S (g S b c)
  | some (.bool false)=>.ok (.bool false) S
  | _=>.stuck) Q E:=rfl
@[simp ↓] theorem wq_aNil (x0:En) (S:Sto) {Q:List D→Sto→Prop}:Res.wp (aF  x0 S) Q E=Res.wp (.ok [] S) Q E:=rfl
@[simp ↓] theorem wq_aCons (m:ME) (r:MA) (env:En) (S:Sto) {Q:List D→Sto→Prop}:Res.wp (aB m r env S) Q E=Res.wp ((m env S).bind fun d S=>(r env S).bind fun ds S=>.ok (d::ds) S) Q E:=rfl
@[simp ↓] theorem wq_eTup (r:MA) (env:En) (S:Sto) {Q:D→Sto→Prop}:Res.wp (cH r env S) Q E=Res.wp ((r env S).bind fun ds S=>if ds.length≤1000000 then .ok (.tup ds) S else .stuck) Q E:=rfl
@[simp ↓] theorem wq_eLst (r:MA) (env:En) (S:Sto) {Q:D→Sto→Prop}:Res.wp (bv r env S) Q E=Res.wp ((r env S).bind fun ds S=>if ds.length≤1000000 then .ok (.lst ds) S else .stuck) Q E:=rfl
@[simp ↓] theorem wq_eLstM (r:MA) (env:En) (S:Sto) {Q:D→Sto→Prop}:Res.wp (hB r env S) Q E=Res.wp ((r env S).bind fun ds S=>if ds.length≤1000000 then .ok (.loc S.length) (S++[.lst ds]) else .stuck) Q E:=rfl
@[simp ↓] theorem wq_eDct (t:Bool) (x0:En) (S:Sto) {Q:D→Sto→Prop}:Res.wp (eDct t x0 S) Q E=Res.wp (.ok (.loc S.length) (S++[.dct t []])) Q E:=rfl
@[simp ↓] theorem wq_sNil (env:En) (S:Sto):RS.wp (bS  env S) N R E B B2=RS.wp (.next env S) N R E B B2:=rfl
@[simp ↓] theorem wq_sSeq (a b:MS) (env:En) (S:Sto):RS.wp (aP a b env S) N R E B B2=RS.wp ((a env S).andThen b) N R E B B2:=rfl
@[simp ↓] theorem wq_sExpr (m:ME) (env:En) (S:Sto):RS.wp (gD m env S) N R E B B2=RS.wp ((m env S).rs env fun _ S=>.next env S) N R E B B2:=rfl
@[simp ↓] theorem wq_sRet (m:ME) (env:En) (S:Sto):RS.wp (aw m env S) N R E B B2=RS.wp ((m env S).rs env fun d S=>.ret d S) N R E B B2:=rfl
@[simp ↓] theorem wq_sRetN (x0:En) (S:Sto):RS.wp (sRetN  x0 S) N R E B B2=RS.wp (.ret .none S) N R E B B2:=rfl
@[simp ↓] theorem wq_sBreak (env:En) (S:Sto):RS.wp (pU  env S) N R E B B2=RS.wp (.brk env S) N R E B B2:=rfl
@[simp ↓] theorem wq_sCont (env:En) (S:Sto):RS.wp (sCont  env S) N R E B B2=RS.wp (.cont env S) N R E B B2:=rfl
@[simp ↓] theorem wq_sStuck (x0:En) (x1:Sto):RS.wp (eP  x0 x1) N R E B B2=RS.wp (.stuck) N R E B B2:=rfl
@[simp ↓] theorem wq_eStuck (x0:En) (x1:Sto) {Q:D→Sto→Prop}:Res.wp (pV  x0 x1) Q E=Res.wp (.stuck) Q E:=rfl
@[simp ↓] theorem wq_sIf (tc:MT) (a b:MS) (env:En) (S:Sto):RS.wp (sIf tc a b env S) N R E B B2=RS.wp ((tc env S).rs env fun c S=>if c=true then a env S else b env S) N R E B B2:=rfl
@[simp ↓] theorem wq_sAsg (m:ME) (g:MG) (env:En) (S:Sto):RS.wp (lR m g env S) N R E B B2=RS.wp ((m env S).rs env fun d S=>ofG (g d env S)) N R E B B2:=rfl
@[simp ↓] theorem wq_sPar (i j:Nat) (r:MA) (env:En) (S:Sto):RS.wp (sPar i j r env S) N R E B B2=RS.wp ((r env S).rs env fun ds S=>match ds with
  | [a,b]=>.next ((env.set i (some a)).set j (some b)) S
  | _=>.stuck) N R E B B2:=rfl
@[simp ↓] theorem wq_sSet (i:Nat) (m:ME) (env:En) (S:Sto):RS.wp (al i m env S) N R E B B2=RS.wp ((m env S).rs env fun d S=>.next (env.set i (some d)) S) N R E B B2:=rfl
@[simp ↓] theorem wq_sAug (i:Nat) (f:Sto→D→D→Option D) (m:ME) (env:En) (S:Sto):RS.wp (sAug i f m env S) N R E B B2=RS.wp (match env[i]? with
  | some (some a)=>(m env S).rs env fun b S=>match f S a b with
    | some d=>.next (env.set i (some d)) S
    | none=>.stuck
  | _=>.stuck) N R E B B2:=rfl
@[simp ↓] theorem wq_iAny (m:ME) (env:En) (S:Sto) {Q:ItD→Sto→Prop}:Res.wp (fV m env S) Q E=Res.wp ((m env S).bind fun d S=>ofO S (bj S d)) Q E:=rfl
@[simp ↓] theorem wq_iRng1D (r:MA) (env:En) (S:Sto) {Q:ItD→Sto→Prop}:Res.wp (cy r env S) Q E=Res.wp ((r env S).bind fun ds S=>match ds with
  | [.int j]=>if ay j then .ok (.items (gF 0 j.toNat)) S else .stuck
  | _=>.stuck) Q E:=rfl
@[simp ↓] theorem wq_iRng2D (r:MA) (env:En) (S:Sto) {Q:ItD→Sto→Prop}:Res.wp (pY r env S) Q E=Res.wp ((r env S).bind fun ds S=>match ds with
  | [.int i,.int j]=>if ay i&&ay j then .ok (.items (gF i (j - i).toNat)) S else .stuck
  | _=>.stuck) Q E:=rfl
@[simp ↓] theorem wq_iEnumD (r:MA) (env:En) (S:Sto) {Q:ItD→Sto→Prop}:Res.wp (eR r env S) Q E=Res.wp ((r env S).bind fun ds S=>match ds.map vt with
  | [.tup xs]=>.ok (.items (bp 0 xs)) S
  | [.lst xs]=>.ok (.items (bp 0 xs)) S
  | [.loc l]=>match S[l]? with
    | some (.lst _)=>.ok (.liveE l) S
    | _=>.stuck
  | _=>.stuck) Q E:=rfl
@[simp ↓] theorem wq_iZipD (r:MA) (env:En) (S:Sto) {Q:ItD→Sto→Prop}:Res.wp (iZipD r env S) Q E=Res.wp ((r env S).bind fun ds S=>match ds.map vt with
  | [.tup xs,.tup ys]=>.ok (.items (cB xs ys)) S
  | [.lst xs,.lst ys]=>.ok (.items (cB xs ys)) S
  | _=>.stuck) Q E:=rfl
@[simp ↓] theorem ku (mi:MI) (g:MG) (b:MS) (env:En) (S:Sto):RS.wp (fW mi g b env S) N R E B B2=RS.wp ((mi env S).rs env fun it S=>match it with
  | .items ds=>cp g b ds env S
  | .live l=>hO g b l (eu S l+1) 0 env S
  | .liveE l=>dm g b l (eu S l+1) 0 env S) N R E B B2:=rfl
@[simp ↓] theorem wq_compR (mi:MI) (g:MG) (tc:MT) (m:ME) (vs:List Nat) (env:En) (S:Sto) {Q:List D→Sto→Prop}:Res.wp (fX mi g tc m vs env S) Q E=Res.wp ((mi env S).bind fun it S=>match it with
  | .items ds=>cW g tc m (bR env vs) ds [] S
  | .live l=>ir g tc m (bR env vs) l (eu S l+1) 0 [] S
  | .liveE l=>iu g tc m (bR env vs) l (eu S l+1) 0 [] S) Q E:=rfl
@[simp ↓] theorem wq_eComp (mi:MI) (g:MG) (tc:MT) (m:ME) (vs:List Nat) (env:En) (S:Sto) {Q:D→Sto→Prop}:Res.wp (cC mi g tc m vs env S) Q E=Res.wp ((fX mi g tc m vs env S).bind fun ds S=>.ok (.lst ds) S) Q E:=rfl
@[simp ↓] theorem wq_eCompM (mi:MI) (g:MG) (tc:MT) (m:ME) (vs:List Nat) (env:En) (S:Sto) {Q:D→Sto→Prop}:Res.wp (pZ mi g tc m vs env S) Q E=Res.wp ((fX mi g tc m vs env S).bind fun ds S=>.ok (.loc S.length) (S++[.lst ds])) Q E:=rfl
@[simp ↓] theorem wq_tYesM (x0:En) (S:Sto) {Q:Bool→Sto→Prop}:Res.wp (b9  x0 S) Q E=Res.wp (.ok true S) Q E:=rfl
@[simp ↓] theorem wq_chk (n:Nat) (m:MF) (ds:List D) (S:Sto) {Q:D→Sto→Prop}:Res.wp (chk n m ds S) Q E=Res.wp (if ds.length=n then m ds S else .stuck) Q E:=rfl
@[simp ↓] theorem wq_eCall (n:Nat) (m:MF) (r:MA) (env:En) (S:Sto) {Q:D→Sto→Prop}:Res.wp (aO n m r env S) Q E=Res.wp ((r env S).bind fun ds S=>chk n m ds S) Q E:=rfl
@[simp ↓] theorem wq_eMeth (cn nm:Str) (n:Nat) (m:MF) (ma:ME) (r:MA) (env:En) (S:Sto) {Q:D→Sto→Prop}:Res.wp (eMeth cn nm n m ma r env S) Q E=Res.wp ((ma env S).bind fun d S=>match d with
  | .loc l=>match S[l]? with
    | some (.ins C fs)=>if C=cn∧(fs.map (·.1)).contains nm=false then (r env S).bind fun ds S=>chk n m (.loc l::ds) S else .stuck
    | _=>.stuck
  | _=>.stuck) Q E:=rfl
@[simp ↓] theorem wq_eMake (cn:Str) (n:Nat) (mi:MF) (r:MA) (env:En) (S:Sto) {Q:D→Sto→Prop}:Res.wp (eMake cn n mi r env S) Q E=Res.wp ((r env S).bind fun ds S=>(chk n mi (.loc S.length::ds) (S++[.ins cn []])).bind fun d S'=>match d with
  | .none=>.ok (.loc S.length) S'
  | _=>.stuck) Q E:=rfl
@[simp ↓] theorem wq_eFld (cn f:Str) (ma:ME) (env:En) (S:Sto) {Q:D→Sto→Prop}:Res.wp (eFld cn f ma env S) Q E=Res.wp ((ma env S).bind fun d S=>match d with
  | .loc l=>match S[l]? with
    | some (.ins C fs)=>if C=cn then ofO S (fs.lookup f) else .stuck
    | _=>.stuck
  | _=>.stuck) Q E:=rfl
@[simp ↓] theorem wq_sFldM (cn f:Str) (ma mv:ME) (env:En) (S:Sto):RS.wp (sFldM cn f ma mv env S) N R E B B2=RS.wp ((mv env S).rs env fun d S=>(ma env S).rs env fun o S=>match o with
  | .loc l=>match S[l]? with
    | some (.ins C fs)=>if C=cn∧fs.length<1000 then .next env (S.set l (.ins C (kU f d fs))) else .stuck
    | _=>.stuck
  | _=>.stuck) N R E B B2:=rfl
@[simp ↓] theorem wq_eB (f:BF) (r:MA) (env:En) (S:Sto) {Q:D→Sto→Prop}:Res.wp (eB f r env S) Q E=Res.wp ((r env S).bind fun ds S=>ofO S (f S ds)) Q E:=rfl
@[simp ↓] theorem wq_eM (ok:Sto→D→Bool) (f:BM) (ma:ME) (r:MA) (env:En) (S:Sto) {Q:D→Sto→Prop}:Res.wp (eM ok f ma r env S) Q E=Res.wp ((ma env S).bind fun d S=>if ok S d then (r env S).bind fun ds S=>match f S d ds with
  | some p=>.ok p.1 p.2
  | none=>.stuck else .stuck) Q E:=rfl
@[simp ↓] theorem wq_eRev (m:ME) (env:En) (S:Sto) {Q:D→Sto→Prop}:Res.wp (eRev m env S) Q E=Res.wp ((m env S).bind fun d S=>match view S d with
  | .lst xs=>.ok (.lst xs.reverse) S
  | _=>.stuck) Q E:=rfl
@[simp ↓] theorem wq_eDictP (r:MA) (env:En) (S:Sto) {Q:D→Sto→Prop}:Res.wp (ph r env S) Q E=Res.wp ((r env S).bind fun ds S=>match ds with
  | [.tpn xs]=>match fP xs with
    | some ps=>if xs.length≤1000000 then .ok (.loc S.length) (S++[.dct false (bn [] ps)]) else .stuck
    | none=>.stuck
  | _=>.stuck) Q E:=rfl
@[simp ↓] theorem wq_eDComp (mi:MI) (g:MG) (tc:MT) (mk mv:ME) (vs:List Nat) (env:En) (S:Sto) {Q:D→Sto→Prop}:Res.wp (pi mi g tc mk mv vs env S) Q E=Res.wp ((mi env S).bind fun it S=>match it with
  | .items ds=>(kd g tc mk mv (bR env vs) ds [] S).bind kD
  | .live _=>.stuck
  | .liveE _=>.stuck) Q E:=rfl
@[simp ↓] theorem wq_sRaise (C:Str) (env:En) (S:Sto):RS.wp (pj C env S) N R E B B2=RS.wp (.exc ⟨C,[]⟩ env S) N R E B B2:=rfl
@[simp ↓] theorem wq_eKind (hd:Hdr) (m:ME) (env:En) (S:Sto) {Q:D→Sto→Prop}:Res.wp (hZ hd m env S) Q E=Res.wp (jm hd (m env S)) Q E:=rfl
@[simp ↓] theorem wq_kD (kvs:List (D × D)) (S:Sto) {Q:D→Sto→Prop}:Res.wp (kD kvs S) Q E=Res.wp (.ok (.loc S.length) (S++[.dct false kvs])) Q E:=rfl
end
end DL
namespace DL
open PySem PySem.Spec PyProof.Rows L2 LamX
def dlt (a b:D):Bool:=PySem.W.dataLt (pdF a) (pdF b)
def cc (xs ys:List D):Bool:=PySem.W.rowLt (pdFs xs) (pdFs ys)
def alk (a b:D):Bool:=PySem.W.alike (pdF a) (pdF b)
def ce (xs ys:List D):Bool:=PySem.W.alikeAll (pdFs xs) (pdFs ys)
@[simp] theorem alk_int (i j:Int):alk (.int i) (.int j)=true:=by simp[alk,pdF,PySem.W.alike]
@[simp] theorem alk_str (i j:Str):alk (.str i) (.str j)=true:=by simp[alk,pdF,PySem.W.alike]
@[simp] theorem alk_tup (i j:List D):alk (.tup i) (.tup j)=ce i j:=by simp[alk,ce,pdF,PySem.W.alike]
@[simp] theorem alk_tpn (i j:List D):alk (.tpn i) (.tpn j)=ce i j:=by simp[alk,ce,pdF,PySem.W.alike]
@[simp] theorem alk_lst (i j:List D):alk (.lst i) (.lst j)=ce i j:=by simp[alk,ce,pdF,PySem.W.alike]
@[simp] theorem tB (x y:D) (i j:List D):ce (x::i) (y::j)=(alk x y&&ce i j):=by simp[alk,ce,pdFs,PySem.W.alikeAll]
@[simp] theorem tC (j:List D):ce [] j=true:=by simp[ce,pdFs,PySem.W.alikeAll]
@[simp] theorem tD (j:List D):ce j []=true:=by cases j<;>simp[ce,pdFs,PySem.W.alikeAll]
@[simp] theorem dlt_int (i j:Int):dlt (.int i) (.int j)=decide (i<j):=by unfold dlt pdF; rw[PySem.W.dataLt_int]
@[simp] theorem dlt_str (i j:Str):dlt (.str i) (.str j)=decide (i.cps.toList<j.cps.toList):=by unfold dlt pdF; rw[PySem.W.dataLt_str]
@[simp] theorem dlt_tup (i j:List D):dlt (.tup i) (.tup j)=cc i j:=by unfold dlt pdF; rw[PySem.W.dataLt_tuple]; rfl
@[simp] theorem dlt_tpn (i j:List D):dlt (.tpn i) (.tpn j)=cc i j:=by unfold dlt pdF; rw[PySem.W.dataLt_tuple]; rfl
@[simp] theorem dlt_tp (i j:List D):dlt (.tup i) (.tpn j)=cc i j:=by unfold dlt pdF; rw[PySem.W.dataLt_tuple]; rfl
@[simp] theorem dlt_pt (i j:List D):dlt (.tpn i) (.tup j)=cc i j:=by unfold dlt pdF; rw[PySem.W.dataLt_tuple]; rfl
@[simp] theorem dltAll_nil:cc [] []=false:=by unfold cc PySem.W.rowLt; exact lex_irrefl _
theorem iD {x y:D} (h:alk x y=true) (i j:List D):cc (x::i) (y::j)=if peq x y=true then cc i j else dlt x y:=by
  simp only[cc,PySem.W.rowLt,pdFs]
  exact PySem.W.dataLt_cons h _ _
@[simp] theorem dltAll_int (x y:Int) (i j:List D):cc (.int x::i) (.int y::j)=if x=y then cc i j else decide (x<y):=by
  rw[iD (by simp)]; simp
@[simp] theorem dltAll_str (x y:Str) (i j:List D):cc (.str x::i) (.str y::j)=if x=y then cc i j else decide (x.cps.toList<y.cps.toList):=by
  rw[iD (by simp)]; simp
@[simp] theorem sortOf_lst (S:Sto) (xs:List D):mQ S (.lst xs)=some xs:=rfl
end DL
namespace DL
open PySem PySem.Spec PyProof.Rows L2 LamX
/-- the dict that is told by d -/
def nw (S:Sto) (d:D) (f:Nat→Bool→List (D × D)→Prop) (_:Dum f:=.mk) (_:True:=trivial):Prop:=match d with
  | .loc l=>match S[l]? with
    | some (.dct t kvs)=>f l t kvs
    | _=>False
  | _=>False
section
variable {N B C:En→Sto→Prop} {R:D→Sto→Prop} {E:XV→Sto→Prop} {Q:D→Sto→Prop}
@[simp ↓] theorem wq_eLock (ml mb:ME) (env:En) (S:Sto):Res.wp (eLock ml mb env S) Q E=Res.wp (ml env S) (fun d _=>nw S d fun l t kvs=>Res.wp (mb env (S.set l (.fdc t kvs))) (fun d S'=>Q d (S'.set l (.dct t kvs))) NoE) NoE:=by
  unfold eLock
  cases ml env S with
  | exc _ _=>simp
  | stuck=>simp
  | ok d S1=>
    rw[dt]
    cases d<;>simp only[nw,iz]
    rename_i l
    cases S[l]? with
    | none=>simp
    | some o=>
      cases o<;>simp only[iz]
      cases mb env _<;>simp
@[simp ↓] theorem wq_sLock (ml:ME) (mb:MS) (env:En) (S:Sto):RS.wp (sLock ml mb env S) N R E B C=Res.wp (ml env S) (fun d _=>nw S d fun l t kvs=>RS.wp (mb env (S.set l (.fdc t kvs))) (fun e S'=>N e (S'.set l (.dct t kvs))) (fun d S'=>R d (S'.set l (.dct t kvs))) NoE (fun e S'=>B e (S'.set l (.dct t kvs))) (fun e S'=>C e (S'.set l (.dct t kvs)))) NoE:=by
  unfold sLock
  cases ml env S with
  | exc _ _=>simp
  | stuck=>simp
  | ok d S1=>
    rw[dt]
    cases d<;>simp only[nw,jq]
    rename_i l
    cases S[l]? with
    | none=>simp
    | some o=>
      cases o<;>simp only[jq]
      cases mb env _<;>simp
end
@[simp ↓] theorem tF (m:ME) (i:Nat) (mk:ME) (env:En) (S:Sto) {Q:D→Sto→Prop} {E:XV→Sto→Prop}:Res.wp (qG m i mk env S) Q E=Res.wp ((m env S).bind fun d S=>match mQ S d with
  | some xs=>(qE mk i env xs [] S).bindS fun ks S=>if pf ks=true∧xs.length≤1000000 then .ok (.loc S.length) (S++[.lst (qF xs ks)]) else .stuck
  | none=>.stuck) Q E:=rfl
@[simp ↓] theorem wp_bindS {α β:Type} {r:Res β} {f:β→Sto→Res α} {Q:α→Sto→Prop} {E:XV→Sto→Prop}:Res.wp (r.bindS f) Q E=Res.wp r (fun a S=>Res.wp (f a S) Q E) NoE:=by cases r<;>simp[Res.bindS]
end DL
namespace DL
open PySem PySem.Spec PyProof.Rows L2 LamX
section
variable {Q:D→Sto→Prop} {E:XV→Sto→Prop}
@[simp ↓] theorem wq_eGet (md mk mz:ME) (env:En) (S:Sto):Res.wp (eGet md mk mz env S) Q E=Res.wp ((md env S).bind fun d S=>if isD S d=true then (mk env S).bind fun k S=>(mz env S).bind fun z S=>ofO S (iB S d k z) else .stuck) Q E:=rfl
@[simp] theorem eGet_at (md mk mz:ME) (env:En) (S:Sto):eGet md mk mz env S=((md env S).bind fun d S=>if isD S d=true then (mk env S).bind fun k S=>(mz env S).bind fun z S=>ofO S (iB S d k z) else .stuck):=rfl
/-- what setdefault does at last -/
def kSetd (l:Nat) (k z:D) (S:Sto):Res D:=match S[l]? with
    | some (.dct false kvs)=>if b8 false k=true∧kvs.length<1000000 then (match dR false kvs k with
      | some v=>.ok v S
      | none=>.ok z (S.set l (.dct false (kZ false kvs k z)))) else .stuck
    | _=>.stuck
def qR (d k z:D) (S:Sto):Res D:=match d with
  | .loc l=>kSetd l k z S
  | _=>.stuck
@[simp] theorem kSetD_loc (l:Nat) (k z:D) (S:Sto):qR (.loc l) k z S=kSetd l k z S:=rfl
theorem qS (md mk mz:ME) (env:En) (S:Sto):eSetd md mk mz env S=((md env S).bind fun d S=>if isD S d=true then (mk env S).bind fun k S=>(mz env S).bind fun z S=>qR d k z S else .stuck):=rfl
@[simp ↓] theorem wq_eSetd (md mk mz:ME) (env:En) (S:Sto):Res.wp (eSetd md mk mz env S) Q E=Res.wp ((md env S).bind fun d S=>if isD S d=true then (mk env S).bind fun k S=>(mz env S).bind fun z S=>qR d k z S else .stuck) Q E:=by rw[qS]
@[simp ↓] theorem wq_eCallD (n:Nat) (d:D) (m:MF) (r:MA) (env:En) (S:Sto):Res.wp (qH n d m r env S) Q E=Res.wp ((r env S).bind fun ds S=>chk n m (ds++[d]) S) Q E:=rfl
@[simp ↓] theorem wq_eCallK (n k:Nat) (m:MF) (r rk:MA) (env:En) (S:Sto):Res.wp (qI n k m r rk env S) Q E=Res.wp ((r env S).bind fun ds S=>(rk env S).bind fun zs S=>if ds.length=k then chk n m (ds++zs) S else .stuck) Q E:=rfl
@[simp] theorem eCallD_at (n:Nat) (d:D) (m:MF) (r:MA) (env:En) (S:Sto):qH n d m r env S=((r env S).bind fun ds S=>chk n m (ds++[d]) S):=rfl
@[simp] theorem eCallK_at (n k:Nat) (m:MF) (r rk:MA) (env:En) (S:Sto):qI n k m r rk env S=((r env S).bind fun ds S=>(rk env S).bind fun zs S=>if ds.length=k then chk n m (ds++zs) S else .stuck):=rfl
end
@[simp] theorem sPar3_at (i j l:Nat) (r:MA) (env:En) (S:Sto):sPar3 i j l r env S=(r env S).rs env fun ds S=>match ds with
  | [a,b,c]=>.next (((env.set i (some a)).set j (some b)).set l (some c)) S
  | _=>.stuck:=rfl
@[simp ↓] theorem wq_sPar3 (i j l:Nat) (r:MA) (env:En) (S:Sto) {N B C:En→Sto→Prop} {R:D→Sto→Prop} {E:XV→Sto→Prop}:RS.wp (sPar3 i j l r env S) N R E B C=RS.wp ((r env S).rs env fun ds S=>match ds with
  | [a,b,c]=>.next (((env.set i (some a)).set j (some b)).set l (some c)) S
  | _=>.stuck) N R E B C:=rfl
@[simp] theorem isD_loc (S:Sto) (l:Nat):isD S (.loc l)=(bW S[l]?).isSome:=rfl
end DL
namespace DL
open PySem PySem.Spec PyProof.Rows L2
section
variable {N:En→Sto→Prop} {R:D→Sto→Prop} {E:XV→Sto→Prop} {B B2:En→Sto→Prop}
@[simp] theorem sRaiseF_at (C:Str) (ns:List Str) (r:MA) (env:En) (S:Sto):c9 C ns r env S=(r env S).rs env fun ds S=>if ds.length=ns.length∧ns≠[]∧ns.length≤1000 then .exc ⟨C,(ns.zip ds).reverse⟩ env S else .stuck:=rfl
@[simp ↓] theorem wq_sRaiseF (C:Str) (ns:List Str) (r:MA) (env:En) (S:Sto):RS.wp (c9 C ns r env S) N R E B B2=RS.wp ((r env S).rs env fun ds S=>if ds.length=ns.length∧ns≠[]∧ns.length≤1000 then .exc ⟨C,(ns.zip ds).reverse⟩ env S else .stuck) N R E B B2:=rfl
@[simp] theorem eMakeK_at (cn:Str) (n k:Nat) (mi:MF) (r rk:MA) (env:En) (S:Sto):qK cn n k mi r rk env S=(r env S).bind fun ds S=>(rk env S).bind fun zs S=>if ds.length+1=k then (chk n mi (.loc S.length::(ds++zs)) (S++[.ins cn []])).bind (fun d S'=>match d with
  | .none=>.ok (.loc S.length) S'
  | _=>.stuck) else .stuck:=rfl
@[simp ↓] theorem wq_eMakeK (cn:Str) (n k:Nat) (mi:MF) (r rk:MA) (env:En) (S:Sto) {Q:D→Sto→Prop}:Res.wp (qK cn n k mi r rk env S) Q E=Res.wp ((r env S).bind fun ds S=>(rk env S).bind fun zs S=>if ds.length+1=k then (chk n mi (.loc S.length::(ds++zs)) (S++[.ins cn []])).bind (fun d S'=>match d with
  | .none=>.ok (.loc S.length) S'
  | _=>.stuck) else .stuck) Q E:=rfl
end
end DL
namespace DL
open PySem PySem.Spec PyProof.Rows L2
def ln (cn f:Str) (op:Sto→D→D→Option D) (ma mv:ME):MS:=fun env S=>(ma env S).rs env fun o S=>match o with
  | .loc l=>match S[l]? with
    | some (.ins C fs)=>if C=cn then match fs.lookup f with
        | some a=>(mv env S).rs env fun b S=>match op S a b with
          | some d=>match S[l]? with
            | some (.ins C' fs')=>if C'=cn∧fs'.length<1000 then .next env (S.set l (.ins C' (kU f d fs'))) else .stuck
            | _=>.stuck
          | none=>.stuck
        | none=>.stuck
      else .stuck
    | _=>.stuck
  | _=>.stuck
def lp (op:Sto→D→D→Option D) (mo mi mv:ME):MS:=fun env S=>(mo env S).rs env fun o S=>match o with
  | .loc l=>(mi env S).rs env fun i S=>match fIx S (.loc l) i with
    | some a=>(mv env S).rs env fun b S=>match op S a b with
      | some d=>match cz S (.loc l) i d with
        | some S'=>.next env S'
        | none=>.stuck
      | none=>.stuck
    | none=>.stuck
  | _=>.stuck
def fMax3 (_:Sto) (ds:List D):Option D:=match ds with
  | [.int i,.int j,.int k]=>some (.int (if j>i then (if k>j then k else j) else (if k>i then k else i)))
  | _=>none
@[simp] theorem fMax3_int (S:Sto) (i j k:Int):fMax3 S [.int i,.int j,.int k]=some (.int (max (max i j) k)):=by
  unfold fMax3
  simp only[Option.some.injEq,D.int.injEq]
  split<;>split<;>omega
end DL
namespace DL
open PySem PySem.Spec PyProof.Rows L2
def js (m:ME):ME:=fun env S=>(m env S).bind fun d S=>match d with
  | .loc l=>match S[l]? with
    | some (.dct false kvs)=>.ok (.lst (kvs.map (·.2))) S
    | _=>.stuck
  | _=>.stuck
end DL
namespace DL
open PySem PySem.Spec PyProof.Rows L2
/-- the unlike ones of the first texts -/
def unl:List Str→List Str
  | []=>[]
  | x::r=>if x∈r then unl r else x::unl r
/-- how many unlike ones stand in the first i -/
def cntU (xs:List Str) (i:Nat):Nat:=(unl (xs.take i).reverse).length
/-- the texts of a list -/
def fr:List D→Option (List Str)
  | []=>some []
  | .str z::r=>(fr r).map (z::·)
  | _=>none
theorem i4:∀xs:List Str,fr (xs.map D.str)=some xs
  | []=>rfl
  | x::r=>by rw[List.map_cons,fr,i4 r]; rfl
def ny (m:ME):ME:=fun env S=>(m env S).bind fun d S=>match view S d with
  | .lst ds=>match fr ds with
    | some xs=>if xs.length≤100 then .ok (.int (cntU xs xs.length:Nat)) S else .stuck
    | none=>.stuck
  | _=>.stuck
end DL
namespace DL
open PySem PySem.Spec PyProof.Rows L2
end DL
namespace DL
open PySem PySem.Spec PyProof.Rows L2
def jt (p:D × D):D:=.tup [p.1,p.2]
def iItmD (m:ME):MI:=fun env S=>(m env S).bind fun d S=>match d with
  | .loc l=>match S[l]? with
    | some (.dct true kvs)=>.ok (.items (kvs.map jt)) (S.set l (.fdc true kvs))
    | some (.fdc false kvs)=>.ok (.items (kvs.map jt)) S
    | _=>.stuck
  | _=>.stuck
end DL
namespace DL
open PySem PySem.Spec PyProof.Rows L2
def qT (cn:Str) (n:Nat) (z:D) (mi:MF) (r:MA):ME:=fun env S=>(r env S).bind fun ds S=>(chk n mi (.loc S.length::(ds++[z])) (S++[.ins cn []])).bind fun d S'=>match d with
  | .none=>.ok (.loc S.length) S'
  | _=>.stuck
end DL
namespace DL
open PySem PySem.Spec PyProof.Rows L2
end DL
namespace DL
open PySem PySem.Spec PyProof.Rows L2 LamX PySem.W
end DL
namespace DL
open PySem PySem.Spec PyProof.Rows L2
def leS (a b:Str):Bool:=!decide (b.cps.toList<a.cps.toList)
def ju (S:Sto) (ds:List D):Option D:=match ds with
  | [.loc l]=>match bW S[l]? with
    | some (false,kvs)=>match fr (kvs.map (·.1)) with
      | some ks=>if ks.length<64 then some (.lst ((ks.mergeSort leS).map .str)) else none
      | none=>none
    | _=>none
  | _=>none
@[simp] theorem sJ {S:Sto} {l:Nat} {kvs:List (D × D)} {ks:List Str} (h:bW S[l]?=some (false,kvs)) (hk:kvs.map (·.1)=ks.map D.str) (hl:ks.length<64):ju S [.loc l]=some (.lst ((ks.mergeSort leS).map .str)):=by
  unfold ju
  simp only[h,hk,i4,if_pos hl]
end DL
namespace DL
open PySem PySem.Spec PyProof.Rows L2
def eDictC (r:MA):ME:=fun env S=>(r env S).bind fun ds S=>match ds with
  | [.loc l]=>match bW S[l]? with
    | some (false,kvs)=>.ok (.loc S.length) (S++[.dct false kvs])
    | _=>.stuck
  | _=>.stuck
variable {Q:D→Sto→Prop} {E:XV→Sto→Prop}
@[simp] theorem eDictC_at (r:MA) (env:En) (S:Sto):eDictC r env S=(r env S).bind fun ds S=>match ds with
  | [.loc l]=>match bW S[l]? with
    | some (false,kvs)=>.ok (.loc S.length) (S++[.dct false kvs])
    | _=>.stuck
  | _=>.stuck:=rfl
end DL
namespace DL
open PySem PySem.Spec PyProof.Rows L2
def rUpdK:V→List V→Hp→VK→Prop:=fun x xs H Q=>∃(a b:Addr) (kvs more:List (L2.Key × V)),x=.ref a∧xs=[.ref b]∧a≠b∧H a=some (.dK kvs)∧Rd H b (.dK more)∧kvs.length+more.length≤sizeLine∧Q .non (upd H a (.dK (mergeK kvs more)))
section
variable {X:Cx}
theorem sK:MtR X "dict.update" rUpdK:=by
  intro pins s σ H x xs v us Q I rx rxs h
  obtain ⟨a,b,kvs,more,rfl,rfl,hne,ha,hb,hsz,q⟩:=h
  cases rx
  obtain ⟨u1,rfl,r1⟩:=vals1 rxs
  cases r1
  obtain ⟨z,hd,vs,rel,dd⟩:=dk_of I.hok ha
  obtain ⟨z2,hd2,vs2,rel2,dd2⟩:=dk_rd I.hok hb
  have hl:vs.length+vs2.length≤sizeLine:=by rw[←rel.length,←rel2.length]; exact hsz
  refine call_meetsIn PySem.F.slot_dict_update dd.typeIs PySem.F.entry_dict_update (PySem.F.args_dict_update_2 _ _) (meets_dict_update (mixKind X.prog X.w) a b hne hd2) ⟨vs,vs2,dd,dd2,hl,fun h' hmm _ hs=>?_⟩
  have I2:Inv X pins σ (upd H a (.dK (mergeK kvs more))) { s with heap:=h' }:=
    d_write (t':=s.toks) I (by rw[ha]; exact True.intro) hs (by obtain ⟨o,_,_,hg,_⟩:=hmm; exact ⟨_,hg⟩) (dk_new (Nat.le_trans (length_mergeK more kvs) hsz) hd (KV.merge rel2 rel) hmm)
  exact ⟨.non,_,I2,rfl,q⟩
def lq:BM:=fun S d ds=>match d,ds with
  | .loc l,[.loc m]=>if l=m then none else match S[l]?,bW S[m]? with
    | some (.dct false kvs),some (false,more)=>if kvs.length+more.length≤1000000 then some (.none,S.set l (.dct false (bn kvs more))) else none
    | _,_=>none
  | _,_=>none
theorem m_updD:MtR X "dict.update" (rM X.K X.mg lq):=gp sK fun x xs H Q ⟨μ,S,d,ds,r,S',rs,rd,rds,e,q⟩=>by
  unfold lq at e
  split at e
  · rename_i l m
    unfold Rep at rd
    obtain ⟨ad,rfl,hμ⟩:=rd
    obtain ⟨v,rfl,rv⟩:=bC rds
    unfold Rep at rv
    obtain ⟨bd,rfl,hν⟩:=rv
    split at e
    · cases e
    · rename_i hlm
      split at e
      · rename_i kvs more es em
        split at e
        · rename_i hsz
          cases e
          obtain ⟨a',h1,vs,ks,⟨h2,h3⟩,h4⟩:=rs.at_ _ _ es
          rw[hμ] at h1; cases h1
          have key:∃vs,∃ks:List L2.Key,(Rd H bd (.dK (ks.zip vs))∧more.map (·.1)=ks.map cV)∧RepAll X.K X.mg μ H (more.map (·.2)) vs:=by
            rcases fj em with es|es
            · obtain ⟨a',h1,vs,ks,⟨h2,h3⟩,h4⟩:=rs.at_ _ _ es
              rw[hν] at h1; cases h1
              exact ⟨vs,ks,⟨.of h2,h3⟩,h4⟩
            · obtain ⟨a',h1,vs,ks,⟨⟨od,h2⟩,h3⟩,h4⟩:=rs.at_ _ _ es
              rw[hν] at h1; cases h1
              exact ⟨vs,ks,⟨.inr ⟨od,h2⟩,h3⟩,h4⟩
          obtain ⟨vs2,ks2,⟨g2,g3⟩,g4⟩:=key
          have hne:ad≠bd:=fun e=>hlm (by
            subst e
            obtain ⟨l1,p1⟩:=List.getElem?_eq_some_iff.mp hμ
            obtain ⟨l2,p2⟩:=List.getElem?_eq_some_iff.mp hν
            exact (List.getElem_inj rs.nd).mp (p1.trans p2.symm))
          have n1:ks.length=vs.length:=by
            have e1:=congrArg List.length h3
            have e2:=h4.length
            simp at e1 e2
            omega
          have n2:ks2.length=vs2.length:=by
            have e1:=congrArg List.length g3
            have e2:=g4.length
            simp at e1 e2
            omega
          have k1:kvs.length=ks.length:=by have:=congrArg List.length h3; simpa using this
          have k2:more.length=ks2.length:=by have:=congrArg List.length g3; simpa using this
          have z1:(ks2.zip vs2).map (·.1)=ks2:=by rw[List.map_fst_zip]; omega
          have z2:(ks2.zip vs2).map (·.2)=vs2:=by rw[List.map_snd_zip]; omega
          obtain ⟨ks',vs',m1,m2,m3⟩:=kc (ps:=more) (kvs:=ks2.zip vs2) (ds:=kvs) (acc:=ks.zip vs) (by
            rw[g3]
            conv=>lhs; rw[←z1]
            rw[List.map_map]
            rfl) (by rw[z2]; exact g4) ⟨ks,vs,rfl,h3,h4⟩
          refine ⟨ad,bd,ks.zip vs,ks2.zip vs2,rfl,rfl,hne,h2,g2,bh (by rw[List.length_zip,List.length_zip]; omega),?_⟩
          rw[m1]
          have st:Step μ H μ (upd H ad (.dK (ks'.zip vs'))):=Step.write rs hμ (.of h2)
          exact q μ _ .non st (rs.write hμ (.of h2) ⟨vs',ks',⟨upd_same,m2⟩,RepAll.step st _ _ m3⟩) (by unfold Rep; rfl)
        · cases e
      · cases e
  · cases e
end
end DL
namespace DL
open PySem PySem.Spec PyProof.Rows L2
def eDictL (r:MA):ME:=fun env S=>(r env S).bind fun ds S=>match ds with
  | [.lst xs]=>match fP xs with
    | some ps=>if xs.length≤1000000 then .ok (.loc S.length) (S++[.dct false (bn [] ps)]) else .stuck
    | none=>.stuck
  | _=>.stuck
@[simp] theorem eDictL_at (r:MA) (env:En) (S:Sto):eDictL r env S=(r env S).bind fun ds S=>match ds with
  | [.lst xs]=>match fP xs with
    | some ps=>if xs.length≤1000000 then .ok (.loc S.length) (S++[.dct false (bn [] ps)]) else .stuck
    | none=>.stuck
  | _=>.stuck:=rfl
end DL
namespace DL
open PySem PySem.Spec PyProof.Rows L2
section
variable {N:En→Sto→Prop} {R:D→Sto→Prop} {E:XV→Sto→Prop} {B B2:En→Sto→Prop} {Q:D→Sto→Prop}
@[simp] theorem tH (cn f:Str) (op:Sto→D→D→Option D) (ma mv:ME) (env:En) (S:Sto):ln cn f op ma mv env S=(ma env S).rs env fun o S=>match o with
  | .loc l=>match S[l]? with
    | some (.ins C fs)=>if C=cn then match fs.lookup f with
        | some a=>(mv env S).rs env fun b S=>match op S a b with
          | some d=>match S[l]? with
            | some (.ins C' fs')=>if C'=cn∧fs'.length<1000 then .next env (S.set l (.ins C' (kU f d fs'))) else .stuck
            | _=>.stuck
          | none=>.stuck
        | none=>.stuck
      else .stuck
    | _=>.stuck
  | _=>.stuck:=rfl
@[simp ↓] theorem tJ (cn f:Str) (op:Sto→D→D→Option D) (ma mv:ME) (env:En) (S:Sto):RS.wp (ln cn f op ma mv env S) N R E B B2=RS.wp ((ma env S).rs env fun o S=>match o with
  | .loc l=>match S[l]? with
    | some (.ins C fs)=>if C=cn then match fs.lookup f with
        | some a=>(mv env S).rs env fun b S=>match op S a b with
          | some d=>match S[l]? with
            | some (.ins C' fs')=>if C'=cn∧fs'.length<1000 then .next env (S.set l (.ins C' (kU f d fs'))) else .stuck
            | _=>.stuck
          | none=>.stuck
        | none=>.stuck
      else .stuck
    | _=>.stuck
  | _=>.stuck) N R E B B2:=rfl
@[simp] theorem tK (op:Sto→D→D→Option D) (mo mi mv:ME) (env:En) (S:Sto):lp op mo mi mv env S=(mo env S).rs env fun o S=>match o with
  | .loc l=>(mi env S).rs env fun i S=>match fIx S (.loc l) i with
    | some a=>(mv env S).rs env fun b S=>match op S a b with
      | some d=>match cz S (.loc l) i d with
        | some S'=>.next env S'
        | none=>.stuck
      | none=>.stuck
    | none=>.stuck
  | _=>.stuck:=rfl
@[simp ↓] theorem tL (op:Sto→D→D→Option D) (mo mi mv:ME) (env:En) (S:Sto):RS.wp (lp op mo mi mv env S) N R E B B2=RS.wp ((mo env S).rs env fun o S=>match o with
  | .loc l=>(mi env S).rs env fun i S=>match fIx S (.loc l) i with
    | some a=>(mv env S).rs env fun b S=>match op S a b with
      | some d=>match cz S (.loc l) i d with
        | some S'=>.next env S'
        | none=>.stuck
      | none=>.stuck
    | none=>.stuck
  | _=>.stuck) N R E B B2:=rfl
@[simp] theorem sL (m:ME) (env:En) (S:Sto):js m env S=(m env S).bind fun d S=>match d with
  | .loc l=>match S[l]? with
    | some (.dct false kvs)=>.ok (.lst (kvs.map (·.2))) S
    | _=>.stuck
  | _=>.stuck:=rfl
@[simp ↓] theorem sM (m:ME) (env:En) (S:Sto):Res.wp (js m env S) Q E=Res.wp ((m env S).bind fun d S=>match d with
  | .loc l=>match S[l]? with
    | some (.dct false kvs)=>.ok (.lst (kvs.map (·.2))) S
    | _=>.stuck
  | _=>.stuck) Q E:=rfl
@[simp] theorem eLenSet_at (m:ME) (env:En) (S:Sto):ny m env S=(m env S).bind fun d S=>match view S d with
  | .lst ds=>match fr ds with
    | some xs=>if xs.length≤100 then .ok (.int (cntU xs xs.length:Nat)) S else .stuck
    | none=>.stuck
  | _=>.stuck:=rfl
@[simp ↓] theorem wq_eLenSet (m:ME) (env:En) (S:Sto):Res.wp (ny m env S) Q E=Res.wp ((m env S).bind fun d S=>match view S d with
  | .lst ds=>match fr ds with
    | some xs=>if xs.length≤100 then .ok (.int (cntU xs xs.length:Nat)) S else .stuck
    | none=>.stuck
  | _=>.stuck) Q E:=rfl
@[simp] theorem iItmD_at (m:ME) (env:En) (S:Sto):iItmD m env S=(m env S).bind fun d S=>match d with
  | .loc l=>match S[l]? with
    | some (.dct true kvs)=>.ok (.items (kvs.map jt)) (S.set l (.fdc true kvs))
    | some (.fdc false kvs)=>.ok (.items (kvs.map jt)) S
    | _=>.stuck
  | _=>.stuck:=rfl
@[simp ↓] theorem wq_iItmD (m:ME) (env:En) (S:Sto) {Q:ItD→Sto→Prop}:Res.wp (iItmD m env S) Q E=Res.wp ((m env S).bind fun d S=>match d with
  | .loc l=>match S[l]? with
    | some (.dct true kvs)=>.ok (.items (kvs.map jt)) (S.set l (.fdc true kvs))
    | some (.fdc false kvs)=>.ok (.items (kvs.map jt)) S
    | _=>.stuck
  | _=>.stuck) Q E:=rfl
@[simp] theorem eMakeD_at (cn:Str) (n:Nat) (z:D) (mi:MF) (r:MA) (env:En) (S:Sto):qT cn n z mi r env S=(r env S).bind fun ds S=>(chk n mi (.loc S.length::(ds++[z])) (S++[.ins cn []])).bind fun d S'=>match d with
  | .none=>.ok (.loc S.length) S'
  | _=>.stuck:=rfl
@[simp ↓] theorem wq_eMakeD (cn:Str) (n:Nat) (z:D) (mi:MF) (r:MA) (env:En) (S:Sto):Res.wp (qT cn n z mi r env S) Q E=Res.wp ((r env S).bind fun ds S=>(chk n mi (.loc S.length::(ds++[z])) (S++[.ins cn []])).bind fun d S'=>match d with
  | .none=>.ok (.loc S.length) S'
  | _=>.stuck) Q E:=rfl
end
end DL
namespace DL
open PySem PySem.Spec PyProof.Rows L2 LamX
/-- a list,told by itself or as it stands in the store -/
def LV (S:Sto) (v:D) (xs:List D):Prop:=v=.lst xs∨∃l,v=.loc l∧S[l]?=some (.lst xs)
section
variable {S:Sto} {v:D} {xs:List D}
theorem LV.lst:LV S (.lst xs) xs:=.inl rfl
theorem LV.loc {l:Nat} (h:S[l]?=some (.lst xs)):LV S (.loc l) xs:=.inr ⟨l,rfl,h⟩
theorem LV.view0 (h:LV S v xs):view0 S v=.lst xs:=by
  rcases h with rfl|⟨l,rfl,e⟩
  · rfl
  · simp[e]
theorem LV.view (h:LV S v xs):view S v=.lst xs:=by
  unfold DL.view
  rw[h.view0]; rfl
theorem LV.len (h:LV S v xs):aq S [v]=some (.int xs.length):=by
  rcases h with rfl|⟨l,rfl,e⟩
  · rfl
  · exact qQ e
theorem LV.ty (h:LV S v xs):dI S v=some "list":=by
  rcases h with rfl|⟨l,rfl,e⟩
  · rfl
  · simp[dI,e]
end
section
variable {α β:Type} {N B C:En→Sto→Prop} {R:D→Sto→Prop} {E:XV→Sto→Prop} {S:Sto} {env:En}
theorem qU {τ:Type} {g:MG} {b:MS} {f:τ→D} {l:Nat} (xs:List τ) (I:List τ→List τ→En→Sto→Prop) (keep:∀pre rest env S,pre++rest=xs→I pre rest env S→S[l]?=some (.lst (xs.map f))) (h:I [] xs env S)
    (step:∀pre x rest env S,pre++x::rest=xs→I pre (x::rest) env S→∃p,g (.tup [.int (pre.length:Nat),f x]) env S=some p∧RS.wp (b p.1 p.2) (I (pre++[x]) rest) R E N (I (pre++[x]) rest))
    (fin:∀env S,I xs [] env S→N env S):RS.wp (dm g b l (eu S l+1) 0 env S) N R E B C:=by
  have hlen:eu S l=xs.length:=by
    have:=keep [] xs env S rfl h
    simp[eu,this]
  rw[hlen]
  have loop:∀(rest pre:List τ) (env:En) (S:Sto),pre++rest=xs→I pre rest env S→RS.wp (dm g b l (rest.length+1) pre.length env S) N R E B C:=by
    intro rest
    induction rest with
    | nil=>
      intro pre env S e h
      have hk:=keep pre [] env S e h
      rw[List.append_nil] at e
      unfold dm
      simp only[hk]
      rw[show (xs.map f)[pre.length]?=none by rw[←e]; simp]
      simp only[du]
      rw[e] at h
      exact fin env S h
    | cons x rest ih=>
      intro pre env S e h
      have hk:=keep pre (x::rest) env S e h
      obtain ⟨p,e1,hb⟩:=step pre x rest env S e h
      rw[List.length_cons]
      unfold dm
      simp only[hk]
      rw[show (xs.map f)[pre.length]?=some (f x) by rw[←e]; simp]
      simp only[e1]
      have hl:(pre++[x]).length=pre.length+1:=by simp
      generalize b p.1 p.2=y at hb
      cases y with
      | next e' S'=>rw[du] at hb; simpa only [hl] using ih (pre++[x]) e' S' (by rw[←e]; simp) hb
      | cont e' S'=>rw[i3] at hb; simpa only [hl] using ih (pre++[x]) e' S' (by rw[←e]; simp) hb
      | brk e' S'=>simpa using hb
      | ret d S'=>simpa using hb
      | exc x e' S'=>simpa using hb
      | stuck=>simpa using hb
  exact loop xs [] env S rfl h
theorem i5 {τ:Type} {g:MG} {b:MS} {f:τ→D} (I:List τ→List τ→En→Sto→Prop) {xs:List τ}
    (step:∀pre x rest env S,pre++x::rest=xs→I pre (x::rest) env S→∃p,g (.tup [.int (pre.length:Nat),f x]) env S=some p∧RS.wp (b p.1 p.2) (I (pre++[x]) rest) R E N (I (pre++[x]) rest))
    (fin:∀env S,I xs [] env S→N env S):∀(rest pre:List τ) (env:En) (S:Sto),pre++rest=xs→I pre rest env S→RS.wp (cp g b (bp pre.length (rest.map f)) env S) N R E B C
  | [],pre,env,S,e,h=>by
    rw[List.append_nil] at e
    rw[e] at h
    show RS.wp (.next env S) N R E B C
    rw[du]
    exact fin env S h
  | x::rest,pre,env,S,e,h=>by
    obtain ⟨p,e1,hb⟩:=step pre x rest env S e h
    have hl:(pre++[x]).length=pre.length+1:=by simp
    show RS.wp (match g (.tup [.int (pre.length:Nat),f x]) env S with
    | none=>.stuck
    | some p=>match b p.1 p.2 with
      | .next env S=>cp g b (bp (pre.length+1) (rest.map f)) env S
      | .cont env S=>cp g b (bp (pre.length+1) (rest.map f)) env S
      | .brk env S=>.next env S
      | .ret d S=>.ret d S
      | .exc e env S=>.exc e env S
      | .stuck=>.stuck) N R E B C
    simp only[e1]
    generalize b p.1 p.2=y at hb
    cases y with
    | next e' S'=>rw[du] at hb; simpa only [hl] using i5 I step fin rest (pre++[x]) e' S' (by rw[←e]; simp) hb
    | cont e' S'=>rw[i3] at hb; simpa only [hl] using i5 I step fin rest (pre++[x]) e' S' (by rw[←e]; simp) hb
    | brk e' S'=>simpa using hb
    | ret d S'=>simpa using hb
    | exc x e' S'=>simpa using hb
    | stuck=>simpa using hb
/-- for i,x in enumerate(v) -/
theorem i6 {τ:Type} {r:MA} {v:D} {g:MG} {b:MS} {f:τ→D} (xs:List τ) (I:List τ→List τ→En→Sto→Prop) (hm:r env S=.ok [v] S) (hv:LV S v (xs.map f)) (keep:∀pre rest env S,pre++rest=xs→I pre rest env S→LV S v (xs.map f)) (h:I [] xs env S)
    (step:∀pre x rest env S,pre++x::rest=xs→I pre (x::rest) env S→∃p,g (.tup [.int (pre.length:Nat),f x]) env S=some p∧RS.wp (b p.1 p.2) (I (pre++[x]) rest) R E N (I (pre++[x]) rest))
    (fin:∀env S,I xs [] env S→N env S):RS.wp (fW (eR r) g b env S) N R E B C:=by
  rcases hv with rfl|⟨l,rfl,e⟩
  · have:eR r env S=.ok (.items (bp 0 (xs.map f))) S:=by simp[hm]
    unfold fW
    rw[this]
    show RS.wp (cp g b (bp 0 (xs.map f)) env S) N R E B C
    exact i5 I step fin xs [] env S rfl h
  · have:eR r env S=.ok (.liveE l) S:=by
      simp only[oh,hm,Res.bind,List.map_cons,List.map_nil]
      show (match S[l]? with|some (.lst _)=>Res.ok (ItD.liveE l) S|_=>.stuck)=_
      rw[e]
    unfold fW
    rw[this]
    show RS.wp (dm g b l (eu S l+1) 0 env S) N R E B C
    refine qU xs I (fun pre rest env S hp hI=>?_) h step fin
    rcases keep pre rest env S hp hI with z|⟨l',z,e'⟩
    · cases z
    · cases z; exact e'
end
end DL
namespace DL
open PySem PySem.Spec PyProof.Rows L2
section
variable {X:Cx} {W:WX} {e o:Expr} {es:List Expr} {pos apos:Pos} {k:Nat}
/-- an attribute as a target -/
def gFld (cn g:Str) (mo:ME):MG:=fun v env S=>match mo env S with
  | .ok (.loc l) S1=>match S1[l]? with
    | some (.ins C fs)=>if C=cn∧fs.length<1000 then some (env,S1.set l (.ins C (kU g v fs))) else none
    | _=>none
  | _=>none
end
end DL
namespace DL
open PySem PySem.Spec PyProof.Rows L2
end DL
namespace DL
open PySem PySem.Spec PyProof.Rows L2
end DL
namespace DL
open PySem PySem.Spec PyProof.Rows L2
end DL
namespace DL
open PySem PySem.Spec PyProof.Rows L2
structure KdF (K:PySem.W.Frag) (w:World) (a:Addr) (tbl:List (Str × Int)):Prop where
  at_:∃es n,KDict K w a es n
  ns:∀x,∃r,PySem.W.nsIn K a x=some r∧r.isSome=(tbl.map (·.1)).contains x∧∀i,tbl.lookup x=some i→∃t,r=some (.int i t)
theorem ns_kv {x:Str}:∀ {es:List DictEntry} {tbl:List (Str × Int)},es.map kvOf=tbl.map some→
    (es.any fun e=>e.refKey)=false∧((es.find? fun e=>e.key.isStr x).map (·.val)).isSome=(tbl.map (·.1)).contains x∧∀i,tbl.lookup x=some i→∃t,(es.find? fun e=>e.key.isStr x).map (·.val)=some (.int i t)
  | [],[],_=>by simp
  | [],_::_,h=>by simp at h
  | _::_,[],h=>by simp at h
  | e::es,(k,i)::tbl,h=>by
    rw[List.map_cons,List.map_cons,List.cons.injEq] at h
    obtain ⟨h1,h2⟩:=h
    obtain ⟨a,b,c⟩:=ns_kv (x:=x) h2
    obtain ⟨hash,key,val⟩:=e
    unfold kvOf at h1
    split at h1
    · rename_i y t i' t' e1 e2
      dsimp only at e1 e2
      subst e1 e2
      simp only[Option.some.injEq,Prod.mk.injEq] at h1
      obtain ⟨rfl,rfl⟩:=h1
      refine ⟨by rw[List.any_cons,a]; rfl,?_,?_⟩
      · rw[List.find?_cons,List.map_cons,List.contains_cons]
        show (Option.map (·.val) (match y == x with|true=>some ⟨hash,.str y t,.int i' t'⟩|false=>es.find? fun e=>e.key.isStr x)).isSome=(x == y||(tbl.map (·.1)).contains x)
        by_cases hxy:y=x
        · subst hxy; simp
        · have h1:(y == x)=false:=by simpa using hxy
          have h2:(x == y)=false:=by simpa using Ne.symm hxy
          rw[h1,h2,Bool.false_or]
          exact b
      · intro j hj
        rw[List.find?_cons]
        show ∃t_1,Option.map (·.val) (match y == x with|true=>some ⟨hash,.str y t,.int i' t'⟩|false=>es.find? fun e=>e.key.isStr x)=some (.int j t_1)
        rw[List.lookup_cons] at hj
        by_cases hxy:y=x
        · subst hxy
          simp at hj ⊢
          exact hj
        · have h1:(y == x)=false:=by simpa using hxy
          have h2:(x == y)=false:=by simpa using Ne.symm hxy
          rw[h2] at hj
          rw[h1]
          exact c j hj
    · cases h1
theorem kdF_of {K:PySem.W.Frag} {w:World} {a:Addr} {tbl:List (Str × Int)} (h:∃es n,KDict K w a es n) (hb:kdVB K a tbl=true):KdF K w a tbl:=by
  refine ⟨h,fun x=>?_⟩
  obtain ⟨es,n,D⟩:=h
  unfold kdVB at hb
  rw[D.at_] at hb
  have hb:=of_decide_eq_true hb
  obtain ⟨h1,h2,h3⟩:=ns_kv (x:=x) hb
  refine ⟨(es.toList.find? fun e=>e.key.isStr x).map (·.val),?_,h2,h3⟩
  unfold PySem.W.nsIn
  rw[D.at_]
  dsimp only
  cases es.toList.find? fun e=>e.key.isStr x with
  | some e=>rfl
  | none=>simp only[h1]; rfl
def iE (neg:Bool) (tbl:List (Str × Int)) (m:ME):ME:=fun env S=>(m env S).bind fun d S=>match d with
  | .str x=>.ok (.bool (if neg then !(tbl.map (·.1)).contains x else (tbl.map (·.1)).contains x)) S
  | _=>.stuck
def i7 (tbl:List (Str × Int)) (m:ME):ME:=fun env S=>(m env S).bind fun d S=>match d with
  | .str x=>ofO S ((tbl.lookup x).map .int)
  | _=>.stuck
section
variable {X:Cx} {W:WX} {e:Expr} {m:ME} {p pos:Pos} {nm:Str} {a:Addr} {tbl:List (Str × Int)}
theorem qV {neg:Bool} {r:R2} (F:KdF X.K X.w a tbl) (hm:X.mg nm=some (.ref a)) (hr:∀z b H Q,(∃r0,PySem.W.nsIn X.K a z=some r0∧b=(if neg then !r0.isSome else r0.isSome)∧Q (.bl b) H)→r (.str z) (.ref a) H Q) {σ:L2.St} {H:Hp} {Q:VK} (h:tE X W (iE neg tbl m) σ H Q):tOp r (tE X W m) (tE X W (eC (.glo nm))) σ H Q:=by
  obtain ⟨env,S,μ,rl,o⟩:=h
  refine ⟨env,S,μ,rl,(Out.bind o).mono fun x H1 ⟨μ1,S1,d,st,rs,rd,o1⟩=>?_⟩
  split at o1
  · rename_i x'
    obtain rfl:=(RepW.str (by exact rd.w))
    refine ⟨env,S1,μ1,⟨rl.env.step st,rs⟩,fun μ2 H2 y st2 rs2 ry=>?_⟩
    unfold Rep at ry
    obtain ⟨a',rfl,hm'⟩:=ry
    rw[hm] at hm'
    cases hm'
    obtain ⟨r0,h1,h2,_⟩:=F.ns x'
    exact hr _ _ _ _ ⟨r0,h1,rfl,o1 μ2 H2 _ st2 rs2 (by rw[h2]; exact bI _)⟩
  · exact o1.elim
theorem nz {op:CmpOp} {neg:Bool} (hop:(op=.In∧neg=false)∨(op=.NotIn∧neg=true)) (F:KdF X.K X.w a tbl) (hm:X.mg nm=some (.ref a)) (hg:Gl X nm) (he:PE X e (tE X W m)) (hd:(nm == ("__debug__":Str))=false:=by decide) :
    PT X (.Compare e [op] [.Name nm p] pos) (tT X W (tOf (iE neg tbl m))):=by
  obtain ⟨es,n,D⟩:=F.at_
  rcases hop with ⟨rfl,rfl⟩|⟨rfl,rfl⟩
  · exact jc (pt_cmpR (op_in_kd D) he (a7 hg hm hd) rfl) fun σ H Q h=>qV F hm (fun z b H Q ⟨r0,h1,h2,h3⟩=>⟨z,r0,rfl,rfl,h1,by subst h2; exact h3⟩) (t_of h)
  · exact jc (pt_cmpR (op_notIn_kd D) he (a7 hg hm hd) rfl) fun σ H Q h=>qV F hm (fun z b H Q ⟨r0,h1,h2,h3⟩=>⟨z,r0,rfl,rfl,h1,by subst h2; exact h3⟩) (t_of h)
theorem n4 (F:KdF X.K X.w a tbl) (hm:X.mg nm=some (.ref a)) (hg:Gl X nm) (he:PE X e (tE X W m)) (hs:PlainIx e:=by exact fun _ _=>rfl) (hd:(nm == ("__debug__":Str))=false:=by decide) :
    PE X (.Subscript (.Name nm p) e pos) (tE X W (i7 tbl m)):=by
  obtain ⟨es,n,D⟩:=F.at_
  refine bf (pe_ix ix_kdict (a7 (W:=W) hg hm hd) he hs) fun σ H Q ⟨env,S,μ,rl,o⟩=>?_
  refine ⟨env,S,μ,rl,fun μ0 H0 y st0 rs0 ry=>?_⟩
  unfold Rep at ry
  obtain ⟨a',rfl,hm'⟩:=ry
  rw[hm] at hm'
  cases hm'
  refine ⟨env,S,μ0,⟨rl.env.step st0,rs0⟩,(Out.of_step st0 (Out.bind o)).mono fun x H1 ⟨μ1,S1,d,st,rs,rd,o1⟩=>?_⟩
  split at o1
  · rename_i x'
    obtain rfl:=(RepW.str (by exact rd.w))
    obtain ⟨r0,h1,_,h2⟩:=F.ns x'
    cases hl:tbl.lookup x' with
    | none=>rw[hl] at o1; exact o1.elim
    | some i=>
      rw[hl] at o1
      obtain ⟨t,rfl⟩:=h2 i hl
      exact ⟨a,x',.int i,rfl,rfl,⟨es,n,_,D.at_,D.lit,h1,⟨t,rfl⟩⟩,o1 μ1 H1 _ .refl rs (au i)⟩
  · exact o1.elim
end
end DL
namespace DL
open PySem PySem.Spec PyProof.Rows L2
def hM:Nat:=2 ^ 64
def hP1:Nat:=11400714785074694791
def hP2:Nat:=14029467366897019727
def hP5:Nat:=2870177450012600261
def hQ1:Nat:=614540362697595703
def hQ2:Nat:=839798700976720815
def hC:Nat:=2870177450013471924
def hRot (x:Nat):Nat:=x*2 ^ 31 % hM+x / 2 ^ 33
def hF (a:Nat):Nat:=hRot ((hP5+a*hP2) % hM)*hP1 % hM
def hG (a:Nat):Nat:=hF a*hQ2 % hM
def unrot (v:Nat):Nat:=(v % 2 ^ 31)*2 ^ 33+v / 2 ^ 31
def hT0:Nat:=unrot ((hM - 1 - hC)*hQ1 % hM)*hQ2 % hM
def mq (r:Int × Int):Bool:=decide (0≤r.1)&&decide (r.1<61)&&decide (0≤r.2)&&decide (r.2<10000)
end DL
namespace DL
open PySem PySem.Spec PyProof.Rows L2
/-- dict(d),a copy of a dict of rides -/
def n5 (r:MA):ME:=fun env S=>(r env S).bind fun ds S=>match ds with
  | [.loc l]=>match bW S[l]? with
    | some (true,kvs)=>if (kvs.all fun p=>match p.1 with
      | .tup [.int x,.int y]=>mq (x,y)
      | _=>false)=true then .ok (.loc S.length) (S++[.dct true kvs]) else .stuck
    | _=>.stuck
  | _=>.stuck
@[simp] theorem eDictCT_at (r:MA) (env:En) (S:Sto):n5 r env S=(r env S).bind fun ds S=>match ds with
  | [.loc l]=>match bW S[l]? with
    | some (true,kvs)=>if (kvs.all fun p=>match p.1 with
      | .tup [.int x,.int y]=>mq (x,y)
      | _=>false)=true then .ok (.loc S.length) (S++[.dct true kvs]) else .stuck
    | _=>.stuck
  | _=>.stuck:=rfl
end DL
namespace DL
open PySem PySem.Spec PyProof.Rows L2
end DL
namespace DL
open PySem PySem.Spec PyProof.Rows L2
def qW (r:MA):ME:=fun env S=>(r env S).bind fun ds S=>match ds.map (view S) with
  | [.lst ys]=>.ok (.loc S.length) (S++[.lst ys])
  | _=>.stuck
def eCutM (m:ME) (ml mh:MP):ME:=fun env S=>(m env S).bind fun d S=>(ml env S).bind fun lo S=>(mh env S).bind fun hi S=>match view0 S d with
  | .lst xs=>.ok (.loc S.length) (S++[.lst (dX xs lo hi)])
  | _=>.stuck
@[simp] theorem eListM_at (r:MA) (env:En) (S:Sto):qW r env S=(r env S).bind fun ds S=>match ds.map (view S) with
  | [.lst ys]=>.ok (.loc S.length) (S++[.lst ys])
  | _=>.stuck:=rfl
@[simp] theorem eCutM_at (m:ME) (ml mh:MP) (env:En) (S:Sto):eCutM m ml mh env S=(m env S).bind fun d S=>(ml env S).bind fun lo S=>(mh env S).bind fun hi S=>match view0 S d with
  | .lst xs=>.ok (.loc S.length) (S++[.lst (dX xs lo hi)])
  | _=>.stuck:=rfl
end DL
namespace DL
open PySem PySem.Spec PyProof.Rows L2
@[simp] theorem dw (neg:Bool) (tbl:List (Str × Int)) (m:ME) (env:En) (S:Sto):iE neg tbl m env S=(m env S).bind fun d S=>match d with
  | .str x=>.ok (.bool (if neg then !(tbl.map (·.1)).contains x else (tbl.map (·.1)).contains x)) S
  | _=>.stuck:=rfl
@[simp] theorem fG (tbl:List (Str × Int)) (m:ME) (env:En) (S:Sto):i7 tbl m env S=(m env S).bind fun d S=>match d with
  | .str x=>ofO S ((tbl.lookup x).map .int)
  | _=>.stuck:=rfl
end DL
namespace DL
open PySem PySem.Spec PyProof.Rows L2 LamX
section
variable {Q:D→Sto→Prop} {E:XV→Sto→Prop} {N B C:En→Sto→Prop} {R:D→Sto→Prop}
@[simp ↓] theorem wq_eCompX (mi:MI) (g:MG) (m:ME) (vs:List Nat) (env:En) (S:Sto):Res.wp (eCompX mi g m vs env S) Q E=Res.wp ((mZ mi g m vs env S).bind fun ds S=>.ok (.lst ds) S) Q E:=rfl
@[simp] theorem compRX_at (mi:MI) (g:MG) (m:ME) (vs:List Nat) (env:En) (S:Sto):mZ mi g m vs env S=(mi env S).bind fun it S=>match it with
  | .items ds=>gt g m (bR env vs) ds [] S
  | .live l=>mY g m (bR env vs) l (eu S l+1) 0 [] S
  | .liveE _=>.stuck:=rfl
@[simp] theorem compIX_nil (g:MG) (m:ME) (w:En) (acc:List D) (S:Sto):gt g m w [] acc S=.ok acc S:=rfl
@[simp] theorem tN (g:MG) (m:ME) (w:En) (d:D) (ds acc:List D) (S:Sto):gt g m w (d::ds) acc S=(nq g m w d acc S).bind fun acc S=>gt g m w ds acc S:=rfl
@[simp] theorem turnX_at (g:MG) (m:ME) (w:En) (d:D) (acc:List D) (S:Sto):nq g m w d acc S=match g d w S with
  | none=>.stuck
  | some p=>(m p.1 p.2).bind fun v S3=>if acc.length<1000000 then .ok (acc++[v]) S3 else .stuck:=rfl
@[simp] theorem gFld_at (cn g:Str) (mo:ME) (v:D) (env:En) (S:Sto):gFld cn g mo v env S=match mo env S with
  | .ok (.loc l) S1=>match S1[l]? with
    | some (.ins C fs)=>if C=cn∧fs.length<1000 then some (env,S1.set l (.ins C (kU g v fs))) else none
    | _=>none
  | _=>none:=rfl
def isRd:D→Bool
  | .tup [.int x,.int y]=>mq (x,y)
  | _=>false
@[simp ↓] theorem wq_eDictCT (r:MA) (env:En) (S:Sto):Res.wp (n5 r env S) Q E=Res.wp ((r env S).bind fun ds S=>match ds with
  | [.loc l]=>match bW S[l]? with
    | some (true,kvs)=>if (kvs.all fun p=>isRd p.1)=true then .ok (.loc S.length) (S++[.dct true kvs]) else .stuck
    | _=>.stuck
  | _=>.stuck) Q E:=rfl
@[simp ↓] theorem wq_eListM (r:MA) (env:En) (S:Sto):Res.wp (qW r env S) Q E=Res.wp ((r env S).bind fun ds S=>match ds.map (view S) with
  | [.lst ys]=>.ok (.loc S.length) (S++[.lst ys])
  | _=>.stuck) Q E:=rfl
@[simp ↓] theorem wq_eCutM (m:ME) (ml mh:MP) (env:En) (S:Sto):Res.wp (eCutM m ml mh env S) Q E=Res.wp ((m env S).bind fun d S=>(ml env S).bind fun lo S=>(mh env S).bind fun hi S=>match view0 S d with
  | .lst xs=>.ok (.loc S.length) (S++[.lst (dX xs lo hi)])
  | _=>.stuck) Q E:=rfl
end
end DL
namespace DL
open PySem PySem.Spec PyProof.Rows L2
end DL
namespace DL
open PySem PySem.Spec PyProof.Rows L2
/-- what a list holds is named -/
def gTupL (n:Nat) (gs:MGs):MG:=fun d env S=>match view0 S d with
  | .lst ds=>if ds.length=n then gs ds env S else none
  | _=>none
@[simp] theorem gTupL_at (n:Nat) (gs:MGs) (d:D) (env:En) (S:Sto):gTupL n gs d env S=match view0 S d with
  | .lst ds=>if ds.length=n then gs ds env S else none
  | _=>none:=rfl
@[simp ↓] theorem wq_eCatM {Q:D→Sto→Prop} {E:XV→Sto→Prop} (ma mb:ME) (env:En) (S:Sto):Res.wp (eCatM ma mb env S) Q E=Res.wp ((ma env S).bind fun a S=>(mb env S).bind fun b S=>match view0 S a,view0 S b with
  | .lst xs,.lst ys=>if xs.length+ys.length≤1000000 then .ok (.loc S.length) (S++[.lst (xs++ys)]) else .stuck
  | _,_=>.stuck) Q E:=rfl
end DL
namespace DL
open PySem PySem.Spec PyProof.Rows L2 LamX
theorem LamHere.blk {X:Cx} {p:Str × Option Str} (lh:LamHere X p) {s:Shared} {H:Hp} {sc:Scope} {cl:List (Str × Addr)} {C:Addr} {fp:List Addr}:LamHere (X.blk s H sc (compEnvC sc cl C X.env) fp) p:=⟨lh.tb,lh.code,lh.mem,lh.uniq⟩
end DL
namespace DL
open PySem PySem.Spec PyProof.Rows L2
open PySem.SeqAt PySem.MeetsSeq PySem.MeetsSeq2 PySem.MeetsSeq3 PySem.SeqRoads2 PySem.AutoSeq1
end DL
namespace DL
open PySem PySem.Spec PyProof.Rows L2
end DL
namespace DL
open PySem PySem.Spec PyProof.Rows L2 LamX
section
variable {X:Cx} {W:WX}
/-- the slot of a lambda's own name,as its default has it -/
def eZ (i:Nat) (m:ME):ME:=fun env S=>m (env.set i (some (.int 0))) S
@[simp] theorem eZ_at (i:Nat) (m:ME) (env:En) (S:Sto):eZ i m env S=m (env.set i (some (.int 0))) S:=rfl
end
end DL
namespace DL
open PySem PySem.Spec PyProof.Rows L2
theorem zsep (n a:Nat) (h:a<n):ZipSep2 (n+4) (n+2) (n+3) n (n+1) [n,a] [n+1]:=by
  have k:∀p q:Nat,p≠q→¬((p:Addr)=q):=fun _ _ h=>h
  refine ⟨k (n+2) (n+4) (by omega),k (n+3) (n+4) (by omega),k (n+2) (n+3) (by omega),k (n+2) n (by omega),by simp,fun hm=>?_,fun hm=>?_,k (n+2) (n+1) (by omega),by simp,fun hm=>?_,fun hm=>?_,fun hm=>?_,fun hm=>?_⟩
  · rcases List.mem_cons.mp hm with e|e
    · exact k (n+4) n (by omega) e
    · exact k (n+4) a (by omega) (List.mem_singleton.mp e)
  · rcases List.mem_cons.mp hm with e|e
    · exact k (n+3) n (by omega) e
    · exact k (n+3) a (by omega) (List.mem_singleton.mp e)
  · exact k (n+4) (n+1) (by omega) (List.mem_singleton.mp hm)
  · exact k (n+3) (n+1) (by omega) (List.mem_singleton.mp hm)
  · exact k n (n+1) (by omega) (List.mem_singleton.mp hm)
  · rcases List.mem_cons.mp hm with e|e
    · exact k (n+1) n (by omega) e
    · exact k (n+1) a (by omega) (List.mem_singleton.mp e)
/-- the LIST at a,and a text's bQ,in new pairs -/
def ItzST (K:PySem.W.Frag) (a:Addr) (y:Str):It:=
  ⟨fun i H=>∃(xs:List V) (x:V) (c:Nat),SqT K H a xs∧xs[i]?=some x∧y.cps[i]?=some c,
    fun i H v H'=>∃T x c,v=.ref T∧H T=none∧H'=upd H T (.tup [x,.str ⟨#[c]⟩])∧(∀xs,SqT K H a xs→xs[i]?=some x)∧y.cps[i]?=some c,
    fun i H=>∃xs:List V,SqT K H a xs∧i=min xs.length y.cps.size⟩
theorem mr {P:Program} {w:World} {K:PySem.W.Frag} {elts:List Expr} {kk:Nat} {tpos:Pos} {a z TI TO i1 i2:Addr} {y:Str} {t:Tok} (D:ZipSep2 z TI TO i1 i2 [i1,a] [i2]) :
    Turn P w K (.Tuple elts kk tpos) (ItzST K a y) [z,TI,TO,i1,i2] z (fun i h=>IsZip h z TI TO .none∧IsTupOf2 h TI (.ref i1) (.ref i2)∧(∃x y,IsTupOf2 h TO x y)∧h.IsTupleIter i1 a i∧h.IsStrIter i2 (strIterType y) y t i) where
  mem:=by simp
  obj:=fun i h st c hc=>by
    obtain ⟨hz,hTI,⟨x,y,hTO⟩,⟨o1,e1,_,d1⟩,⟨o2,e2,_,d2⟩⟩:=st
    have e':c=z∨c=TI∨c=TO∨c=i1∨c=i2:=by simpa using hc
    rcases e' with q|q|q|q|q
    · rw[q]; exact ⟨_,hz,fun v q=>nomatch q⟩
    · rw[q]; exact ⟨_,hTI,fun v q=>nomatch q⟩
    · rw[q]; exact ⟨_,hTO,fun v q=>nomatch q⟩
    · rw[q]; exact ⟨o1,e1,fun v q=>by rw[d1] at q; cases q⟩
    · rw[q]; exact ⟨o2,e2,fun v q=>by rw[d2] at q; cases q⟩
  keep:=fun i h h' st k=>by
    obtain ⟨hz,hTI,⟨x,y,hTO⟩,h1,⟨o2,e2,r2⟩⟩:=st
    exact ⟨k z (by simp) _ hz,k TI (by simp) _ hTI,⟨x,y,k TO (by simp) _ hTO⟩,h1.at fun o q=>k i1 (by simp) o q,⟨o2,k i2 (by simp) o2 e2,r2⟩⟩
  item:=by
    intro X hP hw hK hc i pins s σ H E I hf st hg
    subst hP hw hK
    obtain ⟨hz,hTI,⟨x0,y0,hTO⟩,h1,h2⟩:=st
    obtain ⟨xs,x,c,hqx,hx,hy⟩:=hg
    obtain ⟨its,rv,p,_⟩:=I.tuple hqx
    obtain ⟨u,hu,ru⟩:=rv.get hx
    have hzl:z<s.heap.objs.size:=Heap.lt_size hz
    have hh:X.A.in1.handled=none:=I.ok.hd hc
    have hal:a≠i1:=fun e=>by
      obtain ⟨o1,e1,c1,_⟩:=id h1
      obtain ⟨o3,e3,c3,_⟩:=(show s.heap.IsTuple a its.toArray from p)
      rw[e,e1] at e3
      cases e3
      rw[c1] at c3
      exact absurd c3 (by decide)
    have hil:i<its.toArray.size:=by
      have:=(List.getElem?_eq_some_iff.mp hu).1
      simpa using this
    have hyl:i<y.cps.size:=(Array.getElem?_eq_some_iff.mp hy).1
    refine wpAny_pyNext_zipD2_item D (Draws.tuple hh i1 a hal its.toArray) (Draws.text hh i2 y t) hz hTI hTO ⟨h1,p⟩ h2 hil hyl fun x1 x2 h' tk gx1 gx2 z' TO' st1 st2 hT hsz hk=>?_
    obtain ⟨c2,u2,gc,rfl⟩:=gx2
    have e1:x1=u:=by
      have q:its.toArray[i]?=some x1:=gx1
      rw[List.getElem?_toArray,hu] at q
      exact (Option.some.inj q).symm
    subst e1
    have e2:c2=c:=by rw[hy] at gc; exact (Option.some.inj gc).symm
    subst e2
    refine ⟨_,rfl,wpAny_letOwnedTupleGo_zip (s:={ s with heap:=h',toks:=tk }) z' fun h'' z'' sb=>?_⟩
    have hT2:h''.get? s.heap.objs.size=some { cls:=.type "tuple",data:=.seq #[x1,.str ⟨#[c2]⟩ u2] }:=(sb.2 _ (Nat.ne_of_gt hzl)).trans hT
    have new:ObjOk X.prog X.w (upd H s.heap.objs.size (.tup [x,.str ⟨#[c2]⟩])) h'' s.heap.objs.size (.tup [x,.str ⟨#[c2]⟩]):=
      ⟨by show 2≤sizeLine; decide,[x1,.str ⟨#[c2]⟩ u2],.cons ru (.cons ⟨u2,rfl⟩ .nil),⟨_,hT2,rfl,_,rfl⟩⟩
    have I1:Inv X pins σ (upd H s.heap.objs.size (.tup [x,.str ⟨#[c2]⟩])) { s with heap:=h'',toks:=tk }:=
      I.turnedNew (ch:=[z,TI,TO,i1,i2]) (fun c o hb q=>(sb.2 c (fun q'=>hb (by simp[q']))).trans (hk c o (fun q'=>hb (by simp[q'])) (fun q'=>hb (by simp[q'])) (fun q'=>hb (by simp[q'])) (fun q'=>hb (by simp[q'])) q)) hf (Nat.le_refl _) new
    have i2z:i2≠z:=fun e=>D.zf2 (by rw[←e]; simp)
    have i1z:i1≠z:=fun e=>D.zf1 (by rw[←e]; simp)
    refine ⟨.ref s.heap.objs.size,_,I1,rfl,⟨_,x,c2,rfl,I.hok.fresh (Nat.le_refl _),rfl,fun l hl=>by rw[I.tuple_inj hl hqx]; exact hx,hy⟩,⟨z'',?_,⟨x1,.str ⟨#[c2]⟩ u2,?_⟩,?_,?_⟩,fun c hcm=>?_⟩
    · exact (sb.2 _ D.TIz).trans (hk _ _ D.TIz D.TITO D.TIi1 D.TIi2 hTI)
    · exact (sb.2 _ D.TOz).trans TO'
    · exact st1.1.at fun o q=>(sb.2 _ i1z).trans q
    · obtain ⟨o2,q2,r2⟩:=st2
      exact ⟨o2,(sb.2 _ i2z).trans q2,r2⟩
    · have hlt:c<s.heap.objs.size:=by
        have e':c=z∨c=TI∨c=TO∨c=i1∨c=i2:=by simpa using hcm
        rcases e' with q|q|q|q|q
        · rw[q]; exact hzl
        · rw[q]; exact Heap.lt_size hTI
        · rw[q]; exact Heap.lt_size hTO
        · rw[q]; obtain ⟨_,e1,_⟩:=h1; exact Heap.lt_size e1
        · rw[q]; obtain ⟨_,e2,_⟩:=h2; exact Heap.lt_size e2
      rw[upd_ne (Nat.ne_of_lt hlt)]
      exact (hf c hcm).1
  done:=by
    intro X hP hw hK hc i pins s σ H E I hf st hg
    subst hP hw hK
    obtain ⟨hz,hTI,⟨x0,y0,hTO⟩,h1,h2⟩:=st
    obtain ⟨xs,hqx,hend⟩:=hg
    obtain ⟨its,rv,p,_⟩:=I.tuple hqx
    have l1:=rv.length
    have hh:X.A.in1.handled=none:=I.ok.hd hc
    have hal:a≠i1:=fun e=>by
      obtain ⟨o1,e1,c1,_⟩:=id h1
      obtain ⟨o3,e3,c3,_⟩:=(show s.heap.IsTuple a its.toArray from p)
      rw[e,e1] at e3
      cases e3
      rw[c1] at c3
      exact absurd c3 (by decide)
    have hn:its.toArray.size=xs.length:=by simpa using l1.symm
    exact wpAny_pyNext_zipD2_end D (Draws.tuple hh i1 a hal its.toArray) (Draws.text hh i2 y t) hz hTI hTO ⟨h1,p⟩ h2 (by omega) (by omega) (by omega) fun h' tk hk=>⟨rfl,I.turnedL (t':=tk) (ch:=[z,TI,TO,i1,i2]) (fun c o hb q=>
      hk c o (fun q'=>hb (by simp[q'])) (fun q'=>hb (by simp[q'])) (fun q'=>hb (by simp[q'])) (fun q'=>hb (by simp[q'])) q) hf⟩
  self:=fun A i s Q E st h=>wpAny_pyIter_zip st.1 h
/-- the LIST at a,and a text's bQ,in new pairs -/
def ItzSL (K:PySem.W.Frag) (a:Addr) (y:Str):It:=
  ⟨fun i H=>∃(xs:List V) (x:V) (c:Nat),SqL K H a xs∧xs[i]?=some x∧y.cps[i]?=some c,
    fun i H v H'=>∃T x c,v=.ref T∧H T=none∧H'=upd H T (.tup [x,.str ⟨#[c]⟩])∧(∀xs,SqL K H a xs→xs[i]?=some x)∧y.cps[i]?=some c,
    fun i H=>∃xs:List V,SqL K H a xs∧i=min xs.length y.cps.size⟩
theorem mt {P:Program} {w:World} {K:PySem.W.Frag} {elts:List Expr} {kk:Nat} {tpos:Pos} {a z TI TO i1 i2:Addr} {y:Str} {t:Tok} (D:ZipSep2 z TI TO i1 i2 [i1,a] [i2]) :
    Turn P w K (.Tuple elts kk tpos) (ItzSL K a y) [z,TI,TO,i1,i2] z (fun i h=>IsZip h z TI TO .none∧IsTupOf2 h TI (.ref i1) (.ref i2)∧(∃x y,IsTupOf2 h TO x y)∧h.IsListIter i1 a i∧h.IsStrIter i2 (strIterType y) y t i) where
  mem:=by simp
  obj:=fun i h st c hc=>by
    obtain ⟨hz,hTI,⟨x,y,hTO⟩,⟨o1,e1,_,d1⟩,⟨o2,e2,_,d2⟩⟩:=st
    have e':c=z∨c=TI∨c=TO∨c=i1∨c=i2:=by simpa using hc
    rcases e' with q|q|q|q|q
    · rw[q]; exact ⟨_,hz,fun v q=>nomatch q⟩
    · rw[q]; exact ⟨_,hTI,fun v q=>nomatch q⟩
    · rw[q]; exact ⟨_,hTO,fun v q=>nomatch q⟩
    · rw[q]; exact ⟨o1,e1,fun v q=>by rw[d1] at q; cases q⟩
    · rw[q]; exact ⟨o2,e2,fun v q=>by rw[d2] at q; cases q⟩
  keep:=fun i h h' st k=>by
    obtain ⟨hz,hTI,⟨x,y,hTO⟩,h1,⟨o2,e2,r2⟩⟩:=st
    exact ⟨k z (by simp) _ hz,k TI (by simp) _ hTI,⟨x,y,k TO (by simp) _ hTO⟩,h1.at fun o q=>k i1 (by simp) o q,⟨o2,k i2 (by simp) o2 e2,r2⟩⟩
  item:=by
    intro X hP hw hK hc i pins s σ H E I hf st hg
    subst hP hw hK
    obtain ⟨hz,hTI,⟨x0,y0,hTO⟩,h1,h2⟩:=st
    obtain ⟨xs,x,c,hqx,hx,hy⟩:=hg
    obtain ⟨its,rv,p,_⟩:=I.list hqx
    obtain ⟨u,hu,ru⟩:=rv.get hx
    have hzl:z<s.heap.objs.size:=Heap.lt_size hz
    have hh:X.A.in1.handled=none:=I.ok.hd hc
    have hal:a≠i1:=fun e=>by
      obtain ⟨o1,e1,c1,_⟩:=id h1
      obtain ⟨o3,e3,c3,_⟩:=(show s.heap.IsList a its.toArray from p.isList)
      rw[e,e1] at e3
      cases e3
      rw[c1] at c3
      exact absurd c3 (by decide)
    have hil:i<its.toArray.size:=by
      have:=(List.getElem?_eq_some_iff.mp hu).1
      simpa using this
    have hyl:i<y.cps.size:=(Array.getElem?_eq_some_iff.mp hy).1
    refine wpAny_pyNext_zipD2_item D (Draws.list hh i1 a hal its.toArray) (Draws.text hh i2 y t) hz hTI hTO ⟨h1,p.isList⟩ h2 hil hyl fun x1 x2 h' tk gx1 gx2 z' TO' st1 st2 hT hsz hk=>?_
    obtain ⟨c2,u2,gc,rfl⟩:=gx2
    have e1:x1=u:=by
      have q:its.toArray[i]?=some x1:=gx1
      rw[List.getElem?_toArray,hu] at q
      exact (Option.some.inj q).symm
    subst e1
    have e2:c2=c:=by rw[hy] at gc; exact (Option.some.inj gc).symm
    subst e2
    refine ⟨_,rfl,wpAny_letOwnedTupleGo_zip (s:={ s with heap:=h',toks:=tk }) z' fun h'' z'' sb=>?_⟩
    have hT2:h''.get? s.heap.objs.size=some { cls:=.type "tuple",data:=.seq #[x1,.str ⟨#[c2]⟩ u2] }:=(sb.2 _ (Nat.ne_of_gt hzl)).trans hT
    have new:ObjOk X.prog X.w (upd H s.heap.objs.size (.tup [x,.str ⟨#[c2]⟩])) h'' s.heap.objs.size (.tup [x,.str ⟨#[c2]⟩]):=
      ⟨by show 2≤sizeLine; decide,[x1,.str ⟨#[c2]⟩ u2],.cons ru (.cons ⟨u2,rfl⟩ .nil),⟨_,hT2,rfl,_,rfl⟩⟩
    have I1:Inv X pins σ (upd H s.heap.objs.size (.tup [x,.str ⟨#[c2]⟩])) { s with heap:=h'',toks:=tk }:=
      I.turnedNew (ch:=[z,TI,TO,i1,i2]) (fun c o hb q=>(sb.2 c (fun q'=>hb (by simp[q']))).trans (hk c o (fun q'=>hb (by simp[q'])) (fun q'=>hb (by simp[q'])) (fun q'=>hb (by simp[q'])) (fun q'=>hb (by simp[q'])) q)) hf (Nat.le_refl _) new
    have i2z:i2≠z:=fun e=>D.zf2 (by rw[←e]; simp)
    have i1z:i1≠z:=fun e=>D.zf1 (by rw[←e]; simp)
    refine ⟨.ref s.heap.objs.size,_,I1,rfl,⟨_,x,c2,rfl,I.hok.fresh (Nat.le_refl _),rfl,fun l hl=>by rw[I.list_inj hl hqx]; exact hx,hy⟩,⟨z'',?_,⟨x1,.str ⟨#[c2]⟩ u2,?_⟩,?_,?_⟩,fun c hcm=>?_⟩
    · exact (sb.2 _ D.TIz).trans (hk _ _ D.TIz D.TITO D.TIi1 D.TIi2 hTI)
    · exact (sb.2 _ D.TOz).trans TO'
    · exact st1.1.at fun o q=>(sb.2 _ i1z).trans q
    · obtain ⟨o2,q2,r2⟩:=st2
      exact ⟨o2,(sb.2 _ i2z).trans q2,r2⟩
    · have hlt:c<s.heap.objs.size:=by
        have e':c=z∨c=TI∨c=TO∨c=i1∨c=i2:=by simpa using hcm
        rcases e' with q|q|q|q|q
        · rw[q]; exact hzl
        · rw[q]; exact Heap.lt_size hTI
        · rw[q]; exact Heap.lt_size hTO
        · rw[q]; obtain ⟨_,e1,_⟩:=h1; exact Heap.lt_size e1
        · rw[q]; obtain ⟨_,e2,_⟩:=h2; exact Heap.lt_size e2
      rw[upd_ne (Nat.ne_of_lt hlt)]
      exact (hf c hcm).1
  done:=by
    intro X hP hw hK hc i pins s σ H E I hf st hg
    subst hP hw hK
    obtain ⟨hz,hTI,⟨x0,y0,hTO⟩,h1,h2⟩:=st
    obtain ⟨xs,hqx,hend⟩:=hg
    obtain ⟨its,rv,p,_⟩:=I.list hqx
    have l1:=rv.length
    have hh:X.A.in1.handled=none:=I.ok.hd hc
    have hal:a≠i1:=fun e=>by
      obtain ⟨o1,e1,c1,_⟩:=id h1
      obtain ⟨o3,e3,c3,_⟩:=(show s.heap.IsList a its.toArray from p.isList)
      rw[e,e1] at e3
      cases e3
      rw[c1] at c3
      exact absurd c3 (by decide)
    have hn:its.toArray.size=xs.length:=by simpa using l1.symm
    exact wpAny_pyNext_zipD2_end D (Draws.list hh i1 a hal its.toArray) (Draws.text hh i2 y t) hz hTI hTO ⟨h1,p.isList⟩ h2 (by omega) (by omega) (by omega) fun h' tk hk=>⟨rfl,I.turnedL (t':=tk) (ch:=[z,TI,TO,i1,i2]) (fun c o hb q=>
      hk c o (fun q'=>hb (by simp[q'])) (fun q'=>hb (by simp[q'])) (fun q'=>hb (by simp[q'])) (fun q'=>hb (by simp[q'])) q) hf⟩
  self:=fun A i s Q E st h=>wpAny_pyIter_zip st.1 h
section
variable {K:PySem.W.Frag} {mg:Str→Option Value} {μ:Mu} {H:Hp} {a:Addr} {xs:List D} {vs:List V}
theorem gv {y:Str} {i:Nat} {d:D} (h:(bQ y)[i]?=some d):∃c,y.cps[i]?=some c∧d=.str ⟨#[c]⟩:=by
  unfold bQ at h
  rw[List.getElem?_map,Array.getElem?_toList] at h
  obtain ⟨c,e1,e2⟩:=Option.map_eq_some_iff.mp h
  exact ⟨c,e1,e2.symm⟩
theorem eA (y:Str):(bQ y).length=y.cps.size:=by unfold bQ; simp
theorem lu {y:Str} (h:Rd H a (.tup vs)) (n:a∉μ) (r:RepAll K mg μ H xs vs):dH K mg μ H (cB xs (bQ y)) (ItzST K a y) where
  goes:=fun i μ' H' hi st=>by
    rw[cL,eA] at hi
    have h1:i<vs.length:=by rw[←r.length]; omega
    have h2:i<y.cps.size:=by omega
    exact ⟨vs,vs[i],y.cps[i],.inl (c8 st h n).1,by simp,by simp[h2]⟩
  stops:=fun μ' H' st=>⟨vs,.inl (c8 st h n).1,by rw[cL,eA,←r.length]⟩
  yields:=fun i d μ' H' S x H2 e st rs z=>by
    obtain ⟨T,w1,c,rfl,hT,rfl,y1,y2⟩:=z
    obtain ⟨da,db,e1,e2,rfl⟩:=gH _ _ _ _ e
    obtain ⟨u1,g1,k1⟩:=r.get e1
    obtain ⟨c2,g2,rfl⟩:=gv e2
    have q1:=y1 vs (.inl (c8 st h n).1)
    rw[g1] at q1; cases q1
    rw[g2] at y2; cases y2
    exact ⟨.upd hT,bF rs hT (.cons (Rep.stp st _ _ k1) (.cons (bL _) .nil))⟩
theorem lw {y:Str} (h:H a=some (.lst vs)) (n:a∉μ) (r:RepAll K mg μ H xs vs):dH K mg μ H (cB xs (bQ y)) (ItzSL K a y) where
  goes:=fun i μ' H' hi st=>by
    rw[cL,eA] at hi
    have h1:i<vs.length:=by rw[←r.length]; omega
    have h2:i<y.cps.size:=by omega
    exact ⟨vs,vs[i],y.cps[i],.of (st.keep _ _ h n),by simp,by simp[h2]⟩
  stops:=fun μ' H' st=>⟨vs,.of (st.keep _ _ h n),by rw[cL,eA,←r.length]⟩
  yields:=fun i d μ' H' S x H2 e st rs z=>by
    obtain ⟨T,w1,c,rfl,hT,rfl,y1,y2⟩:=z
    obtain ⟨da,db,e1,e2,rfl⟩:=gH _ _ _ _ e
    obtain ⟨u1,g1,k1⟩:=r.get e1
    obtain ⟨c2,g2,rfl⟩:=gv e2
    have q1:=y1 vs (.of (st.keep _ _ h n))
    rw[g1] at q1; cases q1
    rw[g2] at y2; cases y2
    exact ⟨.upd hT,bF rs hT (.cons (Rep.stp st _ _ k1) (.cons (bL _) .nil))⟩
end
def jv:List D→Option (List D)
  | [.tup xs,.str y]=>some (cB xs (bQ y))
  | [.lst xs,.str y]=>some (cB xs (bQ y))
  | _=>none
def qX (r:MA):MI:=fun env S=>(r env S).bind fun ds S=>ofO S ((jv (ds.map vt)).map .items)
theorem sN {X:Cx} {W:WX} {e e2:Expr} {r:MA} {p pos:Pos} {tpos:Pos} {elts:List Expr} {kk:Nat} (hg:Gl X "zip") (hm:X.mg "zip"=none) (ha:PA X [e,e2] (tAs X W r))
    (hs:starEach [e,e2] X.env=(false,eval e X.env)::starEach [e2] X.env:=by rfl) (hpl:(backTo pos (starEach [e2] X.env)).any (·.1)=false:=by rfl) :
    PI X (.Tuple elts kk tpos) (.Call (.Name "zip" p) [e,e2] [] pos) (tI X W (qX r)):=by
  refine ⟨fun pins s σ H R I ⟨env,S,μ,rl,o⟩=>?_⟩
  refine Call_ (ld_blt I hg hm PyProof.Rows.boot_zip (PyProof.Rows.callWith_type1 (thn (ha.run pos pins s σ H _ I ⟨env,S,μ,rl,Out.bind o⟩) fun us s1 ⟨vs,H1,I1,r1,μ1,S1,ds,st,rs,rd,o1⟩=>?_) hs hpl))
  have fresh5:∀c,c∈[s1.heap.objs.size+4,s1.heap.objs.size+2,s1.heap.objs.size+3,s1.heap.objs.size,s1.heap.objs.size+1]→FpOk X pins H1 c:=fun c hcm=>by
    have e':c=s1.heap.objs.size+4∨c=s1.heap.objs.size+2∨c=s1.heap.objs.size+3∨c=s1.heap.objs.size∨c=s1.heap.objs.size+1:=by simpa using hcm
    have hle:s1.heap.objs.size≤c:=by
      rcases e' with z|z|z|z|z
      · rw[z]; exact Nat.le_add_right _ _
      · rw[z]; exact Nat.le_add_right _ _
      · rw[z]; exact Nat.le_add_right _ _
      · rw[z]; exact Nat.le_refl _
      · rw[z]; exact Nat.le_add_right _ _
    exact I1.fpOk hle (I1.hok.fresh hle)
  obtain ⟨zs,ez⟩:∃zs,jv (ds.map vt)=some zs:=by
    cases ez:jv (ds.map vt) with
    | none=>rw[ez] at o1; exact o1.elim
    | some zs=>exact ⟨zs,rfl⟩
  rw[ez] at o1
  unfold jv at ez
  split at ez
  · rename_i xs y ev
    cases ez
    obtain ⟨d,d',v,w,rfl,⟨e1,e2⟩,rfl,k1,k2⟩:=fq rd ev
    have k1:=k1.wv.vt
    have k2:=k2.wv.vt
    rw[e1] at k1
    rw[e2] at k2
    obtain ⟨a,va,rfl,h1,l1,n1⟩:=k1
    obtain rfl:w=V.str y:=k2
    cases r1 with
    | cons ra rr=>
      cases rr with
      | cons rb rr=>
        cases rr
        cases ra
        obtain ⟨t,rfl⟩:=rb
        obtain ⟨its,rv,p',hz⟩:=I1.tuple (.inl h1)
        obtain ⟨oa,hoa,_⟩:=id p'
        refine zip_begins2 (begins_tuple a its.toArray) (begins_text y t) (show s1.heap.IsTuple a its.toArray from p') trivial fun h' hz hTI hTO g1 g2 hsz hk=>wpAny_pyIter_zip hz ?_
        have I2:L2.Inv X pins σ H1 { s1 with heap:=h' }:=I1.kept (t':=s1.toks) hk
        exact ⟨s1.heap.objs.size+4,_,_,_,H1,rfl,I2,mr (zsep _ a (Heap.lt_size hoa)),⟨hz,hTI,⟨_,_,hTO⟩,⟨_,g1,rfl,rfl⟩,⟨_,g2,rfl,rfl⟩⟩,fresh5,o1 _ _ _ .refl rs (lu h1 n1 l1)⟩
  · rename_i xs y ev
    cases ez
    obtain ⟨d,d',v,w,rfl,⟨e1,e2⟩,rfl,k1,k2⟩:=fq rd ev
    rw[hJ e1 nofun] at k1
    have k2:=k2.wv.vt
    rw[e2] at k2
    unfold Rep at k1
    obtain ⟨a,va,rfl,h1,n1,l1⟩:=k1
    obtain rfl:w=V.str y:=k2
    cases r1 with
    | cons ra rr=>
      cases rr with
      | cons rb rr=>
        cases rr
        cases ra
        obtain ⟨t,rfl⟩:=rb
        obtain ⟨its,rv,p',hz⟩:=I1.list (.of h1)
        obtain ⟨oa,hoa,_⟩:=id p'.isList
        refine zip_begins2 (begins_list a its.toArray) (begins_text y t) p'.isList trivial fun h' hz hTI hTO g1 g2 hsz hk=>wpAny_pyIter_zip hz ?_
        have I2:L2.Inv X pins σ H1 { s1 with heap:=h' }:=I1.kept (t':=s1.toks) hk
        exact ⟨s1.heap.objs.size+4,_,_,_,H1,rfl,I2,mt (zsep _ a (Heap.lt_size hoa)),⟨hz,hTI,⟨_,_,hTO⟩,⟨_,g1,rfl,rfl⟩,⟨_,g2,rfl,rfl⟩⟩,fresh5,o1 _ _ _ .refl rs (lw h1 n1 l1)⟩
  · cases ez
end DL
namespace DL
open PySem PySem.Spec PyProof.Rows
open PySem.Sem (wp)
section
variable {prog:Program} {w:World} {A:Around} {E:Value→Shared→Prop} {s:Shared} {z TI TO i1 i2:Addr} {fp1 fp2:List Addr} {n1 n2 i:Nat} {P1 P2:Nat→Value→Prop} {St1 St2:Nat→Heap→Prop} {a1 a2:Value}
theorem iP {T:Addr} {f:Bool} {oT:Obj} {Q:Value→Shared→Prop} (S:ZipSep2 z TI TO i1 i2 fp1 fp2) (D1:Draws prog w A i1 fp1 n1 P1 St1) (D2:Draws prog w A i2 fp2 n2 P2 St2)
    (hz:IsZipHeld s.heap z TI TO T f) (hT:s.heap.get? T=some oT) (hTI:IsTupOf2 s.heap TI (.ref i1) (.ref i2)) (st1:St1 i s.heap) (st2:St2 i s.heap) (hlt1:i<n1) (hlt2:i<n2)
    (hQ:∀x1 x2 h' tk,P1 i x1→P2 i x2→IsZipHeld h' z TI TO T true→St1 (i+1) h'→St2 (i+1) h'→IsTupOf2 h' s.heap.objs.size x1 x2→h'.objs.size=s.heap.objs.size+1→
      (∀c o,c≠z→c≠i1→c≠i2→s.heap.get? c=some o→h'.get? c=some o)→Q (.ref s.heap.objs.size) { s with heap:=h',toks:=tk }) :
    wpAny (model prog w) A (Builtin.«zip.__next__» ⟨[.ref z],[]⟩) (fun fin s'=>∃v,fin=.done (.ret v)∧Q v s') E s:=by
  obtain ⟨hp,g,d,tk0,os⟩:=s
  show wpAny _ _ (field (.ref z) 2 >>= _) _ _ _
  refine wpAny_bind (wpAny_field hz rfl (x:=.bool false) rfl ?_)
  show wpAny _ _ (field (.ref z) 3 >>= _) _ _ _
  refine wpAny_bind (wpAny_field hz rfl (x:=.ref TI) rfl ?_)
  refine wpAny_bind (wpAny_seqItems hTI rfl ?_)
  show wpAny _ _ (Builtin.SmallTypes.ownedTupleIsFree (.ref z) >>= _) _ _ _
  refine wpAny_bind (wpAny_tupleHeld_zip hz hT fun g0 hz0 hs0=>?_)
  replace hs0:Heap.SameBut z hp g0:=hs0
  simp only[Bool.false_eq_true,if_false]
  refine wpAny_bind ?_
  rw[←Array.forIn_toList]
  simp only[List.forIn_cons,List.forIn_nil]
  refine wpAny_bind (wpAny_bind (wpAny_holding ?_))
  show wpAny _ _ (Builtin.SmallTypes.nextOf (.ref i1) >>= _) _ _ ⟨g0,g,d,tk0,os⟩
  refine wpAny_bind (D1.item i _ _ _ hlt1 (D1.over st1 hs0 S.zf1) fun x1 p1 tk1 hx1 sn1 hp1=>wpAny_pure ?_)
  replace hp1:Heap.SameBut i1 g0 p1:=hp1
  refine wpAny_pure ?_
  refine wpAny_bind (wpAny_bind (wpAny_holding ?_))
  show wpAny _ _ (Builtin.SmallTypes.nextOf (.ref i2) >>= _) _ _ ⟨p1,g,d,tk1,os⟩
  refine wpAny_bind (D2.item i _ _ _ hlt2 (D2.over (D2.over st2 hs0 S.zf2) hp1 S.sep1_2) fun x2 p2 tk2 hx2 sn2 hp2=>wpAny_pure ?_)
  replace hp2:Heap.SameBut i2 p1 p2:=hp2
  refine wpAny_pure (wpAny_pure ?_)
  show wpAny _ _ (newTuple [x1,x2] >>= _) _ _ ⟨p2,g,d,tk2,os⟩
  refine wpAny_bind (wpAny_newTuple ?_)
  have hsz:p2.objs.size=hp.objs.size:=by rw[hp2.1,hp1.1,hs0.1]
  have hzz:IsZipHeld p2 z TI TO T true:=hp2.extBut _ _ S.zi2 (hp1.extBut _ _ S.zi1 hz0)
  have hk:∀c o,c≠z→c≠i1→c≠i2→hp.get? c=some o→p2.get? c=some o:=fun c o c1 c2 c3 e=>hp2.extBut _ _ c3 (hp1.extBut _ _ c2 (hs0.extBut _ _ c1 e))
  have hj1:St1 (i+1) p2:=D1.over sn1 hp2 S.sep2_1
  refine wpAny_pure ⟨_,rfl,?_⟩
  show Q (.ref p2.objs.size) _
  have hpp:IsTupOf2 (p2.push { cls:=.type "tuple",data:=.seq #[x1,x2] }) p2.objs.size x1 x2:=Heap.get?_push_size _ rfl
  have hz4:(p2.push { cls:=.type "tuple",data:=.seq #[x1,x2] }).objs.size=p2.objs.size+1:=Heap.size_push ..
  rw[hsz] at hpp hz4 ⊢
  exact hQ x1 x2 _ tk2 hx1 hx2 (Heap.get?_push_of_some _ hzz) (D1.frame _ _ _ hj1 fun b _ o e=>Heap.get?_push_of_some _ e) (D2.frame _ _ _ sn2 fun b _ o e=>Heap.get?_push_of_some _ e) hpp hz4 fun c o c1 c2 c3 e=>Heap.get?_push_of_some _ (hk c o c1 c2 c3 e)
theorem i8 {T:Addr} {f:Bool} {oT:Obj} {Q:Fin→Shared→Prop} (S:ZipSep2 z TI TO i1 i2 fp1 fp2) (D1:Draws prog w A i1 fp1 n1 P1 St1) (D2:Draws prog w A i2 fp2 n2 P2 St2)
    (hz:IsZipHeld s.heap z TI TO T f) (hT:s.heap.get? T=some oT) (hTI:IsTupOf2 s.heap TI (.ref i1) (.ref i2)) (st1:St1 i s.heap) (st2:St2 i s.heap) (hle1:i≤n1) (hle2:i≤n2) (hend:i=n1∨i=n2)
    (hE:∀h' tk e,(∀c o,c≠z→c≠i1→c≠i2→s.heap.get? c=some o→h'.get? c=some o)→(∃o,h'.get? e=some o∧o.cls=.type "StopIteration")→E (.ref e) { s with heap:=h',toks:=tk }) :
    wpAny (model prog w) A (Builtin.«zip.__next__» ⟨[.ref z],[]⟩) Q E s:=by
  obtain ⟨hp,g,d,tk0,os⟩:=s
  show wpAny _ _ (field (.ref z) 2 >>= _) _ _ _
  refine wpAny_bind (wpAny_field hz rfl (x:=.bool false) rfl ?_)
  show wpAny _ _ (field (.ref z) 3 >>= _) _ _ _
  refine wpAny_bind (wpAny_field hz rfl (x:=.ref TI) rfl ?_)
  refine wpAny_bind (wpAny_seqItems hTI rfl ?_)
  show wpAny _ _ (Builtin.SmallTypes.ownedTupleIsFree (.ref z) >>= _) _ _ _
  refine wpAny_bind (wpAny_tupleHeld_zip hz hT fun g0 hz0 hs0=>?_)
  replace hs0:Heap.SameBut z hp g0:=hs0
  simp only[Bool.false_eq_true,if_false]
  refine wpAny_bind ?_
  rw[←Array.forIn_toList]
  simp only[List.forIn_cons,List.forIn_nil]
  refine wpAny_bind (wpAny_bind (wpAny_holding ?_))
  show wpAny _ _ (Builtin.SmallTypes.nextOf (.ref i1) >>= _) _ _ ⟨g0,g,d,tk0,os⟩
  by_cases hlt1:i<n1
  · refine wpAny_bind (D1.item i _ _ _ hlt1 (D1.over st1 hs0 S.zf1) fun x1 p1 tk1 hx1 sn1 hp1=>wpAny_pure ?_)
    replace hp1:Heap.SameBut i1 g0 p1:=hp1
    refine wpAny_pure ?_
    refine wpAny_bind (wpAny_bind (wpAny_holding ?_))
    have hi2:i=n2:=by omega
    show wpAny _ _ (Builtin.SmallTypes.nextOf (.ref i2) >>= _) _ _ ⟨p1,g,d,tk1,os⟩
    refine wpAny_bind (D2.done ⟨p1,g,d,tk1,os⟩ _ _ (by rw[←hi2]; exact D2.over (D2.over st2 hs0 S.zf2) hp1 S.sep1_2) fun q e hq he=>?_)
    exact hE q tk1 e (fun c o c1 c2 c3 x=>hq _ _ c3 (hp1.extBut _ _ c2 (hs0.extBut _ _ c1 x))) he
  · have hi1:i=n1:=by omega
    refine wpAny_bind (D1.done ⟨g0,g,d,tk0,os⟩ _ _ (by rw[←hi1]; exact D1.over st1 hs0 S.zf1) fun q e hq he=>?_)
    exact hE q tk0 e (fun c o c1 c2 _ x=>hq _ _ c2 (hs0.extBut _ _ c1 x)) he
theorem gO {T:Addr} {f:Bool} {oT:Obj} {Q:Option Value→Shared→Prop} (S:ZipSep2 z TI TO i1 i2 fp1 fp2) (D1:Draws prog w A.in1 i1 fp1 n1 P1 St1) (D2:Draws prog w A.in1 i2 fp2 n2 P2 St2)
    (hz:IsZipHeld s.heap z TI TO T f) (hT:s.heap.get? T=some oT) (hTI:IsTupOf2 s.heap TI (.ref i1) (.ref i2)) (st1:St1 i s.heap) (st2:St2 i s.heap) (hlt1:i<n1) (hlt2:i<n2)
    (hQ:∀x1 x2 h' tk,P1 i x1→P2 i x2→IsZipHeld h' z TI TO T true→St1 (i+1) h'→St2 (i+1) h'→IsTupOf2 h' s.heap.objs.size x1 x2→h'.objs.size=s.heap.objs.size+1→
      (∀c o,c≠z→c≠i1→c≠i2→s.heap.get? c=some o→h'.get? c=some o)→Q (some (.ref s.heap.objs.size)) { s with heap:=h',toks:=tk }) :
    wpAny (model prog w) A (pyNext (.ref z)) Q E s:=by
  have hTy:s.TypeIs (.ref z) "zip":=⟨_,hz,rfl⟩
  unfold pyNext
  exact wpAny_bind (wpAny_attempt (wpAny_callSpecial?_slot (name:=Str.ofString "__next__") hTy F.slot_zip_next
    (wpAny_call_entry F.slot_zip_next hTy F.entry_zip_next
      (iP S D1 D2 hz hT hTI st1 st2 hlt1 hlt2 fun x1 x2 h' tk y1 y2 b1 d1 d2 b5 b6 b7=>wpAny_pure (hQ x1 x2 h' tk y1 y2 b1 d1 d2 b5 b6 b7)) (F.args_zip_next_1 _))))
theorem gw {T:Addr} {f:Bool} {oT:Obj} {Q:Option Value→Shared→Prop} (S:ZipSep2 z TI TO i1 i2 fp1 fp2) (D1:Draws prog w A.in1 i1 fp1 n1 P1 St1) (D2:Draws prog w A.in1 i2 fp2 n2 P2 St2)
    (hz:IsZipHeld s.heap z TI TO T f) (hT:s.heap.get? T=some oT) (hTI:IsTupOf2 s.heap TI (.ref i1) (.ref i2)) (st1:St1 i s.heap) (st2:St2 i s.heap) (hle1:i≤n1) (hle2:i≤n2) (hend:i=n1∨i=n2)
    (hQ:∀h' tk,(∀c o,c≠z→c≠i1→c≠i2→s.heap.get? c=some o→h'.get? c=some o)→Q none { s with heap:=h',toks:=tk }):wpAny (model prog w) A (pyNext (.ref z)) Q E s:=by
  have hTy:s.TypeIs (.ref z) "zip":=⟨_,hz,rfl⟩
  unfold pyNext
  refine wpAny_bind (wpAny_attempt (wpAny_callSpecial?_slot (name:=Str.ofString "__next__") hTy F.slot_zip_next
    (wpAny_call_entry F.slot_zip_next hTy F.entry_zip_next (i8 S D1 D2 hz hT hTI st1 st2 hle1 hle2 hend fun h' tk e hk he=>?_) (F.args_zip_next_1 _))))
  obtain ⟨o,ho,hc⟩:=he
  refine wpAny_bind (wpAny_isInstance (T:="StopIteration") (b:=true) ⟨o,ho,hc⟩ isSubtype_stop ?_)
  exact wpAny_pure (hQ _ _ hk)
/-- the pairs got so far,new ones in a row from N on -/
structure Got (N:Nat) (P1 P2:Nat→Value→Prop) (h:Heap) (acc:Array Value) (i:Nat):Prop where
  size:acc.size=i
  at_:∀j,j<i→acc[j]?=some (.ref (N+j))∧∃x1 x2,IsTupOf2 h (N+j) x1 x2∧P1 j x1∧P2 j x2
/-- the zip behind i turns -/
def ZipAt (N:Nat) (z TI TO i1 i2:Addr) (i:Nat) (h:Heap):Prop:=(i=0∧IsZip h z TI TO .none∧∃a1 a2,IsTupOf2 h TO a1 a2)∨(0<i∧∃f,IsZipHeld h z TI TO N f)
theorem qY (hh:A.handled=none) (S:ZipSep2 z TI TO i1 i2 fp1 fp2) (D1:∀A':Around,A'.handled=none→Draws prog w A' i1 fp1 n1 P1 St1) (D2:∀A':Around,A'.handled=none→Draws prog w A' i2 fp2 n2 P2 St2)
    (hn:min n1 n2≤sizeLine) (L:Addr) (res:Value) (N:Nat) (hb:∀b,b=z∨b=TI∨b=TO∨b=i1∨b=i2∨b∈fp1∨b∈fp2→b<L) (hLN:L<N) {R:Result→Shared→Prop} :
    ∀(k i:Nat) (s:Shared) (acc:Array Value) (c:Nat),min n1 n2 - i=k→i≤min n1 n2→s.heap.objs.size=N+i→ZipAt N z TI TO i1 i2 i s.heap→IsTupOf2 s.heap TI (.ref i1) (.ref i2)→St1 i s.heap→St2 i s.heap→
    s.heap.get? L=some { cls:=.type "list",dict:=none,data:=.seq acc c,slots:=#[] }→Got N P1 P2 s.heap acc i→
    (∀h' tk acc' c',(∀b o,b≠L→b≠z→b≠TO→b≠i1→b≠i2→s.heap.get? b=some o→h'.get? b=some o)→h'.get? L=some { cls:=.type "list",dict:=none,data:=.seq acc' c',slots:=#[] }→
      Got N P1 P2 h' acc' (min n1 n2)→R (.ok (.ret res)) { s with heap:=h',toks:=tk })→
    codeAny (model prog w) A (.builtin "list.extend.loop" ⟨[.ref L,.ref z,res],[]⟩) R s:=by
  have hLz:L≠z:=fun e=>Nat.lt_irrefl _ (by have:=hb z (.inl rfl); rw[←e] at this; exact this)
  have hLT:L≠TO:=fun e=>Nat.lt_irrefl _ (by have:=hb TO (.inr (.inr (.inl rfl))); rw[←e] at this; exact this)
  have hLTI:L≠TI:=fun e=>Nat.lt_irrefl _ (by have:=hb TI (.inr (.inl rfl)); rw[←e] at this; exact this)
  have hL1:L≠i1:=fun e=>Nat.lt_irrefl _ (by have:=hb i1 (.inr (.inr (.inr (.inl rfl)))); rw[←e] at this; exact this)
  have hL2:L≠i2:=fun e=>Nat.lt_irrefl _ (by have:=hb i2 (.inr (.inr (.inr (.inr (.inl rfl))))); rw[←e] at this; exact this)
  have hf1:L∉fp1:=fun m=>Nat.lt_irrefl _ (hb L (.inr (.inr (.inr (.inr (.inr (.inl m)))))))
  have hf2:L∉fp2:=fun m=>Nat.lt_irrefl _ (hb L (.inr (.inr (.inr (.inr (.inr (.inr m)))))))
  have big:∀j b,b=z∨b=TI∨b=TO∨b=i1∨b=i2∨b∈fp1∨b∈fp2→¬((N+j:Nat)=b):=fun j b hm e=>by
    have h1:b<L:=hb b hm
    have h2:(N+j:Nat)<L:=by rw[e]; exact h1
    exact Nat.lt_irrefl N (Nat.lt_of_le_of_lt (Nat.le_add_right N j) (Nat.lt_trans h2 hLN))
  have hh1:A.in1.in1.handled=none:=hh
  intro k
  induction k with
  | zero=>
    intro i s acc c hk hi hsz hz hTI st1 st2 hS hacc hR
    have hin:i=min n1 n2:=by omega
    refine codeAny_builtin F.entry_extend_loop ?_
    rw[Around.under_plainId F.plain_extend_loop _]
    show wpAny _ A.in1 (pyNext (.ref z) >>= _) _ _ s
    rcases hz with ⟨hi0,hz,a1,a2,hTO⟩|⟨hi0,f,hz⟩
    · refine wpAny_bind (wpAny_pyNext_zipD2_end S (D1 _ hh1) (D2 _ hh1) hz hTI hTO st1 st2 (by omega) (by omega) (by omega) fun h' tk hk'=>?_)
      refine wpAny_pure (hR h' tk acc c (fun b o c1 c2 c3 c4 c5 e=>hk' b o c2 c3 c4 c5 e) (hk' _ _ hLz hLT hL1 hL2 hS) ?_)
      rw[←hin]
      refine ⟨hacc.size,fun j hj=>?_⟩
      omega
    · obtain ⟨_,x1,x2,hT0,_⟩:=hacc.at_ 0 hi0
      refine wpAny_bind (gw S (D1 _ hh1) (D2 _ hh1) hz hT0 hTI st1 st2 (by omega) (by omega) (by omega) fun h' tk hk'=>?_)
      refine wpAny_pure (hR h' tk acc c (fun b o c1 c2 c3 c4 c5 e=>hk' b o c2 c4 c5 e) (hk' _ _ hLz hL1 hL2 hS) ?_)
      rw[←hin]
      refine ⟨hacc.size,fun j hj=>?_⟩
      obtain ⟨q1,y1,y2,q2,q3⟩:=hacc.at_ j hj
      exact ⟨q1,y1,y2,hk' _ _ (big j z (.inl rfl)) (big j i1 (.inr (.inr (.inr (.inl rfl))))) (big j i2 (.inr (.inr (.inr (.inr (.inl rfl)))))) q2,q3⟩
  | succ k ih=>
    intro i s acc c hk hi hsz hz hTI st1 st2 hS hacc hR
    have hlt:i<min n1 n2:=by omega
    refine codeAny_builtin F.entry_extend_loop ?_
    rw[Around.under_plainId F.plain_extend_loop _]
    show wpAny _ A.in1 (pyNext (.ref z) >>= _) _ _ s
    have go:∀(h':Heap) (tk:Nat) (x1 x2:Value),P1 i x1→P2 i x2→(∃f,IsZipHeld h' z TI TO N f)→St1 (i+1) h'→St2 (i+1) h'→IsTupOf2 h' s.heap.objs.size x1 x2→h'.objs.size=s.heap.objs.size+1→
        (∀c o,c≠z→c≠TO→c≠i1→c≠i2→s.heap.get? c=some o→h'.get? c=some o)→
        wpAny (model prog w) A.in1 (updateSeq L (·.push (.ref s.heap.objs.size)) >>= fun _=>again (.builtin "list.extend.loop" ⟨[.ref L,.ref z,res],[]⟩)) (fun fin s'=>match fin with|.done f=>R (.ok f) s'|.again c'=>c'.quiet=true∧codeAny (model prog w) A c' R s') (fun e s'=>R (.error e) s') { s with heap:=h',toks:=tk }:=by
      intro h' tk x1 x2 p1 p2 hz' s1 s2 hT hsz' hk'
      have hS':=hk' _ _ hLz hLT hL1 hL2 hS
      refine wpAny_bind ?_
      have up:∀b,b≠L→(h'.update L (Obj.mapSeq (·.push (.ref s.heap.objs.size)))).get? b=h'.get? b:=fun b hbL=>Heap.get?_update_other _ _ (Ne.symm hbL)
      refine wpAny_updateSeq hS' rfl (wpAny_pure ⟨plainId_quiet F.plain_extend_loop _,ih (i+1) _ (acc.push (.ref s.heap.objs.size)) _ (by omega) (by omega) ?_ ?_ ?_ ?_ ?_ (Heap.get?_update_self _ hS' rfl) ?_ fun h'' tk'' acc' c' hm'' hS'' hacc'=>?_⟩) (by rw[hacc.size]; omega) (by show (acc.push _).size≤sizeLine+1; rw[Array.size_push,hacc.size]; omega)
      · show (h'.update L _).objs.size=_
        rw[(Heap.SameBut.update ..).1,hsz',hsz]
        omega
      · obtain ⟨f,hzf⟩:=hz'
        exact .inr ⟨Nat.succ_pos _,f,(up z (Ne.symm hLz)).trans hzf⟩
      · refine (up TI (Ne.symm hLTI)).trans (hk' _ _ S.TIz S.TITO S.TIi1 S.TIi2 hTI)
      · exact (D1 _ hh1).frame _ _ _ s1 fun b hbm o e=>(up b fun q=>hf1 (q▸hbm)).trans e
      · exact (D2 _ hh1).frame _ _ _ s2 fun b hbm o e=>(up b fun q=>hf2 (q▸hbm)).trans e
      · have nL:∀j,(N+j:Nat)≠L:=fun j e=>by
          have h2:N+j<N:=by rw[e]; exact hLN
          exact Nat.lt_irrefl N (Nat.lt_of_le_of_lt (Nat.le_add_right N j) h2)
        refine ⟨by rw[Array.size_push,hacc.size],fun j hj=>?_⟩
        by_cases hji:j<i
        · obtain ⟨q1,y1,y2,q2,q3⟩:=hacc.at_ j hji
          refine ⟨?_,y1,y2,(up _ (nL j)).trans (hk' _ _ (big j z (.inl rfl)) (big j TO (.inr (.inr (.inl rfl)))) (big j i1 (.inr (.inr (.inr (.inl rfl))))) (big j i2 (.inr (.inr (.inr (.inr (.inl rfl)))))) q2),q3⟩
          rw[Array.getElem?_push,if_neg (by rw[hacc.size]; omega)]
          exact q1
        · have hje:j=i:=by omega
          subst hje
          refine ⟨?_,x1,x2,?_,p1,p2⟩
          · rw[Array.getElem?_push,if_pos hacc.size.symm,hsz]
          · rw[hsz] at hT
            exact (up _ (nL j)).trans hT
      · refine hR h'' tk'' acc' c' (fun b o c1 c2 c3 c4 c5 e=>?_) hS'' hacc'
        exact hm'' b o c1 c2 c3 c4 c5 ((up b c1).trans (hk' b o c2 c3 c4 c5 e))
    rcases hz with ⟨hi0,hz,a1,a2,hTO⟩|⟨hi0,f,hz⟩
    · refine wpAny_bind (wpAny_pyNext_zipD2_item S (D1 _ hh1) (D2 _ hh1) hz hTI hTO st1 st2 (by omega) (by omega) fun x1 x2 h' tk p1 p2 z' _ s1 s2 hT hsz' hk'=>?_)
      refine go h' tk x1 x2 p1 p2 ⟨false,?_⟩ s1 s2 hT hsz' hk'
      rw[hsz,hi0] at z'
      exact z'
    · obtain ⟨_,x1,x2,hT0,_⟩:=hacc.at_ 0 hi0
      refine wpAny_bind (gO S (D1 _ hh1) (D2 _ hh1) hz hT0 hTI st1 st2 (by omega) (by omega) fun x1 x2 h' tk p1 p2 z' s1 s2 hT hsz' hk'=>?_)
      exact go h' tk x1 x2 p1 p2 ⟨true,z'⟩ s1 s2 hT hsz' fun c o c1 _ c2 c3 e=>hk' c o c1 c2 c3 e
end
end DL
namespace DL
open PySem PySem.Spec PyProof.Rows
open PySem.Sem (wp)
theorem mu:typeLookup (.type "zip") "__len__"=pure none:=by rw[typeLookup_type,builtinLookup_eq_fast]; kernel_rfl
theorem lx:typeLookup (.type "zip") "__length_hint__"=pure none:=by rw[typeLookup_type,builtinLookup_eq_fast]; kernel_rfl
section
variable {prog:Program} {w:World} {A:Around} {E:Value→Shared→Prop} {s:Shared} {z TI TO i1 i2:Addr} {fp1 fp2:List Addr} {n1 n2:Nat} {P1 P2:Nat→Value→Prop} {St1 St2:Nat→Heap→Prop} {a1 a2:Value}
theorem mw {R:Result→Shared→Prop} (hh:A.handled=none) (S:ZipSep2 z TI TO i1 i2 fp1 fp2) (D1:∀A':Around,A'.handled=none→Draws prog w A' i1 fp1 n1 P1 St1) (D2:∀A':Around,A'.handled=none→Draws prog w A' i2 fp2 n2 P2 St2)
    (hn:min n1 n2≤sizeLine) (L:Addr) (res:Value) (c₀:Nat) (hL:s.heap.get? L=some { cls:=.type "list",data:=.seq #[] c₀ }) (hz:IsZip s.heap z TI TO .none) (hTI:IsTupOf2 s.heap TI (.ref i1) (.ref i2)) (hTO:IsTupOf2 s.heap TO a1 a2) (st1:St1 0 s.heap) (st2:St2 0 s.heap)
    (hb:∀b,b=z∨b=TI∨b=TO∨b=i1∨b=i2∨b∈fp1∨b∈fp2→b<L)
    (hR:∀h' tk acc' c',(∀b o,b≠L→b≠z→b≠TO→b≠i1→b≠i2→s.heap.get? b=some o→h'.get? b=some o)→h'.get? L=some { cls:=.type "list",dict:=none,data:=.seq acc' c',slots:=#[] }→
      Got s.heap.objs.size P1 P2 h' acc' (min n1 n2)→R (.ok (.ret res)) { s with heap:=h',toks:=tk }) :
    wpAny (model prog w) A.in1 (Builtin.List.listExtendWith (.ref L) (.ref z) res)
      (fun fin s'=>match fin with|.done f=>R (.ok f) s'|.again c'=>c'.quiet=true∧codeAny (model prog w) A c' R s') (fun e s'=>R (.error e) s') s:=by
  have hLz:L≠z:=fun e=>Nat.lt_irrefl _ (by have:=hb z (.inl rfl); rw[←e] at this; exact this)
  have hLT:L≠TO:=fun e=>Nat.lt_irrefl _ (by have:=hb TO (.inr (.inr (.inl rfl))); rw[←e] at this; exact this)
  have hLTI:L≠TI:=fun e=>Nat.lt_irrefl _ (by have:=hb TI (.inr (.inl rfl)); rw[←e] at this; exact this)
  have hL1:L≠i1:=fun e=>Nat.lt_irrefl _ (by have:=hb i1 (.inr (.inr (.inr (.inl rfl)))); rw[←e] at this; exact this)
  have hL2:L≠i2:=fun e=>Nat.lt_irrefl _ (by have:=hb i2 (.inr (.inr (.inr (.inr (.inl rfl))))); rw[←e] at this; exact this)
  have hf1:L∉fp1:=fun m=>Nat.lt_irrefl _ (hb L (.inr (.inr (.inr (.inr (.inr (.inl m)))))))
  have hf2:L∉fp2:=fun m=>Nat.lt_irrefl _ (hb L (.inr (.inr (.inr (.inr (.inr (.inr m)))))))
  have hT:s.TypeIs (.ref z) "zip":=⟨_,hz,rfl⟩
  unfold Builtin.List.listExtendWith
  refine wpAny_bind (wpAny_typeOf hT ?_)
  have h1:Builtin.List.listSameRef (.ref L) (.ref z)=false:=by simp[Builtin.List.listSameRef,hLz]
  have h2:(Value.type "zip" == Value.type "list")=false:=by decide
  have h3:(Value.type "zip" == Value.type "tuple")=false:=by decide
  simp only[h1,h2,h3,Bool.or_false,Bool.false_eq_true,if_false]
  refine wpAny_bind (wpAny_pyIter_zip hz ?_)
  refine wpAny_bind (wpAny_holding ?_)
  unfold Builtin.List.listLengthHint
  refine wpAny_bind (wpAny_specialOf hT mu ?_)
  show wpAny _ A.in1 (specialOf (Value.ref z) (Str.ofString "__length_hint__") >>= _) _ _ _
  refine wpAny_bind (wpAny_specialOf hT lx ?_)
  refine wpAny_pure ?_
  show wpAny _ A.in1 (rule "list.extend.makes-room" >>= fun _=>Builtin.List.listTouch (.ref L) >>= fun _=>
    again (.builtin "list.extend.loop" ⟨[.ref L,.ref z,res],[]⟩)) _ _ _
  refine wpAny_bind (wpAny_rule ?_)
  refine wpAny_bind ?_
  show wpAny _ A.in1 (updateSeq L (·.push .none) >>= fun _=>updateSeq L (·.pop)) _ _ _
  refine wpAny_bind (wpAny_updateSeq hL rfl ?_)
  have hS₂:=Heap.get?_update_self (Obj.mapSeq (·.push Value.none)) hL rfl
  refine wpAny_updateSeq hS₂ rfl ?_
  have hS₃:=Heap.get?_update_self (Obj.mapSeq (·.pop)) hS₂ rfl
  have oth:∀b,b≠L→((s.heap.update L (Obj.mapSeq (·.push Value.none))).update L (Obj.mapSeq (·.pop))).get? b=s.heap.get? b:=
    fun b hb=>(Heap.get?_update_other _ _ (Ne.symm hb)).trans (Heap.get?_update_other _ _ (Ne.symm hb))
  have hsz:((s.heap.update L (Obj.mapSeq (·.push Value.none))).update L (Obj.mapSeq (·.pop))).objs.size=s.heap.objs.size:=by
    rw[(Heap.SameBut.update ..).1,(Heap.SameBut.update ..).1]
  refine wpAny_pure ⟨plainId_quiet F.plain_extend_loop _,qY hh S D1 D2 hn L res s.heap.objs.size hb (Heap.lt_size hL) _ 0 _ #[] _ rfl (Nat.zero_le _) hsz (.inl ⟨rfl,(oth z (Ne.symm hLz)).trans hz,a1,a2,(oth TO (Ne.symm hLT)).trans hTO⟩) ((oth TI (Ne.symm hLTI)).trans hTI) ?_ ?_ hS₃ ⟨rfl,fun j hj=>absurd hj (Nat.not_lt_zero _)⟩ fun h' tk acc' c' hm hS' hacc=>?_⟩
  · exact (D1 A hh).frame _ _ _ st1 fun b hbm o e=>(oth b fun q=>hf1 (q▸hbm)).trans e
  · exact (D2 A hh).frame _ _ _ st2 fun b hbm o e=>(oth b fun q=>hf2 (q▸hbm)).trans e
  · exact hR h' tk acc' c' (fun b o c1 c2 c3 c4 c5 e=>hm b o c1 c2 c3 c4 c5 ((oth b c1).trans e)) hS' hacc
theorem jT {Q:Value→Shared→Prop} (hh:A.handled=none) (S:ZipSep2 z TI TO i1 i2 fp1 fp2) (D1:∀A':Around,A'.handled=none→Draws prog w A' i1 fp1 n1 P1 St1) (D2:∀A':Around,A'.handled=none→Draws prog w A' i2 fp2 n2 P2 St2)
    (hn:min n1 n2≤sizeLine) (hz:IsZip s.heap z TI TO .none) (hTI:IsTupOf2 s.heap TI (.ref i1) (.ref i2)) (hTO:IsTupOf2 s.heap TO a1 a2) (st1:St1 0 s.heap) (st2:St2 0 s.heap)
    (hb:∀b,b=z∨b=TI∨b=TO∨b=i1∨b=i2∨b∈fp1∨b∈fp2→b<s.heap.objs.size)
    (hQ:∀h' tk acc' c',(∀b o,b≠z→b≠TO→b≠i1→b≠i2→s.heap.get? b=some o→h'.get? b=some o)→h'.get? s.heap.objs.size=some { cls:=.type "list",dict:=none,data:=.seq acc' c',slots:=#[] }→
      Got (s.heap.objs.size+1) P1 P2 h' acc' (min n1 n2)→Q (.ref s.heap.objs.size) { s with heap:=h',toks:=tk }) :
    wpAny (model prog w) A (call (.type "list") [.ref z]) Q E s:=by
  refine callType_codes (Q₁:=fun obj s₁=>obj=.ref s.heap.objs.size∧s₁={ s with heap:=s.heap.push { cls:=.type "list",data:=.seq #[] } }) PySem.F.called_list (PySem.F.typeCall_list_1 _) PySem.F.entry_list_init
    (code_list_new _ ⟨rfl,rfl⟩) fun obj s₁ h₁=>?_
  obtain ⟨rfl,rfl⟩:=h₁
  have hS:(s.heap.push { cls:=.type "list",data:=.seq #[] }).get? s.heap.objs.size=some { cls:=.type "list",data:=.seq #[] }:=Heap.get?_push_size _ rfl
  refine ⟨⟨_,hS,rfl⟩,PySem.F.args_list_init_2 _ _,?_⟩
  obtain ⟨hp,g,d,tk0,os⟩:=s
  show wpAny _ _ (do let old ←Builtin.List.listItems (.ref hp.objs.size); Builtin.List.listUpdate (.ref hp.objs.size) (fun _=>#[]); letGo old.toList.reverse; Builtin.List.listExtendWith (.ref hp.objs.size) (.ref z) .none) _ _ _
  refine wpAny_bind ?_
  unfold Builtin.List.listItems
  refine wpAny_bind (wpAny_seqItems hS rfl (wpAny_pure ?_))
  show wpAny _ _ (updateSeq hp.objs.size (fun _=>#[]) >>= fun _=>letGo (#[]:Array Value).toList.reverse >>= fun _=>Builtin.List.listExtendWith (.ref hp.objs.size) (.ref z) .none) _ _ _
  refine wpAny_bind (wpAny_updateSeq hS rfl ?_)
  have hS₂:=Heap.get?_update_self (Obj.mapSeq (fun _=>(#[]:Array Value))) hS rfl
  have push:∀b o,hp.get? b=some o→(hp.push { cls:=.type "list",data:=.seq #[] }).get? b=some o:=fun b o e=>Heap.get?_push_of_some _ e
  have oth:∀b o,hp.get? b=some o→((hp.push { cls:=.type "list",data:=.seq #[] }).update hp.objs.size (Obj.mapSeq (fun _=>(#[]:Array Value)))).get? b=some o:=
    fun b o e=>(Heap.get?_update_other _ _ (Nat.ne_of_gt (Heap.lt_size e))).trans (push b o e)
  have hsz:((hp.push { cls:=.type "list",data:=.seq #[] }).update hp.objs.size (Obj.mapSeq (fun _=>(#[]:Array Value)))).objs.size=hp.objs.size+1:=by
    rw[(Heap.SameBut.update ..).1,Heap.size_push]
  refine wpAny_bind (wpAny_letGo ?_)
  refine mw (A:=A.in1) (s:=⟨(hp.push { cls:=.type "list",data:=.seq #[] }).update hp.objs.size (Obj.mapSeq (fun _=>(#[]:Array Value))),g,d,tk0,os⟩) hh S D1 D2 hn hp.objs.size .none _ hS₂ (oth _ _ hz) (oth _ _ hTI) (oth _ _ hTO) ((D1 A hh).frame _ _ _ st1 fun b _ o e=>oth b o e) ((D2 A hh).frame _ _ _ st2 fun b _ o e=>oth b o e) hb fun h' tk acc' c' hm hS' hacc=>?_
  refine ⟨rfl,hQ h' tk acc' c' (fun b o c1 c2 c3 c4 e=>hm b o (Nat.ne_of_lt (Heap.lt_size e)) c1 c2 c3 c4 (oth b o e)) hS' ?_⟩
  have hacc:Got ((hp.push { cls:=.type "list",data:=.seq #[] }).update hp.objs.size (Obj.mapSeq (fun _=>(#[]:Array Value)))).objs.size P1 P2 h' acc' (min n1 n2):=hacc
  rw[hsz] at hacc
  exact hacc
end
end DL
namespace DL
open PySem PySem.Spec PyProof.Rows L2
/-- pairs,new,in a row -/
def updP (H:Hp) (N:Nat):List (V × V)→Hp
  | []=>H
  | q::qs=>updP (upd H N (.tup [q.1,q.2])) (N+1) qs
section
variable {X:Cx} {pins:List (Addr × Obj)} {σ:L2.St}
theorem jw {L:Addr} {h':Heap}:∀(qs:List (V × V)) (N:Nat) (H:Hp) (s:Shared),L2.Inv X pins σ H s→(∀b u,s.heap.get? b=some u→h'.get? b=some u∧b≠L∧b<N)→L<N→
    (∀(j:Nat) (q:V × V),qs[j]?=some q→∃u1 u2,RelV q.1 u1∧RelV q.2 u2∧IsTupOf2 h' (N+j) u1 u2)→
    ∃G:Heap,(∀b u,G.get? b=some u→h'.get? b=some u∧b≠L)∧L2.Inv X pins σ (updP H N qs) { s with heap:=G }∧Sm H (updP H N qs)∧∀(j:Nat) (q:V × V),qs[j]?=some q→updP H N qs (N+j)=some (.tup [q.1,q.2])∧H (N+j)=none
  | [],N,H,s,I,k,hL,_=>⟨s.heap,fun b u e=>⟨(k b u e).1,(k b u e).2.1⟩,I,Sm.rfl,fun j q h=>by simp at h⟩
  | q::qs,N,H,s,I,k,hL,hq=>by
    obtain ⟨G,g1,g2⟩:=restrict h' fun b=>decide (b≠L∧b<N+1)
    obtain ⟨u1,u2,r1,r2,hT⟩:=hq 0 q rfl
    have hT:IsTupOf2 h' N u1 u2:=hT
    have hN:s.heap.get? N=none:=by
      cases e:s.heap.get? N with
      | none=>rfl
      | some u=>exact absurd (k N u e).2.2 (Nat.lt_irrefl _)
    have hHN:=I.hok.gone hN
    have gT:G.get? N=h'.get? N:=g1 N (decide_eq_true ⟨fun e=>Nat.lt_irrefl N (by
      have h2:L<N:=hL
      rw[←e] at h2
      exact h2),Nat.lt_succ_self N⟩)
    have new:ObjOk X.prog X.w (upd H N (.tup [q.1,q.2])) G N (.tup [q.1,q.2]):=
      ⟨by show 2≤sizeLine; decide,[u1,u2],.cons r1 (.cons r2 .nil),⟨_,gT.trans hT,rfl,_,rfl⟩⟩
    have kG:∀b u,s.heap.get? b=some u→G.get? b=some u:=fun b u e=>by
      have:=k b u e
      rw[g1 b (decide_eq_true ⟨this.2.1,Nat.lt_succ_of_lt this.2.2⟩)]
      exact this.1
    have I1:=I.laidN (t':=s.toks) kG hN hHN new
    obtain ⟨G2,f1,f2,f3,f4⟩:=jw qs (N+1) _ _ I1 (fun b u e=>by
      by_cases hb:b≠L∧b<N+1
      · have e2:h'.get? b=some u:=(g1 b (decide_eq_true hb)).symm.trans e
        exact ⟨e2,hb⟩
      · have e2:none=some u:=(g2 b (decide_eq_false hb)).symm.trans e
        cases e2) (Nat.lt_succ_of_lt hL) (fun j q2 h2=>by
      obtain ⟨v1,v2,a1,a2,a3⟩:=hq (j+1) q2 h2
      refine ⟨v1,v2,a1,a2,?_⟩
      have e:N+1+j=N+(j+1):=by omega
      rw[e]
      exact a3)
    refine ⟨G2,f1,f2,(Sm.upd hHN).trans f3,fun j q2 h2=>?_⟩
    cases j with
    | zero=>
      cases h2
      refine ⟨f3 N _ upd_same,hHN⟩
    | succ j=>
      obtain ⟨a1,a2⟩:=f4 j q2 h2
      have e:N+1+j=N+(j+1):=by omega
      rw[e] at a1 a2
      refine ⟨a1,?_⟩
      rw[upd_ne (fun h=>by
        have h:(N+(j+1):Nat)=N:=h
        omega)] at a2
      exact a2
end
end DL
namespace DL
open PySem PySem.Spec PyProof.Rows L2
def eD:List D→Option D
  | [.tup xs,.str y]=>some (.lst (cB xs (bQ y)))
  | _=>none
def i9 (r:MA):ME:=fun env S=>(r env S).bind fun ds S=>ofO S (eD (ds.map vt))
theorem jA {K:PySem.W.Frag} {mg:Str→Option Value} {μ:Mu} {H:Hp}:∀(ds:List D) (vs:List V),ds.length=vs.length→(∀(j:Nat) (d:D) (v:V),ds[j]?=some d→vs[j]?=some v→Rep K mg μ H d v)→RepAll K mg μ H ds vs
  | [],[],_,_=>.nil
  | [],_::_,h,_=>by simp at h
  | _::_,[],h,_=>by simp at h
  | d::ds,v::vs,h,hx=>.cons (hx 0 d v rfl rfl) (jA ds vs (by simpa using h) fun j d v h1 h2=>hx (j+1) d v h1 h2)
theorem my {X:Cx} {W:WX} {e e2:Expr} {r:MA} {p p2 pos pos2:Pos} (hg:Gl X "list") (hm:X.mg "list"=none) (hg2:Gl X "zip") (hm2:X.mg "zip"=none) (ha:PA X [e,e2] (tAs X W r)) (hc:X.calm=true:=by rfl)
    (hs:starEach [e,e2] X.env=(false,eval e X.env)::starEach [e2] X.env:=by rfl) (hpl:(backTo pos2 (starEach [e2] X.env)).any (·.1)=false:=by rfl)
    (he:starEach [Expr.Call (.Name "zip" p2) [e,e2] [] pos2] X.env=(false,eval (.Call (.Name "zip" p2) [e,e2] [] pos2) X.env)::starEach [] X.env:=by rfl) (hpl2:(backTo pos (starEach [] X.env)).any (·.1)=false:=by rfl) :
    PE X (.Call (.Name "list" p) [.Call (.Name "zip" p2) [e,e2] [] pos2] [] pos) (tE X W (i9 r)):=by
  refine ⟨fun pins s σ H Q I ⟨env,S,μ,rl,o⟩=>?_⟩
  refine wpAny_Call_Name_kw (ld_blt I hg hm boot_list ?_ (by decide) (by decide))
  refine PyProof.Rows.callWith_type1 ?_ he hpl2
  rw[he]
  show wpAny _ _ (spliced ((false,eval (.Call (.Name "zip" p2) [e,e2] [] pos2) X.env)::backTo pos (starEach [] X.env))) _ _ s
  refine Calls.spliced_cons ?_
  refine Call_ (ld_blt I hg2 hm2 PyProof.Rows.boot_zip (PyProof.Rows.callWith_type1 (thn (ha.run pos2 pins s σ H _ I ⟨env,S,μ,rl,Out.bind o⟩) fun us s1 ⟨vs,H1,I1,r1,μ1,S1,ds,st,rs,rd,o1⟩=>?_) hs hpl))
  obtain ⟨zs,ez⟩:∃zs,eD (ds.map vt)=some zs:=by
    cases ez:eD (ds.map vt) with
    | none=>rw[ez] at o1; exact o1.elim
    | some zs=>exact ⟨zs,rfl⟩
  rw[ez] at o1
  unfold eD at ez
  split at ez
  · rename_i xs y ev
    cases ez
    obtain ⟨d,d',v,w,rfl,⟨e1,e2⟩,rfl,k1,k2⟩:=fq rd ev
    have k1:=k1.wv.vt
    have k2:=k2.wv.vt
    rw[e1] at k1
    rw[e2] at k2
    obtain ⟨a,va,rfl,h1,l1,n1⟩:=k1
    obtain rfl:w=V.str y:=k2
    cases r1 with
    | cons ra rr=>
      cases rr with
      | cons rb rr=>
        cases rr
        cases ra
        obtain ⟨t,rfl⟩:=rb
        obtain ⟨its,rv,p',hz⟩:=I1.tuple (.inl h1)
        obtain ⟨oa,hoa,_⟩:=id p'
        have hal:a<s1.heap.objs.size:=Heap.lt_size hoa
        refine zip_begins2 (begins_tuple a its.toArray) (begins_text y t) (show s1.heap.IsTuple a its.toArray from p') trivial fun h1' hz' hTI hTO g1 g2 hsz hk=>?_
        obtain ⟨n0,hn0⟩:∃n0,n0=s1.heap.objs.size:=⟨_,rfl⟩
        rw[←hn0] at hz' hTI hTO g1 g2 hsz hal ⊢
        refine Calls.spliced_nil ?_
        have hh:X.A.handled=none:=I1.ok.hd hc
        have ne:a≠n0:=Nat.ne_of_lt hal
        have hT1:h1'.IsTuple a its.toArray:=Heap.IsTuple.at (show s1.heap.IsTuple a its.toArray from p') fun o e=>hk a o e
        have vl:=rv.length
        have hbig:∀b,b=n0+4∨b=n0+2∨b=n0+3∨b=n0∨b=n0+1∨b∈[n0,a]∨b∈[n0+1]→b<h1'.objs.size:=fun b hb=>by
          rw[hsz]
          rcases hb with q|q|q|q|q|q|q
          · rw[q]; exact Nat.lt_succ_self _
          · rw[q]; exact Nat.add_lt_add_left (by decide) n0
          · rw[q]; exact Nat.add_lt_add_left (by decide) n0
          · rw[q]; exact Nat.lt_add_of_pos_right (by decide)
          · rw[q]; exact Nat.add_lt_add_left (by decide) n0
          · rcases List.mem_cons.mp q with q|q
            · rw[q]; exact Nat.lt_add_of_pos_right (by decide)
            · rw[List.mem_singleton.mp q]; exact Nat.lt_of_lt_of_le hal (Nat.le_add_right _ _)
          · rw[List.mem_singleton.mp q]; exact Nat.add_lt_add_left (by decide) n0
        refine jT (s:={ s1 with heap:=h1' }) (n1:=its.toArray.size) (n2:=y.cps.size) (P1:=fun i v=>its.toArray[i]?=some v) (P2:=fun i v=>∃c u,y.cps[i]?=some c∧v=.str ⟨#[c]⟩ u) (St1:=fun i h=>h.IsTupleIter n0 a i∧h.IsTuple a its.toArray) (St2:=fun i h=>h.IsStrIter (n0+1) (strIterType y) y t i) hh (zsep n0 a hal) (fun A' hA=>Draws.tuple hA n0 a ne its.toArray) (fun A' hA=>Draws.text hA (n0+1) y t) ?_ hz' hTI hTO ⟨⟨_,g1,rfl,rfl⟩,hT1⟩ ⟨_,g2,rfl,rfl⟩ hbig fun h' tk acc' c' hm hL hg=>?_
        · have:its.toArray.size≤sizeLine:=by rw[List.size_toArray,←vl]; exact hz
          omega
        · have hsz':({ s1 with heap:=h1' }:Shared).heap.objs.size=n0+5:=hsz
          rw[hsz'] at hL hg ⊢
          obtain ⟨m,hmn⟩:∃m,m=min its.toArray.size y.cps.size:=⟨_,rfl⟩
          rw[←hmn] at hg
          have hml:m≤va.length:=by
            have:its.toArray.size=va.length:=by rw[List.size_toArray,vl]
            omega
          have hzl:(cB xs (bQ y)).length=m:=by
            have h2:=l1.length
            have h3:its.toArray.size=va.length:=by rw[List.size_toArray,vl]
            rw[cL,eA,hmn,h3,h2]
          obtain ⟨qs,hqs⟩:∃qs,qs=va.zip (y.cps.toList.map fun c=>V.str ⟨#[c]⟩):=⟨_,rfl⟩
          have hql:qs.length=m:=by
            have h3:its.toArray.size=va.length:=by rw[List.size_toArray,vl]
            have h4:y.cps.toList.length=y.cps.size:=Array.length_toList
            rw[hqs,List.length_zip,List.length_map,hmn,h3,h4]
          have hqj:∀(j:Nat) (q:V × V),qs[j]?=some q→∃c,va[j]?=some q.1∧y.cps[j]?=some c∧q.2=V.str ⟨#[c]⟩:=fun j q hj=>by
            rw[hqs,List.getElem?_zip_eq_some] at hj
            obtain ⟨h3,h4⟩:=hj
            rw[List.getElem?_map,Array.getElem?_toList] at h4
            obtain ⟨c,h5,h6⟩:=Option.map_eq_some_iff.mp h4
            exact ⟨c,h3,h5,h6.symm⟩
          have keep0:∀b u,s1.heap.get? b=some u→h'.get? b=some u∧b≠n0+5∧b<n0+5+1:=fun b u e=>by
            have hb:b<n0:=by rw[hn0]; exact Heap.lt_size e
            have big:∀j,b≠n0+j:=fun j q=>Nat.lt_irrefl n0 (Nat.lt_of_le_of_lt (Nat.le_add_right n0 j) (by rw[←q]; exact hb))
            exact ⟨hm b u (big 4) (big 3) (big 0) (big 1) (hk b u e),big 5,Nat.lt_of_lt_of_le hb (Nat.le_add_right _ 6)⟩
          obtain ⟨G,f1,f2,f3,f4⟩:=jw (L:=n0+5) (h':=h') qs (n0+5+1) H1 s1 I1 keep0 (Nat.lt_succ_self _) fun j q hj=>by
            obtain ⟨c,h3,h4,h5⟩:=hqj j q hj
            have hjm:j<m:=by
              have:=(List.getElem?_eq_some_iff.mp hj).1
              omega
            obtain ⟨_,x1,x2,hT,p1,c2,u2,p2,rfl⟩:=hg.at_ j hjm
            obtain ⟨u,hu,ru⟩:=rv.get h3
            have e1:x1=u:=by
              have q:its.toArray[j]?=some x1:=p1
              rw[List.getElem?_toArray,hu] at q
              exact (Option.some.inj q).symm
            have e2:c2=c:=by rw[h4] at p2; exact (Option.some.inj p2).symm
            subst e1
            subst e2
            exact ⟨x1,.str ⟨#[c2]⟩ u2,ru,by rw[h5]; exact ⟨u2,rfl⟩,hT⟩
          obtain ⟨H2,hH2⟩:∃H2,H2=updP H1 (n0+5+1) qs:=⟨_,rfl⟩
          rw[←hH2] at f2 f3 f4
          have gL:G.get? (n0+5)=none:=by
            cases e:G.get? (n0+5) with
            | none=>rfl
            | some u=>exact absurd rfl (f1 _ u e).2
          have hL2:H2 (n0+5)=none:=f2.hok.gone gL
          obtain ⟨refs,hrefs⟩:∃refs,refs=(List.range m).map fun j=>V.ref (n0+5+1+j):=⟨_,rfl⟩
          have hrl:refs.length=m:=by rw[hrefs,List.length_map,List.length_range]
          have hrj:∀(j:Nat) (v:V),refs[j]?=some v→j<m∧v=V.ref (n0+5+1+j):=fun j v hj=>by
            rw[hrefs,List.getElem?_map] at hj
            have hjm:j<m:=by
              cases hr:(List.range m)[j]? with
              | none=>rw[hr] at hj; cases hj
              | some i=>have:=(List.getElem?_eq_some_iff.mp hr).1; simpa using this
            rw[List.getElem?_range hjm] at hj
            cases hj
            exact ⟨hjm,rfl⟩
          have hvals:Vals refs acc'.toList:=vals_of_idx _ _ (by rw[Array.length_toList,hg.size,hrl]) fun j u hj=>by
            have hjm:j<m:=by
              have:=(List.getElem?_eq_some_iff.mp hj).1
              rw[Array.length_toList,hg.size] at this
              exact this
            have hu:=(hg.at_ j hjm).1
            rw[Array.getElem?_toList,hu] at hj
            cases hj
            refine ⟨V.ref (n0+5+1+j),?_,rfl⟩
            rw[hrefs,List.getElem?_map,List.getElem?_range hjm]
            rfl
          have new:ObjOk X.prog X.w (upd H2 (n0+5) (.lst refs)) h' (n0+5) (.lst refs):=
            ⟨by rw[hrl]; have:va.length≤sizeLine:=hz; omega,acc'.toList,c',hvals,by rw[Array.toArray_toList]; exact hL⟩
          have I3:=f2.laidN (t':=tk) (fun b u e=>(f1 b u e).1) gL hL2 new
          have sm2:Sm H1 (upd H2 (n0+5) (.lst refs)):=f3.trans (.upd hL2)
          have rp:RepAll X.K X.mg μ1 H2 (cB xs (bQ y)) refs:=jA _ _ (hzl.trans hrl.symm) fun j d v hd hv=>by
            obtain ⟨hjm,rfl⟩:=hrj j v hv
            obtain ⟨da,db,e3,e4,rfl⟩:=gH _ _ _ _ hd
            obtain ⟨c,e5,rfl⟩:=gv e4
            obtain ⟨u1,e6,k3⟩:=l1.get e3
            have hq:qs[j]?=some (u1,V.str ⟨#[c]⟩):=by
              rw[hqs,List.getElem?_zip_eq_some]
              refine ⟨e6,?_⟩
              rw[List.getElem?_map,Array.getElem?_toList,e5]
              rfl
            obtain ⟨q1,q2⟩:=f4 j _ hq
            unfold Rep
            exact ⟨_,[u1,V.str ⟨#[c]⟩],rfl,q1,rs.fresh q2,.cons (Rep.step (.of_sm f3) _ _ k3) (.cons (bL _) .nil)⟩
          refine ⟨.ref (n0+5),_,I3,rfl,o1 _ _ _ (.of_sm sm2) (rs.sm sm2) ?_⟩
          exact bw (rs.sm f3) hL2 rp
  · cases ez
@[simp] theorem tO (r:MA) (env:En) (S:Sto):i9 r env S=(r env S).bind fun ds S=>ofO S (eD (ds.map vt)):=rfl
@[simp] theorem iZipS_at (r:MA) (env:En) (S:Sto):qX r env S=(r env S).bind fun ds S=>ofO S ((jv (ds.map vt)).map .items):=rfl
end DL
namespace DL
open PySem PySem.Spec PyProof.Rows L2
def iF:List D→Option (List Str)
  | []=>some []
  | .str y::ds=>(iF ds).map (y::·)
  | _::_=>none
theorem ly {K:PySem.W.Frag} {mg:Str→Option Value} {μ:Mu} {H:Hp}:∀ {ds:List D} {vs:List V} {ys:List Str},RepAll K mg μ H ds vs→iF ds=some ys→vs=ys.map V.str
  | [],vs,ys,r,e=>by
    cases e
    unfold RepAll at r
    exact r
  | d::ds,vs,ys,r,e=>by
    unfold RepAll at r
    obtain ⟨v,us,rfl,r1,r2⟩:=r
    cases d with
    | str y=>
      unfold iF at e
      obtain ⟨zs,e1,rfl⟩:=Option.map_eq_some_iff.mp e
      have r1:v=V.str y:=by unfold Rep at r1; exact r1
      rw[ly r2 e1,r1]
      rfl
    | _=>cases e
theorem om (ys:List Str):iF (ys.map .str)=some ys:=by
  induction ys with
  | nil=>rfl
  | cons y ys ih=>
    rw[List.map_cons]
    unfold iF
    rw[ih]
    rfl
def fY (a:Str) (xs:List D):Option D:=match iF xs with
  | some ys=>if (ys.map (·.length)).sum+ys.length*a.length≤16777216 then some (.str (Txt.join a ys)) else none
  | none=>none
def gP:BM:=fun S d ds=>match d,ds with
  | .str a,[x]=>match view0 S x with
    | .lst xs=>(fY a xs).map fun d=>(d,S)
    | _=>none
  | _,_=>none
section
variable {X:Cx}
theorem ky:MtR X "str.join" (rM X.K X.mg gP):=gp mt_join fun x xs H Q ⟨μ,S,d,ds,r,S',rs,rd,rds,e,q⟩=>by
  unfold gP at e
  split at e
  · rename_i a y
    unfold Rep at rd
    subst rd
    obtain ⟨v,rfl,rv⟩:=bC rds
    have rw0:=rs.view0 rv
    split at e
    · rename_i zs ev
      rw[ev] at rw0
      obtain ⟨ad,vs,rfl,h1,h2⟩:=rw0
      obtain ⟨d1,e1,e2⟩:=Option.map_eq_some_iff.mp e
      cases e2
      unfold fY at e1
      split at e1
      · rename_i ys e3
        split at e1
        · rename_i hz
          cases e1
          have:=ly h2 e3
          subst this
          exact ⟨a,ad,ys,rfl,rfl,.inl (.of h1),hz,q μ H _ .refl rs (bL _)⟩
        · cases e1
      · cases e1
    · cases e
  · cases e
/-- what stands in a text's gap -/
def fmD:D→Option D
  | .str y=>if y.length≤16777216 then some (.str y) else none
  | .int i=>if i.natAbs<1000000000 then some (.str (toString i)) else none
  | _=>none
def eFm (m:ME):ME:=fun env S=>(m env S).bind fun d S=>ofO S (fmD d)
def jsM:List ME→Str→En→Sto→Res Str
  | [],acc=>fun _ S=>.ok acc S
  | m::ms,acc=>fun env S=>(m env S).bind fun d S=>match d with
    | .str y=>if (acc++y).length≤16777216 then jsM ms (acc++y) env S else .stuck
    | _=>.stuck
def eJs (ms:List ME):ME:=fun env S=>(jsM ms Str.empty env S).bind fun y S=>.ok (.str y) S
inductive PJM (X:Cx) (W:WX):List Expr→List ME→Prop where
  | nil:PJM X W [] []
  | cons {e:Expr} {m:ME} {es:List Expr} {ms:List ME} (h:PE X e (tE X W m)) (r:PJM X W es ms):PJM X W (e::es) (m::ms)
theorem sE_fm {W:WX} {e:Expr} {m:ME} {pos:Pos} (he:PE X e (tE X W m)):PE X (.FormattedValue e (-1) none pos) (tE X W (eFm m)):=
  bf (pe_fmt he) fun σ H Q ⟨env,S,μ,rl,o⟩=>⟨env,S,μ,rl,(Out.bind o).mono fun x H1 ⟨μ1,S1,d,st,rs,rd,o1⟩=>by
    cases d with
    | str y=>
      have rd:x=V.str y:=by unfold Rep at rd; exact rd
      rw[show fmD (.str y)=if y.length≤16777216 then some (.str y) else none from rfl] at o1
      by_cases hz:y.length≤16777216
      · rw[if_pos hz] at o1
        exact .inl ⟨y,rd,by rw[sizeLine_eq]; omega,o1 _ _ _ .refl rs (bL _)⟩
      · rw[if_neg hz] at o1
        exact o1.elim
    | int i=>
      have rd:x=V.int i:=by unfold Rep at rd; exact rd
      rw[show fmD (.int i)=if i.natAbs<1000000000 then some (.str (toString i)) else none from rfl] at o1
      by_cases hz:i.natAbs<1000000000
      · rw[if_pos hz] at o1
        refine .inr ⟨i,rd,?_,o1 _ _ _ .refl rs (bL _)⟩
        by_cases h0:i.natAbs=0
        · rw[h0]; decide
        · refine Nat.lt_trans ((Nat.log2_lt h0).mpr ?_) (show 30<1920 by decide)
          exact Nat.lt_trans hz (by decide)
      · rw[if_neg hz] at o1
        exact o1.elim
    | _=>exact o1.elim⟩
theorem js_run {W:WX} {es:List Expr} {ms:List ME} (h:PJM X W es ms):∃ts,PJ X es ts∧∀(acc:Str) (σ:L2.St) (H:Hp) (Q:Str→Hp→Prop) (env:En) (S:Sto) (μ:Mu),Rl X.K X.mg μ H env σ S→Out X.K X.mg W σ μ H (fun _ _ (a b:Str)=>a=b) Q (jsM ms acc env S)→tJs ts acc σ H Q:=by
  induction h with
  | nil=>exact ⟨[],.nil,fun acc σ H Q env S μ rl o=>o _ _ _ .refl rl.sto rfl⟩
  | @cons e m es ms he r ih=>
    obtain ⟨ts,h1,h2⟩:=ih
    refine ⟨tE X W m::ts,.cons he h1,fun acc σ H Q env S μ rl o=>⟨env,S,μ,rl,(Out.bind o).mono fun x H1 ⟨μ1,S1,d,st,rs,rd,o1⟩=>?_⟩⟩
    cases d with
    | str y=>
      have rd:x=V.str y:=by unfold Rep at rd; exact rd
      have o1:Out X.K X.mg W σ μ1 H1 (fun _ _ (a b:Str)=>a=b) Q (if (acc++y).length≤16777216 then jsM ms (acc++y) env S1 else .stuck):=o1
      by_cases hz:(acc++y).length≤16777216
      · rw[if_pos hz] at o1
        exact ⟨y,rd,by rw[sizeLine_eq]; omega,h2 _ _ _ _ env S1 μ1 ⟨rl.env.step st,rs⟩ o1⟩
      · rw[if_neg hz] at o1
        exact o1.elim
    | _=>exact o1.elim
theorem sE_js {W:WX} {v1 v2:Expr} {rest:List Expr} {ms:List ME} {pos:Pos} (h:PJM X W (v1::v2::rest) ms):PE X (.JoinedStr (v1::v2::rest) pos) (tE X W (eJs ms)):=by
  obtain ⟨ts,h1,h2⟩:=js_run h
  refine bf (pe_joined h1) fun σ H Q ⟨env,S,μ,rl,o⟩=>h2 _ σ H _ env S μ rl ((Out.bind o).mono fun y H1 ⟨μ1,S1,z,st,rs,rd,o1⟩=>?_)
  have rd:z=y:=rd
  subst rd
  exact o1 _ _ _ .refl rs (bL _)
end
@[simp] theorem eFm_at (m:ME) (env:En) (S:Sto):eFm m env S=(m env S).bind fun d S=>ofO S (fmD d):=rfl
@[simp] theorem eJs_at (ms:List ME) (env:En) (S:Sto):eJs ms env S=(jsM ms Str.empty env S).bind fun y S=>.ok (.str y) S:=rfl
@[simp] theorem jsM_nil (acc:Str) (env:En) (S:Sto):jsM [] acc env S=.ok acc S:=rfl
@[simp] theorem jsM_cons (m:ME) (ms:List ME) (acc:Str) (env:En) (S:Sto):jsM (m::ms) acc env S=(m env S).bind fun d S=>match d with
    | .str y=>if (acc++y).length≤16777216 then jsM ms (acc++y) env S else .stuck
    | _=>.stuck:=rfl
end DL
namespace DL
open PySem PySem.Spec PyProof.Rows L2
structure KdS (K:PySem.W.Frag) (w:World) (a:Addr) (tbl:List (Str × Str)):Prop where
  at_:∃es n,KDict K w a es n
  ns:∀x,∃r,PySem.W.nsIn K a x=some r∧(∀y,tbl.lookup x=some y→∃t,r=some (.str y t))∧(tbl.lookup x=none→r=none)
theorem qZ {x:Str}:∀ {es:List DictEntry} {tbl:List (Str × Str)},es.map kvS=tbl.map some→
    (es.any fun e=>e.refKey)=false∧(∀y,tbl.lookup x=some y→∃t,(es.find? fun e=>e.key.isStr x).map (·.val)=some (.str y t))∧(tbl.lookup x=none→(es.find? fun e=>e.key.isStr x).map (·.val)=none)
  | [],[],_=>by simp
  | [],_::_,h=>by simp at h
  | _::_,[],h=>by simp at h
  | e::es,(k,i)::tbl,h=>by
    rw[List.map_cons,List.map_cons,List.cons.injEq] at h
    obtain ⟨h1,h2⟩:=h
    obtain ⟨a,b,c⟩:=qZ (x:=x) h2
    obtain ⟨hash,key,val⟩:=e
    unfold kvS at h1
    split at h1
    · rename_i y t i' t' e1 e2
      dsimp only at e1 e2
      subst e1 e2
      simp only[Option.some.injEq,Prod.mk.injEq] at h1
      obtain ⟨rfl,rfl⟩:=h1
      refine ⟨by rw[List.any_cons,a]; rfl,fun j hj=>?_,fun hj=>?_⟩
      · rw[List.find?_cons]
        show ∃t_1,Option.map (·.val) (match y == x with|true=>some ⟨hash,.str y t,.str i' t'⟩|false=>es.find? fun e=>e.key.isStr x)=some (.str j t_1)
        rw[List.lookup_cons] at hj
        by_cases hxy:y=x
        · subst hxy
          simp at hj ⊢
          exact hj
        · have h1:(y == x)=false:=by simpa using hxy
          have h2:(x == y)=false:=by simpa using Ne.symm hxy
          rw[h2] at hj
          rw[h1]
          exact b j hj
      · rw[List.find?_cons]
        show Option.map (·.val) (match y == x with|true=>some ⟨hash,.str y t,.str i' t'⟩|false=>es.find? fun e=>e.key.isStr x)=none
        rw[List.lookup_cons] at hj
        by_cases hxy:y=x
        · subst hxy
          simp at hj
        · have h1:(y == x)=false:=by simpa using hxy
          have h2:(x == y)=false:=by simpa using Ne.symm hxy
          rw[h2] at hj
          rw[h1]
          exact c hj
    · cases h1
theorem kdS_of {K:PySem.W.Frag} {w:World} {a:Addr} {tbl:List (Str × Str)} (h:∃es n,KDict K w a es n) (hb:kdSB K a tbl=true):KdS K w a tbl:=by
  refine ⟨h,fun x=>?_⟩
  obtain ⟨es,n,D⟩:=h
  unfold kdSB at hb
  rw[D.at_] at hb
  have hb:=of_decide_eq_true hb
  obtain ⟨h1,h2,h3⟩:=qZ (x:=x) hb
  refine ⟨(es.toList.find? fun e=>e.key.isStr x).map (·.val),?_,h2,h3⟩
  unfold PySem.W.nsIn
  rw[D.at_]
  dsimp only
  cases es.toList.find? fun e=>e.key.isStr x with
  | some e=>rfl
  | none=>simp only[h1]; rfl
def eU (tbl:List (Str × Str)) (x:Str) (d:D):D:=match tbl.lookup x with
  | some y=>.str y
  | none=>d
def m5 (tbl:List (Str × Str)) (m md:ME):ME:=fun env S=>(m env S).bind fun d S=>(md env S).bind fun d2 S=>match d with
  | .str x=>.ok (eU tbl x d2) S
  | _=>.stuck
section
variable {X:Cx} {W:WX} {e f:Expr} {m md:ME} {p apos cpos:Pos} {nm:Str} {a:Addr} {tbl:List (Str × Str)}
theorem qa (F:KdS X.K X.w a tbl) (hm:X.mg nm=some (.ref a)) (hg:Gl X nm) (he:PE X e (tE X W m)) (hf:PE X f (tE X W md)) (hd:(nm == ("__debug__":Str))=false:=by decide) (mm:M2 X (.Name nm p) "get" apos e f cpos:=by exact ⟨rfl,rfl,rfl,rfl⟩) :
    PE X (.Call (.Attribute (.Name nm p) "get" apos) [e,f] [] cpos) (tE X W (m5 tbl m md)):=by
  obtain ⟨es,n,D⟩:=F.at_
  refine ⟨fun pins s σ H Q I ⟨env,S,μ,rl,o⟩=>?_⟩
  refine wpAny_Call_method mm.base mm.few mm.line PySem.F.plainAttrs_dict PySem.F.slot_dict_get PySem.F.type_dict_get (thn ((pe_glob (v:=.ref a) hg hm rfl hd).run pins s σ H (fun x H1=>x=V.ref a∧H1=H) I ⟨rfl,rfl⟩) fun u s1 ⟨x,H1,I1,rx,ex,eH⟩=>?_)
  subst ex eH
  obtain rfl:u=Value.ref a:=rx
  have hm1:=PySem.W.mapOf_K (prog:=X.prog) (w:=X.w) I1.kIn D.at_ D.lit
  refine ⟨hm1.typeIs,hm1.noDict,?_⟩
  rw[mm.trees]
  refine Calls.callWith_builtin rfl (Calls.evalArgs_plain (Calls.spliced_cons (thn (he.run pins s1 σ _ _ I1 ⟨env,S,μ,rl,Out.bind o⟩) fun iv s2 ⟨y,H2,I2,ry,μ1,S1,d,st,rs,rd,o1⟩=>Calls.spliced_cons (thn (hf.run pins s2 σ H2 _ I2 ⟨env,S1,μ1,⟨rl.env.step st,rs⟩,Out.bind o1⟩) fun fv s3 ⟨z,H3,I3,rz,μ2,S2,d2,st2,rs2,rd2,o2⟩=>Calls.spliced_nil ?_))))
  cases d with
  | str x=>
    have o2:Out X.K X.mg W σ μ2 H3 (fun μ H a b=>Rep X.K X.mg μ H a b) Q (.ok (eU tbl x d2) S2):=o2
    have ey:y=V.str x:=by unfold Rep at rd; exact rd
    subst ey
    obtain ⟨t,rfl⟩:=ry
    obtain ⟨r0,h1,h2,h3⟩:=F.ns x
    have hm3:=PySem.W.mapOf_K (prog:=X.prog) (w:=X.w) I3.kIn D.at_ D.lit
    refine call_meetsIn PySem.F.slot_dict_get hm3.typeIs PySem.F.entry_dict_get (PySem.F.args_dict_get_3 _ _ _) (meets_dict_get_default (strKind X.prog X.w) a (strKind_is X.prog X.w x t) D.low fv) ⟨_,hm3,?_⟩
    rw[PySem.W.find_K D.at_ h1]
    cases hl:tbl.lookup x with
    | some v=>
      obtain ⟨t2,rfl⟩:=h2 v hl
      have ed:eU tbl x d2=.str v:=by unfold eU; rw[hl]
      rw[ed] at o2
      exact ⟨V.str v,H3,I3.tok _,⟨t2,rfl⟩,o2 _ _ _ .refl rs2 (bL _)⟩
    | none=>
      rw[h3 hl]
      have ed:eU tbl x d2=d2:=by unfold eU; rw[hl]
      rw[ed] at o2
      exact ⟨z,H3,I3.tok _,rz,o2 _ _ _ .refl rs2 rd2⟩
  | _=>exact o2.elim
end
@[simp] theorem eKdGet_at (tbl:List (Str × Str)) (m md:ME) (env:En) (S:Sto):m5 tbl m md env S=(m env S).bind fun d S=>(md env S).bind fun d2 S=>match d with
  | .str x=>.ok (eU tbl x d2) S
  | _=>.stuck:=rfl
end DL
namespace DL
open PySem PySem.Spec PyProof.Rows L2
def lz (_:Sto) (ds:List D):Option D:=match ds with
  | [.str a]=>if a.length≤640 then (PySem.intText? a).map .int else none
  | _=>none
theorem qb {X:Cx}:CallR X (.type "int") (rB X.K X.mg lz):=fF call_int_str fun xs H Q ⟨μ,S,ds,d,rs,ra,e,q⟩=>by
  unfold lz at e
  split at e
  · split at e
    · rename_i a hl
      obtain ⟨n,e1,e2⟩:=Option.map_eq_some_iff.mp e
      cases e2
      obtain ⟨v,rfl,r1⟩:=bC ra
      unfold Rep at r1; subst r1
      exact ⟨a,n,rfl,e1,hl,q H _ .rfl (au _)⟩
    · cases e
  · cases e
@[simp] theorem fIntS_str (S:Sto) (a:Str):lz S [.str a]=if a.length≤640 then (PySem.intText? a).map .int else none:=rfl
end DL
namespace DL
open PySem PySem.Spec PyProof.Rows L2
theorem jU {prog:Program} {w:World} {A:Around} (hh:A.handled=none) {it t:Addr} {items:Array Value} (hne:t≠it) (i0:Nat) (hle:i0≤items.size) :
    WalksS prog w A it [it,t] [it] Eq (items.size - i0) (fun i v=>items[i0+i]?=some v) (fun i s=>s.heap.IsListIter it t (i0+i)∧s.heap.IsList t items) where
  sub:=fun b hb=>by
    have:b=it:=by simpa using hb
    subst this; simp
  grefl:=fun _=>rfl
  gtrans:=fun _ _ _ a b=>a.trans b
  frame:=fun i s h' tk st ht hk=>by
    obtain ⟨⟨o,e1,e2⟩,o',e3,e4⟩:=st
    exact ⟨⟨o,hk it (by simp) o e1,e2⟩,o',hk t (by simp) o' e3,e4⟩
  item:=fun i s Q E hi st hQ=>by
    have hl:i0+i<items.size:=by omega
    refine wpAny_pyNext_list_item st.1 st.2 (Array.getElem?_eq_getElem hl) fun h' hit sb=>?_
    refine hQ _ _ (Array.getElem?_eq_getElem hl) ⟨by rw[show i0+(i+1)=i0+i+1 by omega]; exact hit,?_⟩ ⟨fun b o hb e=>(sb.2 b (by simpa using hb)).trans e,rfl,rfl,rfl,Nat.le_refl _⟩
    obtain ⟨o',e3,e4⟩:=st.2
    exact ⟨o',(sb.2 t hne).trans e3,e4⟩
  done:=fun s Q E st hQ=>by
    refine wpAny_pyNext_list_end hh st.1 st.2 ?_ fun h' eb=>hQ _ ⟨fun b o hb e=>eb b o (by simpa using hb) e,rfl,rfl,rfl,Nat.le_refl _⟩
    rw[show i0+(items.size - i0)=items.size by omega]
    simp
  self:=fun i s Q E st q=>wpAny_pyIter_listiter st.1 q
theorem jx {prog:Program} {w:World} {A:Around} {E:Value→Shared→Prop} {it t:Addr} {items:Array Value} (hne:t≠it):∀(n i:Nat) (s:Shared) (Q:List Value→Shared→Prop),s.heap.IsListIter it t i→s.heap.IsList t items→i+n≤items.size→
    (∀h',h'.IsListIter it t (i+n)→Heap.SameBut it s.heap h'→Q ((items.toList.drop i).take n) { s with heap:=h' })→wpAny (model prog w) A (draw (.ref it) n) Q E s
  | 0,i,s,Q,hit,_,_,hQ=>by
    show wpAny _ _ (pure []) Q E s
    exact wpAny_pure (by simpa using hQ s.heap hit (Heap.SameBut.refl ..))
  | n+1,i,s,Q,hit,ht,hle,hQ=>by
    have hlt:i<items.size:=by omega
    show wpAny _ _ (pyNext (.ref it) >>= _) Q E s
    refine wpAny_bind (wpAny_pyNext_list_item hit ht (x:=items[i]) (by simp[hlt]) fun h₁ hit₁ hs₁=>?_)
    refine wpAny_bind (wpAny_holding (jx hne n (i+1) _ _ hit₁ (ht.extBut hs₁.extBut hne) (by omega) fun h₂ hit₂ hs₂=>wpAny_pure ?_))
    have hd:items.toList.drop i=items[i]::items.toList.drop (i+1):=by simp[List.drop_eq_getElem_cons,hlt]
    have:=hQ h₂ (by rw[show i+(n+1)=i+1+n by omega]; exact hit₂) (hs₁.trans hs₂)
    rw[hd,List.take_succ_cons] at this
    exact this
theorem jV {prog:Program} {w:World} {A:Around} {E:Value→Shared→Prop} {s:Shared} {t:Addr} {items:Array Value} {x0:Value} {Q:List Value→Shared→Prop}
    (hh:A.handled=none) (ht:s.heap.IsList t items) (h0:items[0]?=some x0) (hz:items.size≤sizeLine)
    (hQ:∀(s':Shared),(∀b o,s.heap.get? b=some o→s'.heap.get? b=some o)→s'.gens=s.gens→s'.drawn=s.drawn→s'.os=s.os→Q [x0,.ref s'.heap.objs.size] { s' with heap:=s'.heap.push { cls:=.type "list",data:=.seq (items.toList.drop 1).toArray } }) :
    wpAny (model prog w) A (unpackItems (.ref t) 2 (some 1)) Q E s:=by
  have hlt:t≠s.heap.objs.size:=by
    obtain ⟨o,ho,_⟩:=ht
    exact Nat.ne_of_lt (Heap.lt_size ho)
  have h1:1≤items.size:=by
    have:=(Array.getElem?_eq_some_iff.mp h0).1
    omega
  unfold unpackItems
  refine wpAny_bind ?_
  unfold notIterableAtAll
  refine wpAny_bind (wpAny_specialOf (Heap.IsList.typeIs ht) F.slot_list_iter.lookup (wpAny_pure ?_))
  rw[if_neg Bool.false_ne_true]
  refine wpAny_bind (wpAny_holding (wpAny_pyIter_list ht ?_))
  dsimp only
  obtain ⟨s1,hs1⟩:∃s1:Shared,s1={ s with heap:=s.heap.push { cls:=Value.type "list_iterator",data:=Data.fields #[Value.ref t,Value.int 0 0] } }:=⟨_,rfl⟩
  rw[←hs1]
  have it1:s1.heap.IsListIter s.heap.objs.size t 0:=by rw[hs1]; exact ⟨_,Heap.get?_push_size _ rfl,rfl,rfl⟩
  have ht1:s1.heap.IsList t items:=by rw[hs1]; exact Heap.IsList.push ht _
  refine wpAny_bind (wpAny_holding (jx hlt 1 0 s1 _ it1 ht1 (by omega) fun h₁ hit₁ hs₁=>?_))
  have hall:List.take 1 (List.drop 0 items.toList)=[x0]:=by
    rw[List.drop_zero]
    cases hi:items.toList with
    | nil=>
      have:items.size=0:=by rw[←Array.length_toList,hi]; rfl
      omega
    | cons a r=>
      have:items.toList[0]?=some x0:=by simpa using h0
      rw[hi] at this
      simp at this
      simp[this]
  rw[hall]
  rw[if_neg (by simp)]
  have ht2:h₁.IsList t items:=by
    obtain ⟨o,ho,q⟩:=ht1
    exact ⟨o,(hs₁.2 t hlt).trans ho,q⟩
  have W:=jU (prog:=prog) (w:=w) (A:=A.in1) (by simpa using hh) (items:=items) hlt 1 h1
  refine wpAny_bind (wpAny_holding (wpAny_collect_iter (s:={ s1 with heap:=h₁ }) (T:="list_iterator") (by simp) W (fun i s st=>st.1.typeIs) ⟨hit₁,ht2⟩ (fun b hb=>?_) (by simp) (fun s' acc hm ha=>?_) (by omega)))
  · rcases List.mem_cons.mp hb with rfl|hb
    · obtain ⟨o,e,_⟩:=hit₁
      exact Heap.lt_size e
    · have:b=t:=by simpa using hb
      subst this
      obtain ⟨o,e,_⟩:=ht2
      exact Heap.lt_size e
  · have hacc:acc.toList=items.toList.drop 1:=by
      obtain ⟨a1,a2⟩:=ha
      apply List.ext_getElem?
      intro j
      rw[List.getElem?_drop]
      have e1:acc.toList[j]?=acc[j]?:=by simp
      have e2:items.toList[1+j]?=items[1+j]?:=by simp
      rw[e1,e2]
      cases hj:acc[j]? with
      | some v=>exact (a2 j v hj).symm
      | none=>
        have:=Array.getElem?_eq_none_iff.mp hj
        exact (Array.getElem?_eq_none_iff.mpr (by omega)).symm
    rw[hacc]
    rw[if_neg (by omega)]
    have hl:(items.toList.drop 1).length=items.size - 1:=by simp
    refine wpAny_bind (wpAny_newList ?_ ?_)
    · rw[show (items.toList.drop 1).take ((items.toList.drop 1).length - (2 - 1 - 1))=items.toList.drop 1 from List.take_of_length_le (by omega),show (items.toList.drop 1).drop ((items.toList.drop 1).length - (2 - 1 - 1))=[] from List.drop_of_length_le (by omega)]
      refine wpAny_pure (hQ s' (fun b o e=>?_) ?_ ?_ ?_)
      · have hb:b≠s.heap.objs.size:=Nat.ne_of_lt (Heap.lt_size e)
        refine hm.heap b o (by simpa using hb) ((hs₁.2 b hb).trans ?_)
        rw[hs1]
        exact Heap.get?_push_of_some _ e
      · rw[←hm.gens]; rw[hs1]
      · rw[hm.drawn]; rw[hs1]
      · rw[hm.os]; rw[hs1]
    · rw[List.length_take]
      omega
def sO (K:PySem.W.Frag) (t:TGs):TG:=fun v σ H Q=>∃a x xs,v=V.ref a∧SqL K H a (x::xs)∧∀p,H p=none→t [x,.ref p] σ (upd H p (.lst xs)) Q
section
variable {X:Cx} {a b:Expr} {sp pos:Pos} {k:Nat}
theorem oo {t:TGs} (hc:X.calm=true) (h:PGs X [a,b] t)
    (hn:assignEach [a,.Starred b sp] X.env=[(false,assign a X.env),(true,assign b X.env)]:=by rfl) (hn2:(assignEach [a,b] X.env).map (·.2)=[assign a X.env,assign b X.env]:=by rfl) :
    PG X (.Tuple [a,.Starred b sp] k pos) (sO X.K t):=⟨fun pins s σ H v u Q I r ⟨ad,x,xs,e1,hq,hw⟩=>by
  subst e1
  obtain rfl:u=Value.ref ad:=r
  obtain ⟨its,rv,ht,hz⟩:=I.list hq
  show wpAny _ _ (standAt pos >>= fun _=>unpack (.ref ad) (assignEach [a,.Starred b sp] X.env)) _ _ _
  refine wpAny_bind (wpAny_standAt ?_)
  rw[hn]
  unfold unpack
  refine wpAny_bind (wpAny_holding ?_)
  cases rv with
  | cons rx rxs=>
    rename_i x0 xr
    refine jV (x0:=x0) (items:=(x0::xr).toArray) (I.ok.hd hc) ht.isList (by simp) (by have:=Vals.length rxs; simp at hz ⊢; omega) fun s' hk hg hd ho=>?_
    have e1:s'={ s with heap:=s'.heap,toks:=s'.toks }:=by
      cases s'; cases s
      simp only at hg hd ho
      subst hg hd ho
      rfl
    have I1:Inv X pins σ H { s with heap:=s'.heap,toks:=s'.toks }:=I.kept hk
    rw[←e1] at I1
    have hp:H s'.heap.objs.size=none:=I1.hok.fresh (Nat.le_refl _)
    have I2:=I1.laid (t':=s'.toks) (a:=s'.heap.objs.size) (h':=s'.heap.push { cls:=.type "list",data:=.seq (((x0::xr).toArray.toList.drop 1).toArray) }) (o:=.lst xs) (fun b o e=>Heap.get?_push_of_some _ e) (Nat.le_refl _) ⟨by simp at hz; omega,xr,0,rxs,Heap.get?_push_size _ rfl⟩
    have:=h.run pins _ σ _ [x,.ref s'.heap.objs.size] [x0,.ref s'.heap.objs.size] Q I2 (.cons rx (.cons rfl .nil)) (hw _ hp)
    rw[hn2] at this
    exact this⟩
/-- a,*b=t -/
def iV (gs:MGs):MG:=fun d env S=>match vt d with
  | .lst (x::xs)=>gs [x,.lst xs] env S
  | _=>none
theorem oq {gs:MGs} (hc:X.calm=true) (h:PGs X [a,b] (tGs X gs))
    (hn:assignEach [a,.Starred b sp] X.env=[(false,assign a X.env),(true,assign b X.env)]:=by rfl) (hn2:(assignEach [a,b] X.env).map (·.2)=[assign a X.env,assign b X.env]:=by rfl) :
    PG X (.Tuple [a,.Starred b sp] k pos) (tG X (iV gs)):=
  je (oo hc h hn hn2) fun v σ H Q ⟨env,S,μ,d,rl,r,o⟩=>by
    unfold iV at o
    split at o
    · rename_i x xs ev
      rw[hJ ev nofun] at r
      unfold Rep at r
      obtain ⟨a,vs,rfl,h1,_,h2⟩:=r
      unfold RepAll at h2
      obtain ⟨y,ys,rfl,r1,r2⟩:=h2
      refine ⟨a,y,ys,rfl,.of h1,fun p hp=>?_⟩
      have sm:Sm H (upd H p (.lst ys)):=.upd hp
      have st:Step μ H μ (upd H p (.lst ys)):=.of_sm sm
      exact ⟨env,S,μ,[x,.lst xs],rl.sm sm,.cons (Rep.step st _ _ r1) (.cons (bw rl.sto hp r2) .nil),OutO.of_step st o⟩
    · exact o.elim
end
@[simp] theorem tQ (gs:MGs) (x:D) (xs:List D) (env:En) (S:Sto):iV gs (.lst (x::xs)) env S=gs [x,.lst xs] env S:=rfl
end DL
namespace DL
open PySem PySem.Spec PyProof.Rows L2 LamX
noncomputable section
/-- what the head tells of the names -/
abbrev lvKind:Nat:=13
structure Fx (K:PySem.W.Frag) (mg:Str→Option Value):Prop where
  d_AirError:mg "AirError"=some (.ref (He.ga K "AirError"))
  d_BadChain:mg "BadChain"=some (.ref (He.ga K "BadChain"))
  d_BadClasses:mg "BadClasses"=some (.ref (He.ga K "BadClasses"))
  d_BadCount:mg "BadCount"=some (.ref (He.ga K "BadCount"))
  d_BadDay:mg "BadDay"=some (.ref (He.ga K "BadDay"))
  d_BadDeed:mg "BadDeed"=some (.ref (He.ga K "BadDeed"))
  d_BadFleet:mg "BadFleet"=some (.ref (He.ga K "BadFleet"))
  d_BadName:mg "BadName"=some (.ref (He.ga K "BadName"))
  d_BadNet:mg "BadNet"=some (.ref (He.ga K "BadNet"))
  d_BadPlace:mg "BadPlace"=some (.ref (He.ga K "BadPlace"))
  d_BadText:mg "BadText"=some (.ref (He.ga K "BadText"))
  d_BadTime:mg "BadTime"=some (.ref (He.ga K "BadTime"))
  d_CannotFly:mg "CannotFly"=some (.ref (He.ga K "CannotFly"))
  d_DEEDS:mg "DEEDS"=some (.ref (He.ga K "DEEDS"))
  d_Left:mg "Left"=some (.ref (He.ga K "Left"))
  d_NoBooking:mg "NoBooking"=some (.ref (He.ga K "NoBooking"))
  d_NoClass:mg "NoClass"=some (.ref (He.ga K "NoClass"))
  d_NoDuty:mg "NoDuty"=some (.ref (He.ga K "NoDuty"))
  d_NoKind:mg "NoKind"=some (.ref (He.ga K "NoKind"))
  d_NoLeg:mg "NoLeg"=some (.ref (He.ga K "NoLeg"))
  d_NoPlane:mg "NoPlane"=some (.ref (He.ga K "NoPlane"))
  d_NoSeat:mg "NoSeat"=some (.ref (He.ga K "NoSeat"))
  d_NoWay:mg "NoWay"=some (.ref (He.ga K "NoWay"))
  d_SHAPES:mg "SHAPES"=some (.ref (He.ga K "SHAPES"))
  d_Taken:mg "Taken"=some (.ref (He.ga K "Taken"))
  d_Unmended:mg "Unmended"=some (.ref (He.ga K "Unmended"))
  d__law_deeds:mg "_law_deeds"=some (.ref (He.ga K "_law_deeds"))
  d__law_drawn:mg "_law_drawn"=some (.ref (He.ga K "_law_drawn"))
  d__law_due:mg "_law_due"=some (.ref (He.ga K "_law_due"))
  d__law_kind:mg "_law_kind"=some (.ref (He.ga K "_law_kind"))
  d__law_number:mg "_law_number"=some (.ref (He.ga K "_law_number"))
  d__law_part:mg "_law_part"=some (.ref (He.ga K "_law_part"))
  d__law_ride:mg "_law_ride"=some (.ref (He.ga K "_law_ride"))
  d__law_same:mg "_law_same"=some (.ref (He.ga K "_law_same"))
  d__law_spoilt:mg "_law_spoilt"=some (.ref (He.ga K "_law_spoilt"))
  d__law_start:mg "_law_start"=some (.ref (He.ga K "_law_start"))
  d_deed_of:mg "deed_of"=some (.ref (He.ga K "deed_of"))
  d_is_number:mg "is_number"=some (.ref (He.ga K "is_number"))
  d_is_part:mg "is_part"=some (.ref (He.ga K "is_part"))
  d_is_ride:mg "is_ride"=some (.ref (He.ga K "is_ride"))
  d_need_deeds:mg "need_deeds"=some (.ref (He.ga K "need_deeds"))
  d_number_of:mg "number_of"=some (.ref (He.ga K "number_of"))
  d_part_of:mg "part_of"=some (.ref (He.ga K "part_of"))
  d_part_word:mg "part_word"=some (.ref (He.ga K "part_word"))
  d_read:mg "read"=some (.ref (He.ga K "read"))
  d_shape_of:mg "shape_of"=some (.ref (He.ga K "shape_of"))
  d_written:mg "written"=some (.ref (He.ga K "written"))
  e_BadDeed:ExcI K (He.ga K "BadDeed") (He.ma K (He.ga K "BadDeed") "__init__") (He.ga K "AirError") ["number"]
  e_BadText:ExcI K (He.ga K "BadText") (He.ma K (He.ga K "BadText") "__init__") (He.ga K "AirError") ["row"]
  i_MOST_DAY:∃t,mg "MOST_DAY"=some (.int 60 t)
  i_MOST_FIGURES:∃t,mg "MOST_FIGURES"=some (.int 6 t)
  i_MOST_NUMBER:∃t,mg "MOST_NUMBER"=some (.int 9999 t)
  n_ValueError:mg "ValueError"=none
  n_all:mg "all"=none
  n_bool:mg "bool"=none
  n_enumerate:mg "enumerate"=none
  n_int:mg "int"=none
  n_isinstance:mg "isinstance"=none
  n_len:mg "len"=none
  n_list:mg "list"=none
  n_range:mg "range"=none
  n_str:mg "str"=none
  n_tuple:mg "tuple"=none
  n_zip:mg "zip"=none
  s_FIGURES:∃t,mg "FIGURES"=some (.str "0123456789" t)
  s_LETTERS:∃t,mg "LETTERS"=some (.str "abcdefghijklmnopqrstuvwxyz" t)
  s_MEND:∃t,mg "MEND"=some (.str "n" t)
structure Gx (P:Program) (w:World) (K:PySem.W.Frag) (mg:Str→Option Value) (base:Heap):Prop where
  fx:Fx K mg
  t_DEEDS:KdF K w (He.ga K "DEEDS") [("fly",2),("sell",3),("back",1),("away",1),("late",2),("off",1),("kind",2),("turn",1),("mend",1)]
  s_SHAPES:KdS K w (He.ga K "SHAPES") [("fly","rw"),("sell","wvw"),("back","n"),("away","n"),("late","rn"),("off","r"),("kind","ww"),("turn","n")]
  kx:mX K mg kindsHere
  tb:∀p∈lamDefs,TabB base mg (He.cT K p.1).1 (He.cT K p.1).2
  tm:∀p∈lamDefs,((He.cT K p.1).2,p.2)∈tbs K
  tu:∀p∈lamDefs,∀r∈tbs K,r.1=(He.cT K p.1).2→r.2=p.2
  f_BadText_init__:∃fd,FunD K "__init__" "BadText.__init__" (defArgs (inClass (top 24) 0)) (defBody (inClass (top 24) 0)) (defScope (inClass (top 24) 0)) [] [] (He.ma K (He.ga K "BadText") "__init__") fd
  f_shape_of:∃fd,FunD K "shape_of" "shape_of" (defArgs (top 38)) (defBody (top 38)) (defScope (top 38)) [] [] (He.ga K "shape_of") fd
  f_is_number:∃fd,FunD K "is_number" "is_number" (defArgs (top 29)) (defBody (top 29)) (defScope (top 29)) [] [] (He.ga K "is_number") fd
  f_is_ride:∃fd,FunD K "is_ride" "is_ride" (defArgs (top 39)) (defBody (top 39)) (defScope (top 39)) [] [] (He.ga K "is_ride") fd
  f_is_part:∃fd,FunD K "is_part" "is_part" (defArgs (top 40)) (defBody (top 40)) (defScope (top 40)) [] [] (He.ga K "is_part") fd
  f_number_of:∃fd,FunD K "number_of" "number_of" (defArgs (top 43)) (defBody (top 43)) (defScope (top 43)) [] [] (He.ga K "number_of") fd
  f_part_of:∃fd,FunD K "part_of" "part_of" (defArgs (top 44)) (defBody (top 44)) (defScope (top 44)) [] [] (He.ga K "part_of") fd
  f_deed_of:∃fd,FunD K "deed_of" "deed_of" (defArgs (top 45)) (defBody (top 45)) (defScope (top 45)) [] [] (He.ga K "deed_of") fd
  f_read:∃fd,FunD K "read" "read" (defArgs (top 46)) (defBody (top 46)) (defScope (top 46)) [] [] (He.ga K "read") fd
  f_law_number:∃fd,FunD K "_law_number" "_law_number" (defArgs (top 53)) (defBody (top 53)) (defScope (top 53)) [] [] (He.ga K "_law_number") fd
  f_law_ride:∃fd,FunD K "_law_ride" "_law_ride" (defArgs (top 54)) (defBody (top 54)) (defScope (top 54)) [] [] (He.ga K "_law_ride") fd
  f_law_part:∃fd,FunD K "_law_part" "_law_part" (defArgs (top 55)) (defBody (top 55)) (defScope (top 55)) [] [] (He.ga K "_law_part") fd
  f_law_due:∃fd,FunD K "_law_due" "_law_due" (defArgs (top 56)) (defBody (top 56)) (defScope (top 56)) [] [] (He.ga K "_law_due") fd
  f_law_kind:∃fd,FunD K "_law_kind" "_law_kind" (defArgs (top 51)) (defBody (top 51)) (defScope (top 51)) [] [] (He.ga K "_law_kind") fd
  f_law_same:∃fd,FunD K "_law_same" "_law_same" (defArgs (top 50)) (defBody (top 50)) (defScope (top 50)) [] [] (He.ga K "_law_same") fd
  f_law_drawn:∃fd,FunD K "_law_drawn" "_law_drawn" (defArgs (top 49)) (defBody (top 49)) (defScope (top 49)) [] [] (He.ga K "_law_drawn") fd
  f_law_spoilt:∃fd,FunD K "_law_spoilt" "_law_spoilt" (defArgs (top 57)) (defBody (top 57)) (defScope (top 57)) [] [] (He.ga K "_law_spoilt") fd
  f_law_deeds:∃fd,FunD K "_law_deeds" "_law_deeds" (defArgs (top 52)) (defBody (top 52)) (defScope (top 52)) [] [] (He.ga K "_law_deeds") fd
  f_part_word:∃fd,FunD K "part_word" "part_word" (defArgs (top 41)) (defBody (top 41)) (defScope (top 41)) [] [] (He.ga K "part_word") fd
  f_BadDeed_init__:∃fd,FunD K "__init__" "BadDeed.__init__" (defArgs (inClass (top 23) 0)) (defBody (inClass (top 23) 0)) (defScope (inClass (top 23) 0)) [] [] (He.ma K (He.ga K "BadDeed") "__init__") fd
  f_need_deeds:∃fd,FunD K "need_deeds" "need_deeds" (defArgs (top 32)) (defBody (top 32)) (defScope (top 32)) [] [] (He.ga K "need_deeds") fd
  f_written:∃fd,FunD K "written" "written" (defArgs (top 42)) (defBody (top 42)) (defScope (top 42)) [] [] (He.ga K "written") fd
  f_law_start:∃fd,FunD K "_law_start" "_law_start" (defArgs (top 48)) (defBody (top 48)) (defScope (top 48)) [] [] (He.ga K "_law_start") fd
  f_law:∃fd,FunD K "law" "law" (defArgs (top 58)) (defBody (top 58)) (defScope (top 58)) [] [] (He.ga K "law") fd
theorem gQ {P:Program} {w:World} {K:PySem.W.Frag} {mg:Str→Option Value} {base:Heap} (G:Gx P w K mg base):∃fd,FnOk P w K mg base C8.CX0 1 (He.ma K (He.ga K "BadText") "__init__") fd ["self","row"] (spI (He.ga K "BadText") ["row"])∧Binds K fd ["self","row"] []:=by
  obtain ⟨fd,F⟩:=G.f_BadText_init__
  have fx:=G.fx
  exact ⟨fd,lf (k:=0) fx.e_BadText F ⟨rfl,rfl,rfl,by decide +kernel,rfl,by decide +kernel,by decide +kernel⟩ fx.d_AirError rfl rfl (fun _ _=>⟨plainOf _ _,rfl⟩),F.bindsN (fun _ _ _ _ _ _ us hl=>match us,hl with|[_,_],_=>rfl)⟩
abbrev l0:Stmt:=(top 38)
abbrev N_shape_of:List Str:=["word"]
def jB:MS:=aw (m5 [("fly","rw"),("sell","wvw"),("back","n"),("away","n"),("late","rn"),("off","r"),("kind","ww"),("turn","n")] (eV 0) (eC (.str "n")))
def bY:MF:=bJ 0 jB
theorem iG {P:Program} {w:World} {K:PySem.W.Frag} {mg:Str→Option Value} {base:Heap} (G:Gx P w K mg base):FnE P w K mg base 1 (He.ga K "shape_of") ["word"] bY:=by
  obtain ⟨fd,F⟩:=G.f_shape_of
  have fx:=G.fx
  refine ⟨fd,?_⟩
  refine bE (N:=N_shape_of) (st:=l0) (k:=0) F ⟨rfl,rfl,rfl,by decide +kernel,rfl,by decide +kernel,by decide +kernel⟩ rfl (fun _ _ _ _ _ _ us hl=>match us,hl with|[_],_=>rfl) fun cdv A outer s H E hcd hp hr W tk=>?_
  have nd:N_shape_of.Nodup:=by decide +kernel
  have hu1:=ru1 hr
  have hu64:=dP hr
  have hu65:=dQ hr
  exact (aK (aQ (qa G.s_SHAPES fx.d_SHAPES rfl (aC 0) (kh fx.s_MEND))))
abbrev kz:Stmt:=(top 29)
abbrev N_is_number:List Str:=["thing","low","high"]
def dU:MS:=aw (gj (eB bV (aB (eV 0) (aB (eC (.ty "int")) (aF)))) (gj (eNot (eB bV (aB (eV 0) (aB (eC (.ty "bool")) (aF))))) (eO (lv dLe) (lv dLe) (eV 1) (eV 0) (eV 2))))
def ar:MF:=bJ 0 dU
theorem eW {P:Program} {w:World} {K:PySem.W.Frag} {mg:Str→Option Value} {base:Heap} (G:Gx P w K mg base):FnE P w K mg base 1 (He.ga K "is_number") ["thing","low","high"] ar:=by
  obtain ⟨fd,F⟩:=G.f_is_number
  have fx:=G.fx
  refine ⟨fd,?_⟩
  refine bE (N:=N_is_number) (st:=kz) (k:=0) F ⟨rfl,rfl,rfl,by decide +kernel,rfl,by decide +kernel,by decide +kernel⟩ rfl (fun _ _ _ _ _ _ us hl=>match us,hl with|[_,_,_],_=>rfl) fun cdv A outer s H E hcd hp hr W tk=>?_
  have nd:N_is_number.Nodup:=by decide +kernel
  have hu1:=ru1 hr
  have hu64:=dP hr
  have hu65:=dQ hr
  exact (aK (aQ (dY (am c6 rfl fx.n_isinstance aH (aA (aC 0) (aA (cO rfl fx.n_int gq) aD))) (dY (sE_not (am c6 rfl fx.n_isinstance aH (aA (aC 0) (aA (cO rfl fx.n_bool kj) aD)))) (fo (pT kL kL (aC 1) (aC 0) (aC 2)))))))
abbrev m6:Stmt:=(top 39)
abbrev N_is_ride:List Str:=["thing"]
def gx:MS:=aP (sIf (dj (cK (dO (eB bV (aB (eV 0) (aB (eC (.ty "tuple")) (aF)))))) (tOf (aL (lv dNe) (eB aq (aB (eV 0) (aF))) (eC (.int 2))))) (aw (eC (.bool false))) (bS))
  (aw (gj (aO 3 ar (aB (aL fIx (eV 0) (eC (.int 0))) (aB (eC (.int 0)) (aB (eC (.int 60)) (aF))))) (aO 3 ar (aB (aL fIx (eV 0) (eC (.int 1))) (aB (eC (.int 1)) (aB (eC (.int 9999)) (aF)))))))
def bH:MF:=bJ 0 gx
theorem fu {P:Program} {w:World} {K:PySem.W.Frag} {mg:Str→Option Value} {base:Heap} (G:Gx P w K mg base):FnE P w K mg base 2 (He.ga K "is_ride") ["thing"] bH:=by
  obtain ⟨fd,F⟩:=G.f_is_ride
  have fx:=G.fx
  refine ⟨fd,?_⟩
  refine bE (N:=N_is_ride) (st:=m6) (k:=1) F ⟨rfl,rfl,rfl,by decide +kernel,rfl,by decide +kernel,by decide +kernel⟩ rfl (fun _ _ _ _ _ _ us hl=>match us,hl with|[_],_=>rfl) fun cdv A outer s H E hcd hp hr W tk=>?_
  have nd:N_is_ride.Nodup:=by decide +kernel
  have hu1:=ru1 hr
  have hu64:=dP hr
  have hu65:=dQ hr
  exact (aE (a8 (cx (dF (cX (cP (am c6 rfl fx.n_isinstance aH (aA (aC 0) (aA (cO rfl fx.n_tuple bU) aD))))) (dE (aR (fU hu64) (am cM rfl fx.n_len bT (aA (aC 0) aD)) aJ (by with_unfolding_all rfl))))) (aK (aQ eN)) aU)
    (aK (aQ (dY (aM (ps:=["thing","low","high"]) (m:=ar) (eW G) (hr.mono (by decide)) fx.d_is_number tk (aA (ai hu1 (aC 0) aJ) (aA aJ (aA (kg fx.i_MOST_DAY) aD)))) (fo (aM (ps:=["thing","low","high"]) (m:=ar) (eW G) (hr.mono (by decide)) fx.d_is_number tk (aA (ai hu1 (aC 0) aJ) (aA aJ (aA (kg fx.i_MOST_NUMBER) aD)))))))))
abbrev m8:Stmt:=(top 40)
abbrev N_is_part:List Str:=["thing","shape","one","sign"]
def dB:MS:=aP (sIf (tOf (aL (lv dEq) (eV 1) (eC (.str "r")))) (aw (aO 1 bH (aB (eV 0) (aF)))) (bS))
  (aP (sIf (tOf (aL (lv dEq) (eV 1) (eC (.str "v")))) (aw (gj (eB bV (aB (eV 0) (aB (eC (.ty "tuple")) (aF)))) (gj (aL (lv dNe) (eV 0) (cH (aF))) (eB jQ (aB (cC (fV (eV 0)) (gV 2) (b9) (aO 1 bH (aB (eV 2) (aF))) [2]) (aF)))))) (bS))
  (aP (sIf (tOf (aL (lv dEq) (eV 1) (eC (.str "n")))) (aw (aO 3 ar (aB (eV 0) (aB (eC (.int 0)) (aB (eC (.int 999999)) (aF)))))) (bS))
  (aw (gj (eB bV (aB (eV 0) (aB (eC (.ty "str")) (aF)))) (gj (aL (lv dNe) (eV 0) (eC (.str ""))) (eB jQ (aB (cC (fV (eV 0)) (gV 3) (b9) (aL fIn (eV 3) (eC (.str "abcdefghijklmnopqrstuvwxyz"))) [3]) (aF))))))))
def a4:MF:=bJ 2 dB
theorem jC {P:Program} {w:World} {K:PySem.W.Frag} {mg:Str→Option Value} {base:Heap} (G:Gx P w K mg base):FnE P w K mg base 3 (He.ga K "is_part") ["thing","shape"] a4:=by
  obtain ⟨fd,F⟩:=G.f_is_part
  have fx:=G.fx
  refine ⟨fd,?_⟩
  refine bE (N:=N_is_part) (st:=m8) (k:=2) F ⟨rfl,rfl,rfl,by decide +kernel,rfl,by decide +kernel,by decide +kernel⟩ rfl (fun _ _ _ _ _ _ us hl=>match us,hl with|[_,_],_=>rfl) fun cdv A outer s H E hcd hp hr W tk=>?_
  have nd:N_is_part.Nodup:=by decide +kernel
  have hu1:=ru1 hr
  have hu64:=dP hr
  have hu65:=dQ hr
  exact (aE (a8 (aR (dD hu64) (aC 1) aI (by with_unfolding_all rfl)) (aK (aQ (aM (ps:=["thing"]) (m:=bH) (fu G) (hr.mono (by decide)) fx.d_is_ride tk (aA (aC 0) aD)))) aU)
    (aE (a8 (aR (dD hu64) (aC 1) aI (by with_unfolding_all rfl)) (aK (aQ (dY (am c6 rfl fx.n_isinstance aH (aA (aC 0) (aA (cO rfl fx.n_tuple bU) aD))) (dY (dC (fU hu64) (aC 0) (bB aD) (by with_unfolding_all rfl)) (fo (am (ni rfl) rfl fx.n_all ki (aA (cj (own:=[("one",2)]) rfl nd (cY (aC 0)) (blkOk_by (by kernel_rfl)) (fun _ _ _ _ _=>(bD (i:=2) nd rfl (by first|exact .inl rfl|exact .inr rfl) (by decide))) (fun _ _ _ _ _=>b4) (fun _ _ _ _ _=>(aM (ps:=["thing"]) (m:=bH) (fu G) (hr.mono (by decide)) fx.d_is_ride takes0 (aA (aC 2) aD)))) aD))))))) aU)
    (aE (a8 (aR (dD hu64) (aC 1) aI (by with_unfolding_all rfl)) (aK (aQ (aM (ps:=["thing","low","high"]) (m:=ar) (eW G) (hr.mono (by decide)) fx.d_is_number tk (aA (aC 0) (aA aJ (aA aJ aD)))))) aU)
    (aK (aQ (dY (am c6 rfl fx.n_isinstance aH (aA (aC 0) (aA (cO rfl fx.n_str mW) aD))) (dY (dC (fU hu64) (aC 0) aI (by with_unfolding_all rfl)) (fo (am (ni rfl) rfl fx.n_all ki (aA (cj (own:=[("sign",3)]) rfl nd (cY (aC 0)) (blkOk_by (by kernel_rfl)) (fun _ _ _ _ _=>(bD (i:=3) nd rfl (by first|exact .inl rfl|exact .inr rfl) (by decide))) (fun _ _ _ _ _=>b4) (fun _ _ _ _ _=>(dC (kM hu65) (aC 3) (kh fx.s_LETTERS) (by with_unfolding_all rfl)))) aD))))))))))
abbrev k4:Stmt:=(top 43)
abbrev N_number_of:List Str:=["word","sign"]
def iH:MS:=aP (sIf (dj (cK (tOf (eO (lv dLe) (lv dLe) (eC (.int 1)) (eB aq (aB (eV 0) (aF))) (eC (.int 6))))) (cK (dO (eB jQ (aB (cC (fV (eV 0)) (gV 1) (b9) (aL fIn (eV 1) (eC (.str "0123456789"))) [1]) (aF)))))) (aw (eC .none)) (bS))
  (aw (eIf (dj (tOf (aL (lv dEq) (eV 0) (eC (.str "0")))) (tOf (aL (lv dNe) (aL fIx (eV 0) (eC (.int 0))) (eC (.str "0"))))) (eB lz (aB (eV 0) (aF))) (eC .none)))
def bz:MF:=bJ 1 iH
theorem gR {P:Program} {w:World} {K:PySem.W.Frag} {mg:Str→Option Value} {base:Heap} (G:Gx P w K mg base):FnE P w K mg base 1 (He.ga K "number_of") ["word"] bz:=by
  obtain ⟨fd,F⟩:=G.f_number_of
  have fx:=G.fx
  refine ⟨fd,?_⟩
  refine bE (N:=N_number_of) (st:=k4) (k:=0) F ⟨rfl,rfl,rfl,by decide +kernel,rfl,by decide +kernel,by decide +kernel⟩ rfl (fun _ _ _ _ _ _ us hl=>match us,hl with|[_],_=>rfl) fun cdv A outer s H E hcd hp hr W tk=>?_
  have nd:N_number_of.Nodup:=by decide +kernel
  have hu1:=ru1 hr
  have hu64:=dP hr
  have hu65:=dQ hr
  exact (aE (a8 (cx (dF (cX (im kL kL aJ (am cM rfl fx.n_len bT (aA (aC 0) aD)) (kg fx.i_MOST_FIGURES))) (dE (cX (cP (am (ni rfl) rfl fx.n_all ki (aA (cj (own:=[("sign",1)]) rfl nd (cY (aC 0)) (blkOk_by (by kernel_rfl)) (fun _ _ _ _ _=>(bD (i:=1) nd rfl (by first|exact .inl rfl|exact .inr rfl) (by decide))) (fun _ _ _ _ _=>b4) (fun _ _ _ _ _=>(dC (kM hu65) (aC 1) (kh fx.s_FIGURES) (by with_unfolding_all rfl)))) aD))))))) (aK (aQ bM)) aU)
    (aK (aQ (ei (cx (dF (aR (dD hu64) (aC 0) aI (by with_unfolding_all rfl)) (dE (aR (fU hu64) (ai hu1 (aC 0) aJ) aI (by with_unfolding_all rfl))))) (eq qb rfl fx.n_int gq (aA (aC 0) aD)) bM))))
abbrev jD:Stmt:=(top 44)
abbrev N_part_of:List Str:=["word","shape","numbers","rides","one"]
def a5:Nat→MF
  | 0=>bJ 3 eP
  | n+1=>bJ 3 (aP (sIf (tOf (aL (lv dEq) (eV 1) (eC (.str "n")))) (aw (aO 1 bz (aB (eV 0) (aF)))) (bS))
  (aP (sIf (tOf (aL (lv dEq) (eV 1) (eC (.str "r")))) (aP (al 2 (cC (fV (eM az bx (eV 0) (aB (eC (.str ":")) (aF)))) (gV 4) (b9) (aO 1 bz (aB (eV 4) (aF))) [4]))
  (aw (eIf (nY (tOf (aL (lv dEq) (eB aq (aB (eV 2) (aF))) (eC (.int 2)))) (dO (aO 1 bH (aB (eB eS (aB (eV 2) (aF))) (aF))))) (eB eS (aB (eV 2) (aF))) (eC .none)))) (bS))
  (aP (sIf (tOf (aL (lv dEq) (eV 1) (eC (.str "v")))) (aP (al 3 (cC (fV (eM az bx (eV 0) (aB (eC (.str ",")) (aF)))) (gV 4) (b9) (aO 2 (a5 n) (aB (eV 4) (aB (eC (.str "r")) (aF)))) [4]))
  (aw (eIf (tOf (aL fIn (eC .none) (eV 3))) (eC .none) (eB eS (aB (eV 3) (aF)))))) (bS))
  (aw (eIf (dO (aO 2 a4 (aB (eV 0) (aB (eV 1) (aF))))) (eV 0) (eC .none))))))
theorem jE {P:Program} {w:World} {K:PySem.W.Frag} {mg:Str→Option Value} {base:Heap} (G:Gx P w K mg base):∀n:Nat,FnE P w K mg base (n+4) (He.ga K "part_of") ["word","shape"] (a5 n)
  | 0=>by
    obtain ⟨fd,F⟩:=G.f_part_of
    have h:FnE P w K mg base 4 (He.ga K "part_of") ["word","shape"] (bJ 3 eP):=by
      refine ⟨fd,?_⟩
      refine bE (N:=N_part_of) (st:=jD) (k:=3) F ⟨rfl,rfl,rfl,by decide +kernel,rfl,by decide +kernel,by decide +kernel⟩ rfl (fun _ _ _ _ _ _ us hl=>match us,hl with|[_,_],_=>rfl) fun cdv A outer s H E hcd hp hr W tk=>?_
      exact gr
    rw[Nat.zero_add]
    exact h
  | n+1=>by
    have ih:=jE G n
    obtain ⟨fd,F⟩:=G.f_part_of
    have fx:=G.fx
    have h:FnE P w K mg base (n+4+1) (He.ga K "part_of") ["word","shape"] (a5 (n+1)):=by
      refine ⟨fd,?_⟩
      refine bE (N:=N_part_of) (st:=jD) (k:=n+4) F ⟨rfl,rfl,rfl,by decide +kernel,rfl,by decide +kernel,by decide +kernel⟩ rfl (fun _ _ _ _ _ _ us hl=>match us,hl with|[_,_],_=>rfl) fun cdv A outer s H E hcd hp hr W tk=>?_
      have nd:N_part_of.Nodup:=by decide +kernel
      have hu1:=ru1 hr
      have hu64:=dP hr
      have hu65:=dQ hr
      exact (aE (a8 (aR (dD hu64) (aC 1) aI (by with_unfolding_all rfl)) (aK (aQ (aM (ps:=["word"]) (m:=bz) (gR G) (hr.mono (by omega)) fx.d_number_of tk (aA (aC 0) aD)))) aU)
    (aE (a8 (aR (dD hu64) (aC 1) aI (by with_unfolding_all rfl)) (aE (cZ (own:=[("one",4)]) (i:=2) rfl nd rfl rfl rfl (cY (dZ cR PySem.F.plainAttrs_str PySem.F.slot_str_split PySem.F.type_str_split cm (aC 0) (aA aI aD))) (blkOk_by (by kernel_rfl)) (fun _ _ _ _ _=>(bD (i:=4) nd rfl (by first|exact .inl rfl|exact .inr rfl) (by decide))) (fun _ _ _ _ _=>b4) (fun _ _ _ _ _=>(aM (ps:=["word"]) (m:=bz) (gR G) (hr.mono (by omega)) fx.d_number_of takes0 (aA (aC 4) aD))))
    (aK (aQ (ei (cx (sW_and (aR (dD hu64) (am cM rfl fx.n_len bT (aA (aC 2) aD)) aJ (by with_unfolding_all rfl)) (rT (cP (aM (ps:=["thing"]) (m:=bH) (fu G) (hr.mono (by omega)) fx.d_is_ride tk (aA (eq hV rfl fx.n_tuple bU (aA (aC 2) aD)) aD)))))) (eq hV rfl fx.n_tuple bU (aA (aC 2) aD)) bM)))) aU)
    (aE (a8 (aR (dD hu64) (aC 1) aI (by with_unfolding_all rfl)) (aE (cZ (own:=[("one",4)]) (i:=3) rfl nd rfl rfl rfl (cY (dZ cR PySem.F.plainAttrs_str PySem.F.slot_str_split PySem.F.type_str_split cm (aC 0) (aA aI aD))) (blkOk_by (by kernel_rfl)) (fun _ _ _ _ _=>(bD (i:=4) nd rfl (by first|exact .inl rfl|exact .inr rfl) (by decide))) (fun _ _ _ _ _=>b4) (fun _ _ _ _ _=>(aM (ps:=["word","shape"]) (m:=(a5 n)) ih hr fx.d_part_of takes0 (aA (aC 4) (aA aI aD)))))
    (aK (aQ (ei (aR (kM hu65) bM (aC 3) (by with_unfolding_all rfl)) bM (eq hV rfl fx.n_tuple bU (aA (aC 3) aD)))))) aU)
    (aK (aQ (ei (cP (aM (ps:=["thing","shape"]) (m:=a4) (jC G) (hr.mono (by omega)) fx.d_is_part tk (aA (aC 0) (aA (aC 1) aD)))) (aC 0) bM))))))
    rw[show n+1+4=n+4+1 by omega]
    exact h
abbrev m9:Stmt:=(top 45)
abbrev N_deed_of:List Str:=["row","word","rest","parts","one","shape"]
def jy:MS:=aP (lR (eM az bx (eV 0) (aB (eC (.str " ")) (aF))) (iV (a9 (gV 1) (a9 (gV 2) (dS)))))
  (aP (sIf (dj (tOf (iE true [("fly",2),("sell",3),("back",1),("away",1),("late",2),("off",1),("kind",2),("turn",1),("mend",1)] (eV 1))) (tOf (aL (lv dNe) (eB aq (aB (eV 2) (aF))) (i7 [("fly",2),("sell",3),("back",1),("away",1),("late",2),("off",1),("kind",2),("turn",1),("mend",1)] (eV 1))))) (aw (eC .none)) (bS))
  (aP (al 3 (cC (qX (aB (eV 2) (aB (aO 1 bY (aB (eV 1) (aF))) (aF)))) (dG 2 (a9 (gV 4) (a9 (gV 5) (dS)))) (b9) (aO 2 (a5 2) (aB (eV 4) (aB (eV 5) (aF)))) [4,5]))
  (aw (eIf (tOf (aL fIn (eC .none) (eV 3))) (eC .none) (aL (lv0 bO) (cH (aB (eV 1) (aF))) (eB eS (aB (eV 3) (aF))))))))
def eE:MF:=bJ 5 jy
theorem nA {P:Program} {w:World} {K:PySem.W.Frag} {mg:Str→Option Value} {base:Heap} (G:Gx P w K mg base):FnE P w K mg base 7 (He.ga K "deed_of") ["row"] eE:=by
  obtain ⟨fd,F⟩:=G.f_deed_of
  have fx:=G.fx
  refine ⟨fd,?_⟩
  refine bE (N:=N_deed_of) (st:=m9) (k:=6) F ⟨rfl,rfl,rfl,by decide +kernel,rfl,by decide +kernel,by decide +kernel⟩ rfl (fun _ _ _ _ _ _ us hl=>match us,hl with|[_],_=>rfl) fun cdv A outer s H E hcd hp hr W tk=>?_
  have nd:N_deed_of.Nodup:=by decide +kernel
  have hu1:=ru1 hr
  have hu64:=dP hr
  have hu65:=dQ hr
  exact (aE (io (dZ cR PySem.F.plainAttrs_str PySem.F.slot_str_split PySem.F.type_str_split cm (aC 0) (aA aI aD)) (oq rfl (co (b3 (i:=1) nd rfl (by first|exact .inl rfl|exact .inr rfl)) (co (b3 (i:=2) nd rfl (by first|exact .inl rfl|exact .inr rfl)) iS))))
    (aE (a8 (cx (dF (nz (.inr ⟨rfl,rfl⟩) G.t_DEEDS fx.d_DEEDS rfl (aC 1)) (dE (aR (fU hu64) (am cM rfl fx.n_len bT (aA (aC 2) aD)) (n4 G.t_DEEDS fx.d_DEEDS rfl (aC 1)) (by with_unfolding_all rfl))))) (aK (aQ bM)) aU)
    (aE (cZ (own:=[("one",4),("shape",5)]) (i:=3) rfl nd rfl rfl rfl (sN rfl fx.n_zip (aA (aC 2) (aA (aM (ps:=["word"]) (m:=bY) (iG G) (hr.mono (by decide)) fx.d_shape_of tk (aA (aC 1) aD)) aD))) (blkOk_by (by kernel_rfl)) (fun _ _ _ _ _=>(mO rfl (dn (bD (i:=4) nd rfl (by first|exact .inl rfl|exact .inr rfl) (by decide)) (dn (bD (i:=5) nd rfl (by first|exact .inl rfl|exact .inr rfl) (by decide)) kR)))) (fun _ _ _ _ _=>b4) (fun _ _ _ _ _=>(aM (ps:=["word","shape"]) (m:=(a5 2)) (jE G 2) (hr.mono (by decide)) fx.d_part_of takes0 (aA (aC 4) (aA (aC 5) aD)))))
    (aK (aQ (ei (aR (kM hu65) bM (aC 3) (by with_unfolding_all rfl)) bM (aS bP (bB (aA (aC 1) aD)) (eq hV rfl fx.n_tuple bU (aA (aC 3) aD)))))))))
abbrev sP:Stmt:=(top 46)
abbrev N_read:List Str:=["text","found","number","row","deed"]
def nB:MS:=aP (al 1 (hB (aF)))
  (aP (fW (eR (aB (eIf (tOf (aL (lv dNe) (eV 0) (eC (.str "")))) (eM az bx (eV 0) (aB (eC (.str "\n")) (aF))) (bv (aF))) (aF))) (dG 2 (a9 (gV 2) (a9 (gV 3) (dS)))) (aP (al 4 (aO 1 eE (aB (eV 3) (aF))))
  (aP (sIf (tOf (aL (lv dIsN) (eV 4) (eC .none))) (c9 "BadText" ["row"] (aB (eV 2) (aF))) (bS))
  (gD (eM cA bq (eV 1) (aB (eV 4) (aF)))))))
  (aw (eV 1)))
def eX:MF:=bJ 4 nB
theorem sQ {P:Program} {w:World} {K:PySem.W.Frag} {mg:Str→Option Value} {base:Heap} (G:Gx P w K mg base):FnE P w K mg base 8 (He.ga K "read") ["text"] eX:=by
  obtain ⟨fd,F⟩:=G.f_read
  have fx:=G.fx
  refine ⟨fd,?_⟩
  refine bE (N:=N_read) (st:=sP) (k:=7) F ⟨rfl,rfl,rfl,by decide +kernel,rfl,by decide +kernel,by decide +kernel⟩ rfl (fun _ _ _ _ _ _ us hl=>match us,hl with|[_],_=>rfl) fun cdv A outer s H E hcd hp hr W tk=>?_
  have nd:N_read.Nodup:=by decide +kernel
  have hu1:=ru1 hr
  have hu64:=dP hr
  have hu65:=dQ hr
  exact (aE (aT (i:=1) nd rfl (by first|exact .inl rfl|exact .inr rfl) (gA aD))
    (aE (fE hp rfl (kQ rfl fx.n_enumerate (aA (ei (aR (fU hu64) (aC 0) aI (by with_unfolding_all rfl)) (dZ cR PySem.F.plainAttrs_str PySem.F.slot_str_split PySem.F.type_str_split cm (aC 0) (aA aI aD)) (av aD)) aD)) (mK rfl (co (b3 (i:=2) nd rfl (by first|exact .inl rfl|exact .inr rfl)) (co (b3 (i:=3) nd rfl (by first|exact .inl rfl|exact .inr rfl)) iS))) (aE (aT (i:=4) nd rfl (by first|exact .inl rfl|exact .inr rfl) (aM (ps:=["row"]) (m:=eE) (nA G) (hr.mono (by decide)) fx.d_deed_of tk (aA (aC 3) aD)))
    (aE (a8 (aR o_is (aC 4) bM (by with_unfolding_all rfl)) (aK (dq (ns:=["row"]) rfl tk fx.e_BadText (gQ G) (hr.mono (by decide)) fx.d_BadText rfl (aA (aC 2) aD))) aU)
    (aK (fN (dZ gn PySem.F.plainAttrs_list PySem.F.slot_list_append PySem.F.type_list_append gK (aC 1) (aA (aC 4) aD)))))))
    (aK (aQ (aC 1)))))
abbrev jW:Stmt:=(top 53)
abbrev N_law_number:List Str:=["_law_word","_law_sign"]
def gS:MS:=aP (sIf (dj (cK (tOf (eO (lv dLe) (lv dLe) (eC (.int 1)) (eB aq (aB (eV 0) (aF))) (eC (.int 6))))) (tOf (aL (lv dNe) (cC (fV (eV 0)) (gV 1) (tOf (aL fk (eV 1) (eC (.str "0123456789")))) (eV 1) [1]) (bv (aF))))) (aw (eC .none)) (bS))
  (aw (eIf (dj (tOf (aL (lv dEq) (eB aq (aB (eV 0) (aF))) (eC (.int 1)))) (tOf (aL (lv dNe) (aL fIx (eV 0) (eC (.int 0))) (eC (.str "0"))))) (eB lz (aB (eV 0) (aF))) (eC .none)))
def bZ:MF:=bJ 1 gS
theorem fZ {P:Program} {w:World} {K:PySem.W.Frag} {mg:Str→Option Value} {base:Heap} (G:Gx P w K mg base):FnE P w K mg base 1 (He.ga K "_law_number") ["_law_word"] bZ:=by
  obtain ⟨fd,F⟩:=G.f_law_number
  have fx:=G.fx
  refine ⟨fd,?_⟩
  refine bE (N:=N_law_number) (st:=jW) (k:=0) F ⟨rfl,rfl,rfl,by decide +kernel,rfl,by decide +kernel,by decide +kernel⟩ rfl (fun _ _ _ _ _ _ us hl=>match us,hl with|[_],_=>rfl) fun cdv A outer s H E hcd hp hr W tk=>?_
  have nd:N_law_number.Nodup:=by decide +kernel
  have hu1:=ru1 hr
  have hu64:=dP hr
  have hu65:=dQ hr
  exact (aE (a8 (cx (dF (cX (im kL kL aJ (am cM rfl fx.n_len bT (aA (aC 0) aD)) aJ)) (dE (aR (fU hu64) (cj (own:=[("_law_sign",1)]) rfl nd (cY (aC 0)) (blkOk_by (by kernel_rfl)) (fun _ _ _ _ _=>(bD (i:=1) nd rfl (by first|exact .inl rfl|exact .inr rfl) (by decide))) (fun _ _ _ _ _=>(kS (aR (nX hu65) (aC 1) aI (by with_unfolding_all rfl)))) (fun _ _ _ _ _=>(aC 1))) (av aD) (by with_unfolding_all rfl))))) (aK (aQ bM)) aU)
    (aK (aQ (ei (cx (dF (aR (dD hu64) (am cM rfl fx.n_len bT (aA (aC 0) aD)) aJ (by with_unfolding_all rfl)) (dE (aR (fU hu64) (ai hu1 (aC 0) aJ) aI (by with_unfolding_all rfl))))) (eq qb rfl fx.n_int gq (aA (aC 0) aD)) bM))))
abbrev l4:Stmt:=(top 54)
abbrev N_law_ride:List Str:=["_law_word","_law_numbers","_law_part_here"]
def jF:MS:=aP (al 1 (cC (fV (eM az bx (eV 0) (aB (eC (.str ":")) (aF)))) (gV 2) (b9) (aO 1 bZ (aB (eV 2) (aF))) [2]))
  (aP (sIf (dj (tOf (aL (lv dNe) (eB aq (aB (eV 1) (aF))) (eC (.int 2)))) (dj (tOf (aL fIn (eC .none) (eV 1))) (dj (tOf (aL (lv dGt) (aL fIx (eV 1) (eC (.int 0))) (eC (.int 60)))) (cK (tOf (eO (lv dLe) (lv dLe) (eC (.int 1)) (aL fIx (eV 1) (eC (.int 1))) (eC (.int 9999)))))))) (aw (eC .none)) (bS))
  (aw (eB eS (aB (eV 1) (aF)))))
def cJ:MF:=bJ 2 jF
theorem iI {P:Program} {w:World} {K:PySem.W.Frag} {mg:Str→Option Value} {base:Heap} (G:Gx P w K mg base):FnE P w K mg base 2 (He.ga K "_law_ride") ["_law_word"] cJ:=by
  obtain ⟨fd,F⟩:=G.f_law_ride
  have fx:=G.fx
  refine ⟨fd,?_⟩
  refine bE (N:=N_law_ride) (st:=l4) (k:=1) F ⟨rfl,rfl,rfl,by decide +kernel,rfl,by decide +kernel,by decide +kernel⟩ rfl (fun _ _ _ _ _ _ us hl=>match us,hl with|[_],_=>rfl) fun cdv A outer s H E hcd hp hr W tk=>?_
  have nd:N_law_ride.Nodup:=by decide +kernel
  have hu1:=ru1 hr
  have hu64:=dP hr
  have hu65:=dQ hr
  exact (aE (cZ (own:=[("_law_part_here",2)]) (i:=1) rfl nd rfl rfl rfl (cY (dZ cR PySem.F.plainAttrs_str PySem.F.slot_str_split PySem.F.type_str_split cm (aC 0) (aA aI aD))) (blkOk_by (by kernel_rfl)) (fun _ _ _ _ _=>(bD (i:=2) nd rfl (by first|exact .inl rfl|exact .inr rfl) (by decide))) (fun _ _ _ _ _=>b4) (fun _ _ _ _ _=>(aM (ps:=["_law_word"]) (m:=bZ) (fZ G) (hr.mono (by decide)) fx.d__law_number takes0 (aA (aC 2) aD))))
    (aE (a8 (cx (dF (aR (fU hu64) (am cM rfl fx.n_len bT (aA (aC 1) aD)) aJ (by with_unfolding_all rfl)) (dF (aR (kM hu65) bM (aC 1) (by with_unfolding_all rfl)) (dF (aR o_gt (ai hu1 (aC 1) aJ) aJ (by with_unfolding_all rfl)) (dE (cX (im kL kL aJ (ai hu1 (aC 1) aJ) aJ))))))) (aK (aQ bM)) aU)
    (aK (aQ (eq hV rfl fx.n_tuple bU (aA (aC 1) aD))))))
abbrev l5:Stmt:=(top 55)
abbrev N_law_part:List Str:=["_law_word","_law_sign","_law_rides","_law_good","_law_part_here","_law_one"]
def jG:MS:=aP (sIf (tOf (aL (lv dEq) (eV 1) (eC (.str "n")))) (aw (aO 1 bZ (aB (eV 0) (aF)))) (bS))
  (aP (sIf (tOf (aL (lv dEq) (eV 1) (eC (.str "r")))) (aw (aO 1 cJ (aB (eV 0) (aF)))) (bS))
  (aP (sIf (tOf (aL (lv dEq) (eV 1) (eC (.str "v")))) (aP (al 2 (cC (fV (eM az bx (eV 0) (aB (eC (.str ",")) (aF)))) (gV 4) (b9) (aO 1 cJ (aB (eV 4) (aF))) [4]))
  (aw (eIf (tOf (aL fIn (eC .none) (eV 2))) (eC .none) (eB eS (aB (eV 2) (aF)))))) (bS))
  (aP (al 3 (gj (aL (lv dNe) (eV 0) (eC (.str ""))) (aL (lv dEq) (cC (fV (eV 0)) (gV 5) (tOf (aL fk (eV 5) (eC (.str "abcdefghijklmnopqrstuvwxyz")))) (eV 5) [5]) (bv (aF)))))
  (aw (eIf (dO (eV 3)) (eV 0) (eC .none))))))
def dJ:MF:=bJ 4 jG
theorem l6 {P:Program} {w:World} {K:PySem.W.Frag} {mg:Str→Option Value} {base:Heap} (G:Gx P w K mg base):FnE P w K mg base 3 (He.ga K "_law_part") ["_law_word","_law_sign"] dJ:=by
  obtain ⟨fd,F⟩:=G.f_law_part
  have fx:=G.fx
  refine ⟨fd,?_⟩
  refine bE (N:=N_law_part) (st:=l5) (k:=2) F ⟨rfl,rfl,rfl,by decide +kernel,rfl,by decide +kernel,by decide +kernel⟩ rfl (fun _ _ _ _ _ _ us hl=>match us,hl with|[_,_],_=>rfl) fun cdv A outer s H E hcd hp hr W tk=>?_
  have nd:N_law_part.Nodup:=by decide +kernel
  have hu1:=ru1 hr
  have hu64:=dP hr
  have hu65:=dQ hr
  exact (aE (a8 (aR (dD hu64) (aC 1) aI (by with_unfolding_all rfl)) (aK (aQ (aM (ps:=["_law_word"]) (m:=bZ) (fZ G) (hr.mono (by decide)) fx.d__law_number tk (aA (aC 0) aD)))) aU)
    (aE (a8 (aR (dD hu64) (aC 1) aI (by with_unfolding_all rfl)) (aK (aQ (aM (ps:=["_law_word"]) (m:=cJ) (iI G) (hr.mono (by decide)) fx.d__law_ride tk (aA (aC 0) aD)))) aU)
    (aE (a8 (aR (dD hu64) (aC 1) aI (by with_unfolding_all rfl)) (aE (cZ (own:=[("_law_part_here",4)]) (i:=2) rfl nd rfl rfl rfl (cY (dZ cR PySem.F.plainAttrs_str PySem.F.slot_str_split PySem.F.type_str_split cm (aC 0) (aA aI aD))) (blkOk_by (by kernel_rfl)) (fun _ _ _ _ _=>(bD (i:=4) nd rfl (by first|exact .inl rfl|exact .inr rfl) (by decide))) (fun _ _ _ _ _=>b4) (fun _ _ _ _ _=>(aM (ps:=["_law_word"]) (m:=cJ) (iI G) (hr.mono (by decide)) fx.d__law_ride takes0 (aA (aC 4) aD))))
    (aK (aQ (ei (aR (kM hu65) bM (aC 2) (by with_unfolding_all rfl)) bM (eq hV rfl fx.n_tuple bU (aA (aC 2) aD)))))) aU)
    (aE (aT (i:=3) nd rfl (by first|exact .inl rfl|exact .inr rfl) (dY (dC (fU hu64) (aC 0) aI (by with_unfolding_all rfl)) (fo (dC (dD hu64) (cj (own:=[("_law_one",5)]) rfl nd (cY (aC 0)) (blkOk_by (by kernel_rfl)) (fun _ _ _ _ _=>(bD (i:=5) nd rfl (by first|exact .inl rfl|exact .inr rfl) (by decide))) (fun _ _ _ _ _=>(kS (aR (nX hu65) (aC 5) aI (by with_unfolding_all rfl)))) (fun _ _ _ _ _=>(aC 5))) (av aD) (by with_unfolding_all rfl)))))
    (aK (aQ (ei (cP (aC 3)) (aC 0) bM)))))))
abbrev nC:Stmt:=(top 56)
abbrev N_law_due:List Str:=["_law_text","_law_shapes","_law_rows","_law_found","_law_k","_law_words","_law_signs","_law_parts","_law_j"]
def jz:MS:=aP (al 1 (jo [(eC (.str "fly"),eC (.str "rw")),(eC (.str "sell"),eC (.str "wvw")),(eC (.str "back"),eC (.str "n")),(eC (.str "away"),eC (.str "n")),(eC (.str "late"),eC (.str "rn")),(eC (.str "off"),eC (.str "r")),(eC (.str "kind"),eC (.str "ww"))]))
  (aP (gD (eM ix lq (eV 1) (aB (jo [(eC (.str "turn"),eC (.str "n")),(eC (.str "mend"),eC (.str "n"))]) (aF))))
  (aP (sPar 2 3 (aB (eIf (tOf (aL (lv dNe) (eV 0) (eC (.str "")))) (eM az bx (eV 0) (aB (eC (.str "\n")) (aF))) (bv (aF))) (aB (hB (aF)) (aF))))
  (aP (fW (cy (aB (eB aq (aB (eV 2) (aF))) (aF))) (gV 4) (aP (al 5 (eM az bx (aL fIx (eV 2) (eV 4)) (aB (eC (.str " ")) (aF))))
  (aP (al 6 (eGet (eV 1) (aL fIx (eV 5) (eC (.int 0))) (eC (.str "-"))))
  (aP (sIf (dj (tOf (aL (lv dEq) (eV 6) (eC (.str "-")))) (tOf (aL (lv dNe) (eB aq (aB (eV 5) (aF))) (aL (lv0 bO) (eB aq (aB (eV 6) (aF))) (eC (.int 1)))))) (aw (cH (aB (eC (.str "BadText")) (aB (eV 4) (aF))))) (bS))
  (aP (al 7 (cC (cy (aB (eB aq (aB (eV 6) (aF))) (aF))) (gV 8) (b9) (aO 2 dJ (aB (aL fIx (eV 5) (aL (lv0 bO) (eC (.int 1)) (eV 8))) (aB (aL fIx (eV 6) (eV 8)) (aF)))) [8]))
  (aP (sIf (tOf (aL fIn (eC .none) (eV 7))) (aw (cH (aB (eC (.str "BadText")) (aB (eV 4) (aF))))) (bS))
  (gD (eM cA bq (eV 3) (aB (aL (lv0 bO) (cH (aB (aL fIx (eV 5) (eC (.int 0))) (aF))) (eB eS (aB (eV 7) (aF)))) (aF))))))))))
  (aw (eV 3)))))
def cg:MF:=bJ 8 jz
theorem nD {P:Program} {w:World} {K:PySem.W.Frag} {mg:Str→Option Value} {base:Heap} (G:Gx P w K mg base):FnE P w K mg base 4 (He.ga K "_law_due") ["_law_text"] cg:=by
  obtain ⟨fd,F⟩:=G.f_law_due
  have fx:=G.fx
  refine ⟨fd,?_⟩
  refine bE (N:=N_law_due) (st:=nC) (k:=3) F ⟨rfl,rfl,rfl,by decide +kernel,rfl,by decide +kernel,by decide +kernel⟩ rfl (fun _ _ _ _ _ _ us hl=>match us,hl with|[_],_=>rfl) fun cdv A outer s H E hcd hp hr W tk=>?_
  have nd:N_law_due.Nodup:=by decide +kernel
  have hu1:=ru1 hr
  have hu64:=dP hr
  have hu65:=dQ hr
  exact (aE (aT (i:=1) nd rfl (by first|exact .inl rfl|exact .inr rfl) (nr (r:=[(eC (.str "fly"),eC (.str "rw")),(eC (.str "sell"),eC (.str "wvw")),(eC (.str "back"),eC (.str "n")),(eC (.str "away"),eC (.str "n")),(eC (.str "late"),eC (.str "rn")),(eC (.str "off"),eC (.str "r")),(eC (.str "kind"),eC (.str "ww"))]) (pps_cons aI aI (pps_cons aI aI (pps_cons aI aI (pps_cons aI aI (pps_cons aI aI (pps_cons aI aI (pps_cons aI aI pps_nil)))))))))
    (aE (fN (dZ ty_dct PySem.F.plainAttrs_dict PySem.F.slot_dict_update PySem.F.type_dict_update m_updD (aC 1) (aA (nr (r:=[(eC (.str "turn"),eC (.str "n")),(eC (.str "mend"),eC (.str "n"))]) (pps_cons aI aI (pps_cons aI aI pps_nil))) aD)))
    (aE (mL (i:=2) (j:=3) rfl nd rfl rfl (by decide) rfl rfl (aA (ei (aR (fU hu64) (aC 0) aI (by with_unfolding_all rfl)) (dZ cR PySem.F.plainAttrs_str PySem.F.slot_str_split PySem.F.type_str_split cm (aC 0) (aA aI aD)) (av aD)) (aA (gA aD) aD)))
    (aE (fE hp rfl (eQ rfl fx.n_range (aA (am cM rfl fx.n_len bT (aA (aC 2) aD)) aD)) (b3 (i:=4) nd rfl (by first|exact .inl rfl|exact .inr rfl)) (aE (aT (i:=5) nd rfl (by first|exact .inl rfl|exact .inr rfl) (dZ cR PySem.F.plainAttrs_str PySem.F.slot_str_split PySem.F.type_str_split cm (ai hu1 (aC 2) (aC 4)) (aA aI aD)))
    (aE (aT (i:=6) nd rfl (by first|exact .inl rfl|exact .inr rfl) (sE_get hu1 (aC 1) (ai hu1 (aC 5) aJ) aI))
    (aE (a8 (cx (dF (aR (dD hu64) (aC 6) aI (by with_unfolding_all rfl)) (dE (aR (fU hu64) (am cM rfl fx.n_len bT (aA (aC 5) aD)) (aS bP (am cM rfl fx.n_len bT (aA (aC 6) aD)) aJ) (by with_unfolding_all rfl))))) (aK (aQ (bB (aA aI (aA (aC 4) aD))))) aU)
    (aE (cZ (own:=[("_law_j",8)]) (i:=7) rfl nd rfl rfl rfl (eQ rfl fx.n_range (aA (am cM rfl fx.n_len bT (aA (aC 6) aD)) aD)) (blkOk_by (by kernel_rfl)) (fun _ _ _ _ _=>(bD (i:=8) nd rfl (by first|exact .inl rfl|exact .inr rfl) (by decide))) (fun _ _ _ _ _=>b4) (fun _ _ _ _ _=>(aM (ps:=["_law_word","_law_sign"]) (m:=dJ) (l6 G) (hr.mono (by decide)) fx.d__law_part takes0 (aA (ai hu1 (aC 5) (aS bP aJ (aC 8))) (aA (ai hu1 (aC 6) (aC 8)) aD)))))
    (aE (a8 (aR (kM hu65) bM (aC 7) (by with_unfolding_all rfl)) (aK (aQ (bB (aA aI (aA (aC 4) aD))))) aU)
    (aK (fN (dZ gn PySem.F.plainAttrs_list PySem.F.slot_list_append PySem.F.type_list_append gK (aC 3) (aA (aS bP (bB (aA (ai hu1 (aC 5) aJ) aD)) (eq hV rfl fx.n_tuple bU (aA (aC 7) aD))) aD))))))))))
    (aK (aQ (aC 3)))))))
abbrev fH:Stmt:=(top 51)
abbrev N_law_kind:List Str:=["_law_work","e","_law_kinds","_law_words","_law_word"]
def k6 (C:Str) (ea:Addr) (dd:Option Addr) (kt:D→Option Bool):MS:=aP (al 2 (bv (aB (eB (cD ea dd kt) (aB (eV 1) (aB (eC (.glo "BadNet")) (aF)))) (aB (eB (cD ea dd kt) (aB (eV 1) (aB (eC (.glo "BadFleet")) (aF)))) (aB (eB (cD ea dd kt) (aB (eV 1) (aB (eC (.glo "BadClasses")) (aF)))) (aB (eB (cD ea dd kt) (aB (eV 1) (aB (eC (.glo "BadDay")) (aF)))) (aF)))))))
  (aP (al 2 (aL (lv0 bO) (eV 2) (bv (aB (eB (cD ea dd kt) (aB (eV 1) (aB (eC (.glo "BadPlace")) (aF)))) (aB (eB (cD ea dd kt) (aB (eV 1) (aB (eC (.glo "BadTime")) (aF)))) (aB (eB (cD ea dd kt) (aB (eV 1) (aB (eC (.glo "BadCount")) (aF)))) (aF)))))))
  (aP (al 2 (aL (lv0 bO) (eV 2) (bv (aB (eB (cD ea dd kt) (aB (eV 1) (aB (eC (.glo "BadChain")) (aF)))) (aB (eB (cD ea dd kt) (aB (eV 1) (aB (eC (.glo "NoDuty")) (aF)))) (aB (eB (cD ea dd kt) (aB (eV 1) (aB (eC (.glo "NoLeg")) (aF)))) (aB (eB (cD ea dd kt) (aB (eV 1) (aB (eC (.glo "NoPlane")) (aF)))) (aF))))))))
  (aP (al 2 (aL (lv0 bO) (eV 2) (bv (aB (eB (cD ea dd kt) (aB (eV 1) (aB (eC (.glo "NoKind")) (aF)))) (aB (eB (cD ea dd kt) (aB (eV 1) (aB (eC (.glo "Taken")) (aF)))) (aB (eB (cD ea dd kt) (aB (eV 1) (aB (eC (.glo "CannotFly")) (aF)))) (aB (eB (cD ea dd kt) (aB (eV 1) (aB (eC (.glo "NoWay")) (aF)))) (aF))))))))
  (aP (al 2 (aL (lv0 bO) (eV 2) (bv (aB (eB (cD ea dd kt) (aB (eV 1) (aB (eC (.glo "NoSeat")) (aF)))) (aB (eB (cD ea dd kt) (aB (eV 1) (aB (eC (.glo "NoClass")) (aF)))) (aB (eB (cD ea dd kt) (aB (eV 1) (aB (eC (.glo "BadName")) (aF)))) (aF)))))))
  (aP (al 2 (aL (lv0 bO) (eV 2) (bv (aB (eB (cD ea dd kt) (aB (eV 1) (aB (eC (.glo "NoBooking")) (aF)))) (aB (eB (cD ea dd kt) (aB (eV 1) (aB (eC (.glo "Left")) (aF)))) (aB (eB (cD ea dd kt) (aB (eV 1) (aB (eC (.glo "Unmended")) (aF)))) (aF)))))))
  (aP (al 2 (aL (lv0 bO) (eV 2) (bv (aB (eB (cD ea dd kt) (aB (eV 1) (aB (eC (.glo "BadDeed")) (aF)))) (aB (eB (cD ea dd kt) (aB (eV 1) (aB (eC (.glo "BadText")) (aF)))) (aF))))))
  (aP (al 3 (eC (.str "BadNet BadFleet BadClasses BadDay BadPlace BadTime BadCount BadChain NoDuty NoLeg NoPlane")))
  (aP (al 3 (aL (lv0 bO) (eV 3) (eC (.str " NoKind Taken CannotFly NoWay NoSeat NoClass BadName NoBooking Left Unmended"))))
  (aP (al 3 (aL (lv0 bO) (eV 3) (eC (.str " BadDeed BadText"))))
  (aP (sIf (dj (tOf (aL (lv dNe) (eM cA mS (eV 2) (aB (eC (.bool true)) (aF))) (eC (.int 1)))) (cK (dO (eB (cD ea dd kt) (aB (eV 1) (aB (eC (.ty "ValueError")) (aF))))))) (aw (eC (.str "other"))) (bS))
  (aP (al 4 (aL fIx (eM az bx (eV 3) (aB (eC (.str " ")) (aF))) (eM cA mT (eV 2) (aB (eC (.bool true)) (aF)))))
  (aP (sIf (tOf (aL fIn (eV 4) (cH (aB (eC (.str "BadNet")) (aB (eC (.str "BadFleet")) (aF)))))) (aw (cH (aB (eV 4) (aB (eXf ea dd ((cw C).contains "part") "part" (eV 1)) (aB (eXf ea dd ((cw C).contains "number") "number" (eV 1)) (aF)))))) (bS))
  (aP (sIf (tOf (aL fIn (eV 4) (cH (aB (eC (.str "BadClasses")) (aB (eC (.str "BadDeed")) (aF)))))) (aw (cH (aB (eV 4) (aB (eXf ea dd ((cw C).contains "number") "number" (eV 1)) (aF))))) (bS))
  (aw (eIf (tOf (aL (lv dEq) (eV 4) (eC (.str "BadText")))) (cH (aB (eV 4) (aB (eXf ea dd ((cw C).contains "row") "row" (eV 1)) (aF)))) (eV 4))))))))))))))))
abbrev hdK:Hdr:=hdOf kindsHere
theorem k7 {C:Str} {fs:List (Str × D)} {r:D} (h:hdK C fs=some r):C∈kindsHere∧fs.map (·.1)=cw C∧r=if fs=[] then .str C else .tup (.str C::(fs.map (·.2)).reverse):=by
  unfold hdK hdOf at h
  split at h
  · rename_i hc
    cases h
    exact ⟨List.contains_iff_mem.mp hc.1,hc.2,rfl⟩
  · cases h
theorem sR {t:MT} {mb:ME} {ea d:Addr} {o1:Bool} {f1:Str} {ns:List Str} {ds:List D} {w x:D} {env:En} {S:Sto} (ht:t env S=.ok true S) (h4:env[4]?=some (some w)) (h:env[1]?=some (some (.exn ea d ns ds))) (l1:(ns.zip ds).lookup f1=some x) (p1:o1=true) :
    aw (eIf t (cH (aB (eV 4) (aB (eXf ea (some d) o1 f1 (eV 1)) aF))) mb) env S=.ret (.tup [w,x]) S:=by
  simp[eIf,ht,Res.rs,aw,cH,aB,eV,h4,qD h l1 p1,aF]
theorem qc:∀C∈kindsHere,∀(fs:List (Str × D)) (ea:Addr) (dd:Option Addr) (S:Sto),fs.map (·.1)=cw C→DdK fs dd→k6 C ea dd (ktK C) ((List.replicate 5 none).set 1 (some (exD ea fs dd))) S=.ret (if fs=[] then .str C else .tup (.str C::(fs.map (·.2)).reverse)) S:=by
  intro C hC fs ea dd S hf hd
  unfold kindsHere at hC
  simp only[List.mem_cons,List.not_mem_nil,or_false] at hC
  rcases hC with rfl|rfl
  ·
    obtain ⟨x,d,rfl,rfl⟩:=p9 (hf.trans (show cw "BadText"=(["row"]:List Str) by decide +kernel)) hd
    unfold k6
    refine aX (nl (aj rfl (by decide +kernel) (aj rfl (by decide +kernel) (aj rfl (by decide +kernel) (aj rfl (by decide +kernel) rfl)))) (by simp)) ?_
    refine aX (cE rfl (aj rfl (by decide +kernel) (aj rfl (by decide +kernel) (aj rfl (by decide +kernel) rfl))) (by simp) (by simp)) ?_
    refine aX (cE rfl (aj rfl (by decide +kernel) (aj rfl (by decide +kernel) (aj rfl (by decide +kernel) (aj rfl (by decide +kernel) rfl)))) (by simp) (by simp)) ?_
    refine aX (cE rfl (aj rfl (by decide +kernel) (aj rfl (by decide +kernel) (aj rfl (by decide +kernel) (aj rfl (by decide +kernel) rfl)))) (by simp) (by simp)) ?_
    refine aX (cE rfl (aj rfl (by decide +kernel) (aj rfl (by decide +kernel) (aj rfl (by decide +kernel) rfl))) (by simp) (by simp)) ?_
    refine aX (cE rfl (aj rfl (by decide +kernel) (aj rfl (by decide +kernel) (aj rfl (by decide +kernel) rfl))) (by simp) (by simp)) ?_
    refine aX (cE rfl (aj rfl (by decide +kernel) (aj rfl (by decide +kernel) rfl)) (by simp) (by simp)) ?_
    refine aX set_c ?_
    refine aX (iT rfl (by decide +kernel)) ?_
    refine aX (iT rfl (by decide +kernel)) ?_
    refine aX (ld (qB (by kernel_rfl) (lc rfl rfl))) ?_
    refine aX (qC (d:=.str "BadText") (by kernel_rfl)) ?_
    refine aX (ld (by kernel_rfl)) ?_
    refine aX (ld (by kernel_rfl)) ?_
    exact (sR (x:=x) (by kernel_rfl) rfl rfl rfl (by decide +kernel)).trans (by simp)
  ·
    obtain ⟨x,d,rfl,rfl⟩:=p9 (hf.trans (show cw "BadDeed"=(["number"]:List Str) by decide +kernel)) hd
    unfold k6
    refine aX (nl (aj rfl (by decide +kernel) (aj rfl (by decide +kernel) (aj rfl (by decide +kernel) (aj rfl (by decide +kernel) rfl)))) (by simp)) ?_
    refine aX (cE rfl (aj rfl (by decide +kernel) (aj rfl (by decide +kernel) (aj rfl (by decide +kernel) rfl))) (by simp) (by simp)) ?_
    refine aX (cE rfl (aj rfl (by decide +kernel) (aj rfl (by decide +kernel) (aj rfl (by decide +kernel) (aj rfl (by decide +kernel) rfl)))) (by simp) (by simp)) ?_
    refine aX (cE rfl (aj rfl (by decide +kernel) (aj rfl (by decide +kernel) (aj rfl (by decide +kernel) (aj rfl (by decide +kernel) rfl)))) (by simp) (by simp)) ?_
    refine aX (cE rfl (aj rfl (by decide +kernel) (aj rfl (by decide +kernel) (aj rfl (by decide +kernel) rfl))) (by simp) (by simp)) ?_
    refine aX (cE rfl (aj rfl (by decide +kernel) (aj rfl (by decide +kernel) (aj rfl (by decide +kernel) rfl))) (by simp) (by simp)) ?_
    refine aX (cE rfl (aj rfl (by decide +kernel) (aj rfl (by decide +kernel) rfl)) (by simp) (by simp)) ?_
    refine aX set_c ?_
    refine aX (iT rfl (by decide +kernel)) ?_
    refine aX (iT rfl (by decide +kernel)) ?_
    refine aX (ld (qB (by kernel_rfl) (lc rfl rfl))) ?_
    refine aX (qC (d:=.str "BadDeed") (by kernel_rfl)) ?_
    refine aX (ld (by kernel_rfl)) ?_
    exact (r7 (x:=x) (by kernel_rfl) rfl rfl rfl (by decide +kernel)).trans (by simp)
theorem sS {P:Program} {w:World} {K:PySem.W.Frag} {mg:Str→Option Value} {base:Heap} (G:Gx P w K mg base):KindF P w K mg base 13 "_law_kind" (He.ga K "_law_kind") hdK:=by
  obtain ⟨fd,F⟩:=G.f_law_kind
  have fx:=G.fx
  have nd:N_law_kind.Nodup:=by decide +kernel
  have b:=F.bindsN (ps:=["_law_work"]) (fun _ _ _ _ _ _ us hl=>match us,hl with|[_],_=>rfl)
  have kp:=F.kp
  obtain ⟨oc,od,dV,kV,doc,pm,an,cdv,ct,osl,rfl,lk,hcd,hD,_⟩:=F.ex
  refine ⟨⟨defArgs fH,defBody fH,defScope fH,dV,kV,doc,pm,cdv,ct,oc,an,od,osl,N_law_kind,"_law_work",lk,hcd,b,⟨rfl,rfl,rfl,nd,rfl,by decide +kernel,by decide +kernel⟩,rfl,.inl rfl,by decide,by decide,fun X hP hw hK hmg hb hr q=>?_⟩,kp⟩
  subst hP hw hK hmg hb
  refine mU (e:="e") (i:=1) (ec:="AirError") (CS:=He.ga X.K "AirError") (sm:=fun C ea dd=>k6 C ea dd (ktK C)) nd rfl rfl rfl G.kx.air (by decide) (fun _=>rfl) (fun C fs r hC Da hDa=>?_) (fun s H ea Da oe pn C fs dd r m1 m4 hdk hz hf=>?_) (fun C fs ea dd S r hC hdk=>?_)
  · have hm:=(k7 hC).1
    rw[G.kx.gl C (G.kx.sub C hm)] at hDa
    cases hDa
    exact G.kx.exm C hm
  · have hm:=(k7 m4).1
    rw[G.kx.gl C (G.kx.sub C hm)] at m1
    cases m1
    have hC:=G.kx.exc C hm
    have hk:=hk_of G.kx hm
    have hun:=hr.un
    have hu1:X.A.units+3+1<cLine:=by omega
    have hu64:X.A.units+3+64<cLine:=by omega
    have hu65:X.A.units+3+65<cLine:=by omega
    exact (aE (aT (i:=2) nd rfl (by first|exact .inl rfl|exact .inr rfl) (av (aA (am (br hC hz hf hk) rfl fx.n_isinstance aH (aA (aC 1) (aA (a7 rfl fx.d_BadNet) aD))) (aA (am (br hC hz hf hk) rfl fx.n_isinstance aH (aA (aC 1) (aA (a7 rfl fx.d_BadFleet) aD))) (aA (am (br hC hz hf hk) rfl fx.n_isinstance aH (aA (aC 1) (aA (a7 rfl fx.d_BadClasses) aD))) (aA (am (br hC hz hf hk) rfl fx.n_isinstance aH (aA (aC 1) (aA (a7 rfl fx.d_BadDay) aD))) aD))))))
    (aE (aT (i:=2) nd rfl (by first|exact .inl rfl|exact .inr rfl) (aS bP (aC 2) (av (aA (am (br hC hz hf hk) rfl fx.n_isinstance aH (aA (aC 1) (aA (a7 rfl fx.d_BadPlace) aD))) (aA (am (br hC hz hf hk) rfl fx.n_isinstance aH (aA (aC 1) (aA (a7 rfl fx.d_BadTime) aD))) (aA (am (br hC hz hf hk) rfl fx.n_isinstance aH (aA (aC 1) (aA (a7 rfl fx.d_BadCount) aD))) aD))))))
    (aE (aT (i:=2) nd rfl (by first|exact .inl rfl|exact .inr rfl) (aS bP (aC 2) (av (aA (am (br hC hz hf hk) rfl fx.n_isinstance aH (aA (aC 1) (aA (a7 rfl fx.d_BadChain) aD))) (aA (am (br hC hz hf hk) rfl fx.n_isinstance aH (aA (aC 1) (aA (a7 rfl fx.d_NoDuty) aD))) (aA (am (br hC hz hf hk) rfl fx.n_isinstance aH (aA (aC 1) (aA (a7 rfl fx.d_NoLeg) aD))) (aA (am (br hC hz hf hk) rfl fx.n_isinstance aH (aA (aC 1) (aA (a7 rfl fx.d_NoPlane) aD))) aD)))))))
    (aE (aT (i:=2) nd rfl (by first|exact .inl rfl|exact .inr rfl) (aS bP (aC 2) (av (aA (am (br hC hz hf hk) rfl fx.n_isinstance aH (aA (aC 1) (aA (a7 rfl fx.d_NoKind) aD))) (aA (am (br hC hz hf hk) rfl fx.n_isinstance aH (aA (aC 1) (aA (a7 rfl fx.d_Taken) aD))) (aA (am (br hC hz hf hk) rfl fx.n_isinstance aH (aA (aC 1) (aA (a7 rfl fx.d_CannotFly) aD))) (aA (am (br hC hz hf hk) rfl fx.n_isinstance aH (aA (aC 1) (aA (a7 rfl fx.d_NoWay) aD))) aD)))))))
    (aE (aT (i:=2) nd rfl (by first|exact .inl rfl|exact .inr rfl) (aS bP (aC 2) (av (aA (am (br hC hz hf hk) rfl fx.n_isinstance aH (aA (aC 1) (aA (a7 rfl fx.d_NoSeat) aD))) (aA (am (br hC hz hf hk) rfl fx.n_isinstance aH (aA (aC 1) (aA (a7 rfl fx.d_NoClass) aD))) (aA (am (br hC hz hf hk) rfl fx.n_isinstance aH (aA (aC 1) (aA (a7 rfl fx.d_BadName) aD))) aD))))))
    (aE (aT (i:=2) nd rfl (by first|exact .inl rfl|exact .inr rfl) (aS bP (aC 2) (av (aA (am (br hC hz hf hk) rfl fx.n_isinstance aH (aA (aC 1) (aA (a7 rfl fx.d_NoBooking) aD))) (aA (am (br hC hz hf hk) rfl fx.n_isinstance aH (aA (aC 1) (aA (a7 rfl fx.d_Left) aD))) (aA (am (br hC hz hf hk) rfl fx.n_isinstance aH (aA (aC 1) (aA (a7 rfl fx.d_Unmended) aD))) aD))))))
    (aE (aT (i:=2) nd rfl (by first|exact .inl rfl|exact .inr rfl) (aS bP (aC 2) (av (aA (am (br hC hz hf hk) rfl fx.n_isinstance aH (aA (aC 1) (aA (a7 rfl fx.d_BadDeed) aD))) (aA (am (br hC hz hf hk) rfl fx.n_isinstance aH (aA (aC 1) (aA (a7 rfl fx.d_BadText) aD))) aD)))))
    (aE (aT (i:=3) nd rfl (by first|exact .inl rfl|exact .inr rfl) aI)
    (aE (aT (i:=3) nd rfl (by first|exact .inl rfl|exact .inr rfl) (aS bP (aC 3) aI))
    (aE (aT (i:=3) nd rfl (by first|exact .inl rfl|exact .inr rfl) (aS bP (aC 3) aI))
    (aE (a8 (cx (dF (aR (fU hu64) (dZ gn PySem.F.plainAttrs_list PySem.F.slot_list_count PySem.F.type_list_count rh (aC 2) (aA eN aD)) aJ (by with_unfolding_all rfl)) (dE (cX (cP (am (br hC hz hf hk) rfl fx.n_isinstance aH (aA (aC 1) (aA (cO rfl fx.n_ValueError jS) aD)))))))) (aK (aQ aI)) aU)
    (aE (aT (i:=4) nd rfl (by first|exact .inl rfl|exact .inr rfl) (ai hu1 (dZ cR PySem.F.plainAttrs_str PySem.F.slot_str_split PySem.F.type_str_split cm (aC 3) (aA aI aD)) (dZ gn PySem.F.plainAttrs_list PySem.F.slot_list_index PySem.F.type_list_index rm (aC 2) (aA eN aD))))
    (aE (a8 (aR (kM hu65) (aC 4) (bB (aA aI (aA aI aD))) (by with_unfolding_all rfl)) (aK (aQ (bB (aA (aC 4) (aA (nj (fun h=>⟨⟨hC.hg,hC.hk,hC.hs,hC.hd⟩,G.kx.fld C hm _ (List.contains_iff_mem.mp h)⟩) hz hf (aC 1)) (aA (nj (fun h=>⟨⟨hC.hg,hC.hk,hC.hs,hC.hd⟩,G.kx.fld C hm _ (List.contains_iff_mem.mp h)⟩) hz hf (aC 1)) aD)))))) aU)
    (aE (a8 (aR (kM hu65) (aC 4) (bB (aA aI (aA aI aD))) (by with_unfolding_all rfl)) (aK (aQ (bB (aA (aC 4) (aA (nj (fun h=>⟨⟨hC.hg,hC.hk,hC.hs,hC.hd⟩,G.kx.fld C hm _ (List.contains_iff_mem.mp h)⟩) hz hf (aC 1)) aD))))) aU)
    (aK (aQ (ei (aR (dD hu64) (aC 4) aI (by with_unfolding_all rfl)) (bB (aA (aC 4) (aA (nj (fun h=>⟨⟨hC.hg,hC.hk,hC.hs,hC.hd⟩,G.kx.fld C hm _ (List.contains_iff_mem.mp h)⟩) hz hf (aC 1)) aD))) (aC 4))))))))))))))))))
  · obtain ⟨hm,hfs,rfl⟩:=k7 hC
    exact qc C hm fs ea dd S hfs hdk
abbrev iJ:Stmt:=(top 50)
abbrev N_law_same:List Str:=["_law_found","_law_due_here","_law_alike","_law_k"]
def bA:Nat→MF
  | 0=>bJ 2 eP
  | n+1=>bJ 2 (aP (sIf (dO (eB bV (aB (eV 1) (aB (cH (aB (eC (.ty "tuple")) (aB (eC (.ty "list")) (aF)))) (aF))))) (aP (sIf (dj (cK (dO (eB bV (aB (eV 0) (aB (cH (aB (eC (.ty "tuple")) (aB (eC (.ty "list")) (aF)))) (aF)))))) (tOf (aL (lv dNe) (eB bV (aB (eV 0) (aB (eC (.ty "list")) (aF)))) (eB bV (aB (eV 1) (aB (eC (.ty "list")) (aF))))))) (aw (eC (.bool false))) (bS))
  (aP (sIf (tOf (aL (lv dNe) (eB aq (aB (eV 0) (aF))) (eB aq (aB (eV 1) (aF))))) (aw (eC (.bool false))) (bS))
  (aw (aL (lv dEq) (cC (cy (aB (eB aq (aB (eV 1) (aF))) (aF))) (gV 3) (cK (dO (aO 2 (bA n) (aB (aL fIx (eV 0) (eV 3)) (aB (aL fIx (eV 1) (eV 3)) (aF)))))) (eV 3) [3]) (bv (aF)))))) (bS))
  (aP (al 2 (gj (aL (lv dEq) (eB bV (aB (eV 0) (aB (eC (.ty "bool")) (aF)))) (eB bV (aB (eV 1) (aB (eC (.ty "bool")) (aF))))) (aL (lv dEq) (eB bV (aB (eV 0) (aB (eC (.ty "int")) (aF)))) (eB bV (aB (eV 1) (aB (eC (.ty "int")) (aF)))))))
  (aw (gj (eV 2) (aL (lv dEq) (eV 0) (eV 1))))))
theorem iK {P:Program} {w:World} {K:PySem.W.Frag} {mg:Str→Option Value} {base:Heap} (G:Gx P w K mg base):∀n:Nat,FnE P w K mg base (n+1) (He.ga K "_law_same") ["_law_found","_law_due_here"] (bA n)
  | 0=>by
    obtain ⟨fd,F⟩:=G.f_law_same
    have h:FnE P w K mg base 1 (He.ga K "_law_same") ["_law_found","_law_due_here"] (bJ 2 eP):=by
      refine ⟨fd,?_⟩
      refine bE (N:=N_law_same) (st:=iJ) (k:=0) F ⟨rfl,rfl,rfl,by decide +kernel,rfl,by decide +kernel,by decide +kernel⟩ rfl (fun _ _ _ _ _ _ us hl=>match us,hl with|[_,_],_=>rfl) fun cdv A outer s H E hcd hp hr W tk=>?_
      exact gr
    rw[Nat.zero_add]
    exact h
  | n+1=>by
    have ih:=iK G n
    obtain ⟨fd,F⟩:=G.f_law_same
    have fx:=G.fx
    have h:FnE P w K mg base (n+1+1) (He.ga K "_law_same") ["_law_found","_law_due_here"] (bA (n+1)):=by
      refine ⟨fd,?_⟩
      refine bE (N:=N_law_same) (st:=iJ) (k:=n+1) F ⟨rfl,rfl,rfl,by decide +kernel,rfl,by decide +kernel,by decide +kernel⟩ rfl (fun _ _ _ _ _ _ us hl=>match us,hl with|[_,_],_=>rfl) fun cdv A outer s H E hcd hp hr W tk=>?_
      have nd:N_law_same.Nodup:=by decide +kernel
      have hu1:=ru1 hr
      have hu64:=dP hr
      have hu65:=dQ hr
      exact (aE (a8 (cP (am c6 rfl fx.n_isinstance aH (aA (aC 1) (aA (bB (aA (cO rfl fx.n_tuple bU) (aA (cO rfl fx.n_list gM) aD))) aD)))) (aE (a8 (cx (dF (cX (cP (am c6 rfl fx.n_isinstance aH (aA (aC 0) (aA (bB (aA (cO rfl fx.n_tuple bU) (aA (cO rfl fx.n_list gM) aD))) aD))))) (dE (aR (fU hu64) (am c6 rfl fx.n_isinstance aH (aA (aC 0) (aA (cO rfl fx.n_list gM) aD))) (am c6 rfl fx.n_isinstance aH (aA (aC 1) (aA (cO rfl fx.n_list gM) aD))) (by with_unfolding_all rfl))))) (aK (aQ eN)) aU)
    (aE (a8 (aR (fU hu64) (am cM rfl fx.n_len bT (aA (aC 0) aD)) (am cM rfl fx.n_len bT (aA (aC 1) aD)) (by with_unfolding_all rfl)) (aK (aQ eN)) aU)
    (aK (aQ (dC (dD hu64) (cj (own:=[("_law_k",3)]) rfl nd (eQ rfl fx.n_range (aA (am cM rfl fx.n_len bT (aA (aC 1) aD)) aD)) (blkOk_by (by kernel_rfl)) (fun _ _ _ _ _=>(bD (i:=3) nd rfl (by first|exact .inl rfl|exact .inr rfl) (by decide))) (fun _ _ _ _ _=>(kS (cX (cP (aM (ps:=["_law_found","_law_due_here"]) (m:=(bA n)) ih hr fx.d__law_same takes0 (aA (ai hu1 (aC 0) (aC 3)) (aA (ai hu1 (aC 1) (aC 3)) aD))))))) (fun _ _ _ _ _=>(aC 3))) (av aD) (by with_unfolding_all rfl)))))) aU)
    (aE (aT (i:=2) nd rfl (by first|exact .inl rfl|exact .inr rfl) (dY (dC (dD hu64) (am c6 rfl fx.n_isinstance aH (aA (aC 0) (aA (cO rfl fx.n_bool kj) aD))) (am c6 rfl fx.n_isinstance aH (aA (aC 1) (aA (cO rfl fx.n_bool kj) aD))) (by with_unfolding_all rfl)) (fo (dC (dD hu64) (am c6 rfl fx.n_isinstance aH (aA (aC 0) (aA (cO rfl fx.n_int gq) aD))) (am c6 rfl fx.n_isinstance aH (aA (aC 1) (aA (cO rfl fx.n_int gq) aD))) (by with_unfolding_all rfl)))))
    (aK (aQ (dY (aC 2) (fo (dC (dD hu64) (aC 0) (aC 1) (by with_unfolding_all rfl))))))))
    rw[show n+1+1=n+1+1 by omega]
    exact h
abbrev k8:Stmt:=(top 49)
abbrev N_law_drawn:List Str:=["_law_state","_law_many","_law_found","_law_cell"]
def cq:MS:=aP (sIf (tOf (aL (lv dGt) (aL fIx (eV 0) (eC (.int 3))) (eC (.int 0)))) (aP (al 2 (aL (lv dMod) (aL fIx (eV 0) (eC (.int 3))) (eV 1)))
  (aP (lR (aL (lv dDiv) (aL fIx (eV 0) (eC (.int 3))) (eV 1)) (iy (eV 0) (eC (.int 3))))
  (aw (eV 2)))) (bS))
  (aP (lR (aL (lv0 bO) (aL fIx (eV 0) (eC (.int 1))) (eC (.int 1))) (iy (eV 0) (eC (.int 1))))
  (aP (sIf (tOf (aL (lv dLe) (aL fIx (eV 0) (eC (.int 1))) (eB aq (aB (aL fIx (eV 0) (eC (.int 0))) (aF))))) (aP (al 3 (aL fIx (aL fIx (eV 0) (eC (.int 0))) (aL (lv dSub) (aL fIx (eV 0) (eC (.int 1))) (eC (.int 1)))))
  (aP (lR (eIf (tOf (aL (lv dGe) (eV 3) (aL (lv dPow) (eC (.int 10)) (eC (.int 18))))) (aL (lv dDiv) (eV 3) (eV 1)) (eC (.int 0))) (iy (eV 0) (eC (.int 3))))
  (aw (aL (lv dMod) (eV 3) (eV 1))))) (bS))
  (aP (lR (aL (lv dMod) (aL (lv0 bO) (aL (lv pM) (aL fIx (eV 0) (eC (.int 2))) (eC (.int 48271))) (eC (.int 11))) (eC (.int 2147483647))) (iy (eV 0) (eC (.int 2))))
  (aw (aL (lv dMod) (aL (lv dDiv) (aL fIx (eV 0) (eC (.int 2))) (eC (.int 7))) (eV 1))))))
def aG:MF:=bJ 2 cq
theorem aN {P:Program} {w:World} {K:PySem.W.Frag} {mg:Str→Option Value} {base:Heap} (G:Gx P w K mg base):FnE P w K mg base 1 (He.ga K "_law_drawn") ["_law_state","_law_many"] aG:=by
  obtain ⟨fd,F⟩:=G.f_law_drawn
  have fx:=G.fx
  refine ⟨fd,?_⟩
  refine bE (N:=N_law_drawn) (st:=k8) (k:=0) F ⟨rfl,rfl,rfl,by decide +kernel,rfl,by decide +kernel,by decide +kernel⟩ rfl (fun _ _ _ _ _ _ us hl=>match us,hl with|[_,_],_=>rfl) fun cdv A outer s H E hcd hp hr W tk=>?_
  have nd:N_law_drawn.Nodup:=by decide +kernel
  have hu1:=ru1 hr
  have hu64:=dP hr
  have hu65:=dQ hr
  exact (aE (a8 (aR o_gt (ai hu1 (aC 0) aJ) aJ (by with_unfolding_all rfl)) (aE (aT (i:=2) nd rfl (by first|exact .inl rfl|exact .inr rfl) (aS lK (ai hu1 (aC 0) aJ) (aC 1)))
    (aE (io (aS pO (ai hu1 (aC 0) aJ) (aC 1)) (kb hu1 (aC 0) aJ))
    (aK (aQ (aC 2))))) aU)
    (aE (io (aS bP (ai hu1 (aC 0) aJ) aJ) (kb hu1 (aC 0) aJ))
    (aE (a8 (aR kL (ai hu1 (aC 0) aJ) (am cM rfl fx.n_len bT (aA (ai hu1 (aC 0) aJ) aD)) (by with_unfolding_all rfl)) (aE (aT (i:=3) nd rfl (by first|exact .inl rfl|exact .inr rfl) (ai hu1 (ai hu1 (aC 0) aJ) (aS o_sub (ai hu1 (aC 0) aJ) aJ)))
    (aE (io (ei (aR o_ge (aC 3) (aS o_pow aJ aJ) (by with_unfolding_all rfl)) (aS pO (aC 3) (aC 1)) aJ) (kb hu1 (aC 0) aJ))
    (aK (aQ (aS lK (aC 3) (aC 1)))))) aU)
    (aE (io (aS lK (aS bP (aS pN (ai hu1 (aC 0) aJ) aJ) aJ) aJ) (kb hu1 (aC 0) aJ))
    (aK (aQ (aS lK (aS pO (ai hu1 (aC 0) aJ) aJ) (aC 1))))))))
abbrev jX:Stmt:=(top 57)
def strOfS:Stmt→Str
  | .Assign _ (.Constant (.str s) _ _) _=>s
  | _=>""
def spSigns:Str:=strOfS ((defBody (top 57)).getD 1 (.Pass ⟨0,0,0,0⟩))
abbrev N_law_spoilt:List Str:=["_law_state","_law_text","_law_way","_law_at","_law_signs","_law_sign","_law_gap","_law_rows","_law_j","_law_k","_law_odd","_law_one","_law_some"]
def gU:MS:=aP (sPar 2 3 (aB (aO 2 aG (aB (eV 0) (aB (eC (.int 8)) (aF)))) (aB (aO 2 aG (aB (eV 0) (aB (aL (lv0 bO) (eB aq (aB (eV 1) (aF))) (eC (.int 1))) (aF)))) (aF))))
  (aP (al 4 (eC (.str spSigns)))
  (aP (al 5 (aL fIx (eV 4) (aO 2 aG (aB (eV 0) (aB (aL fIx (bv (aB (eC (.int 14)) (aB (eB aq (aB (eV 4) (aF))) (aF)))) (aO 2 aG (aB (eV 0) (aB (eC (.int 2)) (aF))))) (aF))))))
  (aP (sIf (tOf (aL (lv dLt) (eV 2) (eC (.int 3)))) (aw (aL (lv0 bO) (aL (lv0 bO) (lO (eV 1) (pNo) (g9 (eV 3))) (aL fIx (bv (aB (eV 5) (aB (eC (.str "")) (aB (eV 5) (aF))))) (eV 2))) (lO (eV 1) (g9 (aL (lv0 bO) (eV 3) (eB kX (aB (aL (lv dGt) (eV 2) (eC (.int 0))) (aF))))) (pNo)))) (bS))
  (aP (al 6 (aL fIx (bv (aB (eC (.str "\n")) (aB (eC (.str " ")) (aF)))) (aO 2 aG (aB (eV 0) (aB (eC (.int 2)) (aF))))))
  (aP (al 7 (eM az bx (eV 1) (aB (eV 6) (aF))))
  (aP (sPar 8 9 (aB (aO 2 aG (aB (eV 0) (aB (eB aq (aB (eV 7) (aF))) (aF)))) (aB (aO 2 aG (aB (eV 0) (aB (eB aq (aB (eV 7) (aF))) (aF)))) (aF))))
  (aP (al 10 (bv (aB (eC (.str "")) (aB (eC (.str "fly")) (aB (eC (.str "turn")) (aB (eC (.str "0")) (aB (eC (.str "007")) (aB (eC (.str "60:1")) (aB (eC (.str "61:1")) (aB (eC (.str "3:0")) (aB (eC (.str "3:10000")) (aB (eC (.str "1000000")) (aB (eC (.str "3:1,")) (aB (eC (.str "ab")) (aB (eC (.str "mend 5")) (aB (eC (.str "3:1:2")) (aF)))))))))))))))))
  (aP (al 11 (aL fIx (eV 10) (aO 2 aG (aB (eV 0) (aB (eC (.int 14)) (aF))))))
  (aP (al 12 (aL fIx (bv (aB (bv (aF)) (aB (aL (lv dRep) (bv (aB (aL fIx (eV 7) (eV 8)) (aF))) (eC (.int 2))) (aB (bv (aB (eV 11) (aF))) (aB (bv (aB (eV 11) (aB (aL fIx (eV 7) (eV 8)) (aF)))) (aB (bv (aB (aL fIx (eV 7) (eV 9)) (aF))) (aF))))))) (aL (lv dSub) (eV 2) (eC (.int 3)))))
  (aw (eM az gP (eV 6) (aB (aL (lv0 bO) (aL (lv0 bO) (lO (eV 7) (pNo) (g9 (eV 8))) (eV 12)) (lO (eV 7) (g9 (aL (lv0 bO) (eV 8) (eC (.int 1)))) (pNo))) (aF)))))))))))))
def bc:MF:=bJ 11 gU
theorem jY {P:Program} {w:World} {K:PySem.W.Frag} {mg:Str→Option Value} {base:Heap} (G:Gx P w K mg base):FnE P w K mg base 2 (He.ga K "_law_spoilt") ["_law_state","_law_text"] bc:=by
  obtain ⟨fd,F⟩:=G.f_law_spoilt
  have fx:=G.fx
  refine ⟨fd,?_⟩
  refine bE (N:=N_law_spoilt) (st:=jX) (k:=1) F ⟨rfl,rfl,rfl,by decide +kernel,rfl,by decide +kernel,by decide +kernel⟩ rfl (fun _ _ _ _ _ _ us hl=>match us,hl with|[_,_],_=>rfl) fun cdv A outer s H E hcd hp hr W tk=>?_
  have nd:N_law_spoilt.Nodup:=by decide +kernel
  have hu1:=ru1 hr
  have hu64:=dP hr
  have hu65:=dQ hr
  exact (aE (mL (i:=2) (j:=3) rfl nd rfl rfl (by decide) rfl rfl (aA (aM (ps:=["_law_state","_law_many"]) (m:=aG) (aN G) (hr.mono (by decide)) fx.d__law_drawn tk (aA (aC 0) (aA aJ aD))) (aA (aM (ps:=["_law_state","_law_many"]) (m:=aG) (aN G) (hr.mono (by decide)) fx.d__law_drawn tk (aA (aC 0) (aA (aS bP (am cM rfl fx.n_len bT (aA (aC 1) aD)) aJ) aD))) aD)))
    (aE (aT (i:=4) nd rfl (by first|exact .inl rfl|exact .inr rfl) aI)
    (aE (aT (i:=5) nd rfl (by first|exact .inl rfl|exact .inr rfl) (ai hu1 (aC 4) (aM (ps:=["_law_state","_law_many"]) (m:=aG) (aN G) (hr.mono (by decide)) fx.d__law_drawn tk (aA (aC 0) (aA (ai hu1 (av (aA aJ (aA (am cM rfl fx.n_len bT (aA (aC 4) aD)) aD))) (aM (ps:=["_law_state","_law_many"]) (m:=aG) (aN G) (hr.mono (by decide)) fx.d__law_drawn tk (aA (aC 0) (aA aJ aD)))) aD)))))
    (aE (a8 (aR o_lt (aC 2) aJ (by with_unfolding_all rfl)) (aK (aQ (aS bP (aS bP (il (aC 1) lP (f9 (aC 3))) (ai hu1 (av (aA (aC 5) (aA aI (aA (aC 5) aD)))) (aC 2))) (il (aC 1) (f9 (aS bP (aC 3) (eq c_int rfl fx.n_int gq (aA (dC o_gt (aC 2) aJ (by with_unfolding_all rfl)) aD)))) lP)))) aU)
    (aE (aT (i:=6) nd rfl (by first|exact .inl rfl|exact .inr rfl) (ai hu1 (av (aA aI (aA aI aD))) (aM (ps:=["_law_state","_law_many"]) (m:=aG) (aN G) (hr.mono (by decide)) fx.d__law_drawn tk (aA (aC 0) (aA aJ aD)))))
    (aE (aT (i:=7) nd rfl (by first|exact .inl rfl|exact .inr rfl) (dZ cR PySem.F.plainAttrs_str PySem.F.slot_str_split PySem.F.type_str_split cm (aC 1) (aA (aC 6) aD)))
    (aE (mL (i:=8) (j:=9) rfl nd rfl rfl (by decide) rfl rfl (aA (aM (ps:=["_law_state","_law_many"]) (m:=aG) (aN G) (hr.mono (by decide)) fx.d__law_drawn tk (aA (aC 0) (aA (am cM rfl fx.n_len bT (aA (aC 7) aD)) aD))) (aA (aM (ps:=["_law_state","_law_many"]) (m:=aG) (aN G) (hr.mono (by decide)) fx.d__law_drawn tk (aA (aC 0) (aA (am cM rfl fx.n_len bT (aA (aC 7) aD)) aD))) aD)))
    (aE (aT (i:=10) nd rfl (by first|exact .inl rfl|exact .inr rfl) (av (aA aI (aA aI (aA aI (aA aI (aA aI (aA aI (aA aI (aA aI (aA aI (aA aI (aA aI (aA aI (aA aI (aA aI aD))))))))))))))))
    (aE (aT (i:=11) nd rfl (by first|exact .inl rfl|exact .inr rfl) (ai hu1 (aC 10) (aM (ps:=["_law_state","_law_many"]) (m:=aG) (aN G) (hr.mono (by decide)) fx.d__law_drawn tk (aA (aC 0) (aA aJ aD)))))
    (aE (aT (i:=12) nd rfl (by first|exact .inl rfl|exact .inr rfl) (ai hu1 (av (aA (av aD) (aA (aS o_rep (av (aA (ai hu1 (aC 7) (aC 8)) aD)) aJ) (aA (av (aA (aC 11) aD)) (aA (av (aA (aC 11) (aA (ai hu1 (aC 7) (aC 8)) aD))) (aA (av (aA (ai hu1 (aC 7) (aC 9)) aD)) aD)))))) (aS o_sub (aC 2) aJ)))
    (aK (aQ (dZ cR PySem.F.plainAttrs_str PySem.F.slot_str_join PySem.F.type_str_join ky (aC 6) (aA (aS bP (aS bP (il (aC 7) lP (f9 (aC 8))) (aC 12)) (il (aC 7) (f9 (aS bP (aC 8) aJ)) lP)) aD))))))))))))))
abbrev k9:Stmt:=(top 52)
abbrev N_law_deeds:List Str:=["_law_state","_law_found","_law_k","_law_ride_here","_law_rides","_law_word","_law_n","_law_some","_law_j"]
def iL:MS:=aP (al 1 (hB (aF)))
  (aP (fW (cy (aB (aO 2 aG (aB (eV 0) (aB (eC (.int 7)) (aF)))) (aF))) (gV 2) (aP (al 3 (cH (aB (aO 2 aG (aB (eV 0) (aB (eC (.int 61)) (aF)))) (aB (aL (lv0 bO) (eC (.int 1)) (aO 2 aG (aB (eV 0) (aB (aL fIx (bv (aB (eC (.int 120)) (aB (eC (.int 9999)) (aF)))) (aO 2 aG (aB (eV 0) (aB (eC (.int 2)) (aF))))) (aF))))) (aF)))))
  (aP (al 4 (eB eS (aB (cC (cy (aB (aL (lv0 bO) (eC (.int 1)) (aO 2 aG (aB (eV 0) (aB (eC (.int 5)) (aF))))) (aF))) (gV 8) (b9) (cH (aB (aO 2 aG (aB (eV 0) (aB (eC (.int 61)) (aF)))) (aB (aL (lv0 bO) (eC (.int 1)) (aO 2 aG (aB (eV 0) (aB (eC (.int 9999)) (aF))))) (aF)))) [8]) (aF))))
  (aP (al 5 (aL fIx (bv (aB (eC (.str "p")) (aB (eC (.str "ab")) (aB (eC (.str "qwertz")) (aB (eC (.str "elevensigns")) (aF)))))) (aO 2 aG (aB (eV 0) (aB (eC (.int 4)) (aF))))))
  (aP (al 6 (aO 2 aG (aB (eV 0) (aB (aL fIx (bv (aB (eC (.int 9)) (aB (eC (.int 1000000)) (aF)))) (aO 2 aG (aB (eV 0) (aB (eC (.int 2)) (aF))))) (aF)))))
  (aP (al 7 (bv (aB (cH (aB (eC (.str "fly")) (aB (eV 3) (aB (eV 5) (aF))))) (aB (cH (aB (eC (.str "sell")) (aB (eV 5) (aB (eV 4) (aB (eC (.str "y")) (aF)))))) (aB (cH (aB (eC (.str "back")) (aB (eV 6) (aF)))) (aB (cH (aB (eC (.str "away")) (aB (eV 6) (aF)))) (aB (cH (aB (eC (.str "late")) (aB (eV 3) (aB (eV 6) (aF))))) (aF))))))))
  (aP (al 7 (aL (lv0 bO) (eV 7) (bv (aB (cH (aB (eC (.str "off")) (aB (eV 3) (aF)))) (aB (cH (aB (eC (.str "kind")) (aB (eV 5) (aB (eC (.str "big")) (aF))))) (aB (cH (aB (eC (.str "turn")) (aB (eV 6) (aF)))) (aB (cH (aB (eC (.str "mend")) (aB (eV 6) (aF)))) (aF))))))))
  (gD (eM cA bq (eV 1) (aB (aL fIx (eV 7) (aO 2 aG (aB (eV 0) (aB (eC (.int 9)) (aF))))) (aF)))))))))))
  (aw (eV 1)))
def cr:MF:=bJ 8 iL
theorem lA {P:Program} {w:World} {K:PySem.W.Frag} {mg:Str→Option Value} {base:Heap} (G:Gx P w K mg base):FnE P w K mg base 2 (He.ga K "_law_deeds") ["_law_state"] cr:=by
  obtain ⟨fd,F⟩:=G.f_law_deeds
  have fx:=G.fx
  refine ⟨fd,?_⟩
  refine bE (N:=N_law_deeds) (st:=k9) (k:=1) F ⟨rfl,rfl,rfl,by decide +kernel,rfl,by decide +kernel,by decide +kernel⟩ rfl (fun _ _ _ _ _ _ us hl=>match us,hl with|[_],_=>rfl) fun cdv A outer s H E hcd hp hr W tk=>?_
  have nd:N_law_deeds.Nodup:=by decide +kernel
  have hu1:=ru1 hr
  have hu64:=dP hr
  have hu65:=dQ hr
  exact (aE (aT (i:=1) nd rfl (by first|exact .inl rfl|exact .inr rfl) (gA aD))
    (aE (fE hp rfl (eQ rfl fx.n_range (aA (aM (ps:=["_law_state","_law_many"]) (m:=aG) (aN G) (hr.mono (by decide)) fx.d__law_drawn tk (aA (aC 0) (aA aJ aD))) aD)) (b3 (i:=2) nd rfl (by first|exact .inl rfl|exact .inr rfl)) (aE (aT (i:=3) nd rfl (by first|exact .inl rfl|exact .inr rfl) (bB (aA (aM (ps:=["_law_state","_law_many"]) (m:=aG) (aN G) (hr.mono (by decide)) fx.d__law_drawn tk (aA (aC 0) (aA aJ aD))) (aA (aS bP aJ (aM (ps:=["_law_state","_law_many"]) (m:=aG) (aN G) (hr.mono (by decide)) fx.d__law_drawn tk (aA (aC 0) (aA (ai hu1 (av (aA aJ (aA aJ aD))) (aM (ps:=["_law_state","_law_many"]) (m:=aG) (aN G) (hr.mono (by decide)) fx.d__law_drawn tk (aA (aC 0) (aA aJ aD)))) aD)))) aD))))
    (aE (aT (i:=4) nd rfl (by first|exact .inl rfl|exact .inr rfl) (eq hV rfl fx.n_tuple bU (aA (cj (own:=[("_law_j",8)]) rfl nd (eQ rfl fx.n_range (aA (aS bP aJ (aM (ps:=["_law_state","_law_many"]) (m:=aG) (aN G) (hr.mono (by decide)) fx.d__law_drawn tk (aA (aC 0) (aA aJ aD)))) aD)) (blkOk_by (by kernel_rfl)) (fun _ _ _ _ _=>(bD (i:=8) nd rfl (by first|exact .inl rfl|exact .inr rfl) (by decide))) (fun _ _ _ _ _=>b4) (fun _ _ _ _ _=>(bB (aA (aM (ps:=["_law_state","_law_many"]) (m:=aG) (aN G) (hr.mono (by decide)) fx.d__law_drawn takes0 (aA (aC 0) (aA aJ aD))) (aA (aS bP aJ (aM (ps:=["_law_state","_law_many"]) (m:=aG) (aN G) (hr.mono (by decide)) fx.d__law_drawn takes0 (aA (aC 0) (aA aJ aD)))) aD))))) aD)))
    (aE (aT (i:=5) nd rfl (by first|exact .inl rfl|exact .inr rfl) (ai hu1 (av (aA aI (aA aI (aA aI (aA aI aD))))) (aM (ps:=["_law_state","_law_many"]) (m:=aG) (aN G) (hr.mono (by decide)) fx.d__law_drawn tk (aA (aC 0) (aA aJ aD)))))
    (aE (aT (i:=6) nd rfl (by first|exact .inl rfl|exact .inr rfl) (aM (ps:=["_law_state","_law_many"]) (m:=aG) (aN G) (hr.mono (by decide)) fx.d__law_drawn tk (aA (aC 0) (aA (ai hu1 (av (aA aJ (aA aJ aD))) (aM (ps:=["_law_state","_law_many"]) (m:=aG) (aN G) (hr.mono (by decide)) fx.d__law_drawn tk (aA (aC 0) (aA aJ aD)))) aD))))
    (aE (aT (i:=7) nd rfl (by first|exact .inl rfl|exact .inr rfl) (av (aA (bB (aA aI (aA (aC 3) (aA (aC 5) aD)))) (aA (bB (aA aI (aA (aC 5) (aA (aC 4) (aA aI aD))))) (aA (bB (aA aI (aA (aC 6) aD))) (aA (bB (aA aI (aA (aC 6) aD))) (aA (bB (aA aI (aA (aC 3) (aA (aC 6) aD)))) aD)))))))
    (aE (aT (i:=7) nd rfl (by first|exact .inl rfl|exact .inr rfl) (aS bP (aC 7) (av (aA (bB (aA aI (aA (aC 3) aD))) (aA (bB (aA aI (aA (aC 5) (aA aI aD)))) (aA (bB (aA aI (aA (aC 6) aD))) (aA (bB (aA aI (aA (aC 6) aD))) aD)))))))
    (aK (fN (dZ gn PySem.F.plainAttrs_list PySem.F.slot_list_append PySem.F.type_list_append gK (aC 1) (aA (ai hu1 (aC 7) (aM (ps:=["_law_state","_law_many"]) (m:=aG) (aN G) (hr.mono (by decide)) fx.d__law_drawn tk (aA (aC 0) (aA aJ aD)))) aD)))))))))))
    (aK (aQ (aC 1)))))
abbrev gW:Stmt:=(top 41)
abbrev N_part_word:List Str:=["thing","shape","one"]
def aZ:Nat→MF
  | 0=>bJ 1 eP
  | n+1=>bJ 1 (aP (sIf (tOf (aL (lv dEq) (eV 1) (eC (.str "r")))) (aw (eJs [eFm (aL fIx (eV 0) (eC (.int 0))),eC (.str ":"),eFm (aL fIx (eV 0) (eC (.int 1)))])) (bS))
  (aP (sIf (tOf (aL (lv dEq) (eV 1) (eC (.str "v")))) (aw (eM az gP (eC (.str ",")) (aB (cC (fV (eV 0)) (gV 2) (b9) (aO 2 (aZ n) (aB (eV 2) (aB (eC (.str "r")) (aF)))) [2]) (aF)))) (bS))
  (aw (eB fStr (aB (eV 0) (aF))))))
theorem gX {P:Program} {w:World} {K:PySem.W.Frag} {mg:Str→Option Value} {base:Heap} (G:Gx P w K mg base):∀n:Nat,FnE P w K mg base (n+1) (He.ga K "part_word") ["thing","shape"] (aZ n)
  | 0=>by
    obtain ⟨fd,F⟩:=G.f_part_word
    have h:FnE P w K mg base 1 (He.ga K "part_word") ["thing","shape"] (bJ 1 eP):=by
      refine ⟨fd,?_⟩
      refine bE (N:=N_part_word) (st:=gW) (k:=0) F ⟨rfl,rfl,rfl,by decide +kernel,rfl,by decide +kernel,by decide +kernel⟩ rfl (fun _ _ _ _ _ _ us hl=>match us,hl with|[_,_],_=>rfl) fun cdv A outer s H E hcd hp hr W tk=>?_
      exact gr
    rw[Nat.zero_add]
    exact h
  | n+1=>by
    have ih:=gX G n
    obtain ⟨fd,F⟩:=G.f_part_word
    have fx:=G.fx
    have h:FnE P w K mg base (n+1+1) (He.ga K "part_word") ["thing","shape"] (aZ (n+1)):=by
      refine ⟨fd,?_⟩
      refine bE (N:=N_part_word) (st:=gW) (k:=n+1) F ⟨rfl,rfl,rfl,by decide +kernel,rfl,by decide +kernel,by decide +kernel⟩ rfl (fun _ _ _ _ _ _ us hl=>match us,hl with|[_,_],_=>rfl) fun cdv A outer s H E hcd hp hr W tk=>?_
      have nd:N_part_word.Nodup:=by decide +kernel
      have hu1:=ru1 hr
      have hu64:=dP hr
      have hu65:=dQ hr
      exact (aE (a8 (aR (dD hu64) (aC 1) aI (by with_unfolding_all rfl)) (aK (aQ (sE_js (.cons (sE_fm (ai hu1 (aC 0) aJ)) (.cons aI (.cons (sE_fm (ai hu1 (aC 0) aJ)) .nil)))))) aU)
    (aE (a8 (aR (dD hu64) (aC 1) aI (by with_unfolding_all rfl)) (aK (aQ (dZ cR PySem.F.plainAttrs_str PySem.F.slot_str_join PySem.F.type_str_join ky aI (aA (cj (own:=[("one",2)]) rfl nd (cY (aC 0)) (blkOk_by (by kernel_rfl)) (fun _ _ _ _ _=>(bD (i:=2) nd rfl (by first|exact .inl rfl|exact .inr rfl) (by decide))) (fun _ _ _ _ _=>b4) (fun _ _ _ _ _=>(aM (ps:=["thing","shape"]) (m:=(aZ n)) ih hr fx.d_part_word takes0 (aA (aC 2) (aA aI aD))))) aD)))) aU)
    (aK (aQ (eq c_str rfl fx.n_str mW (aA (aC 0) aD))))))
    rw[show n+1+1=n+1+1 by omega]
    exact h
theorem bt {P:Program} {w:World} {K:PySem.W.Frag} {mg:Str→Option Value} {base:Heap} (G:Gx P w K mg base):∃fd,FnOk P w K mg base C8.CX0 1 (He.ma K (He.ga K "BadDeed") "__init__") fd ["self","number"] (spI (He.ga K "BadDeed") ["number"])∧Binds K fd ["self","number"] []:=by
  obtain ⟨fd,F⟩:=G.f_BadDeed_init__
  have fx:=G.fx
  exact ⟨fd,lf (k:=0) fx.e_BadDeed F ⟨rfl,rfl,rfl,by decide +kernel,rfl,by decide +kernel,by decide +kernel⟩ fx.d_AirError rfl rfl (fun _ _=>⟨plainOf _ _,rfl⟩),F.bindsN (fun _ _ _ _ _ _ us hl=>match us,hl with|[_,_],_=>rfl)⟩
abbrev jZ:Stmt:=(top 32)
abbrev N_need_deeds:List Str:=["deeds","number","deed"]
def gY:MS:=aP (sIf (cK (dO (eB bV (aB (eV 0) (aB (eC (.ty "list")) (aF)))))) (c9 "BadDeed" ["number"] (aB (eC (.int 0)) (aF))) (bS))
  (fW (eR (aB (eV 0) (aF))) (dG 2 (a9 (gV 1) (a9 (gV 2) (dS)))) (aP (sIf (dj (cK (dO (eB bV (aB (eV 2) (aB (eC (.ty "tuple")) (aF)))))) (dj (tOf (aL (lv dEq) (eV 2) (cH (aF)))) (dj (cK (dO (eB bV (aB (aL fIx (eV 2) (eC (.int 0))) (aB (eC (.ty "str")) (aF)))))) (tOf (iE true [("fly",2),("sell",3),("back",1),("away",1),("late",2),("off",1),("kind",2),("turn",1),("mend",1)] (aL fIx (eV 2) (eC (.int 0)))))))) (c9 "BadDeed" ["number"] (aB (eV 1) (aF))) (bS))
  (sIf (tOf (aL (lv dNe) (eB aq (aB (eV 2) (aF))) (aL (lv0 bO) (i7 [("fly",2),("sell",3),("back",1),("away",1),("late",2),("off",1),("kind",2),("turn",1),("mend",1)] (aL fIx (eV 2) (eC (.int 0)))) (eC (.int 1))))) (c9 "BadDeed" ["number"] (aB (eV 1) (aF))) (bS))))
def cS:MF:=bJ 2 gY
theorem ja {P:Program} {w:World} {K:PySem.W.Frag} {mg:Str→Option Value} {base:Heap} (G:Gx P w K mg base):FnE P w K mg base 3 (He.ga K "need_deeds") ["deeds"] cS:=by
  obtain ⟨fd,F⟩:=G.f_need_deeds
  have fx:=G.fx
  refine ⟨fd,?_⟩
  refine bE (N:=N_need_deeds) (st:=jZ) (k:=2) F ⟨rfl,rfl,rfl,by decide +kernel,rfl,by decide +kernel,by decide +kernel⟩ rfl (fun _ _ _ _ _ _ us hl=>match us,hl with|[_],_=>rfl) fun cdv A outer s H E hcd hp hr W tk=>?_
  have nd:N_need_deeds.Nodup:=by decide +kernel
  have hu1:=ru1 hr
  have hu64:=dP hr
  have hu65:=dQ hr
  exact (aE (a8 (cX (cP (am c6 rfl fx.n_isinstance aH (aA (aC 0) (aA (cO rfl fx.n_list gM) aD))))) (aK (dq (ns:=["number"]) rfl tk fx.e_BadDeed (bt G) (hr.mono (by decide)) fx.d_BadDeed rfl (aA aJ aD))) aU)
    (aK (fE hp rfl (kQ rfl fx.n_enumerate (aA (aC 0) aD)) (mK rfl (co (b3 (i:=1) nd rfl (by first|exact .inl rfl|exact .inr rfl)) (co (b3 (i:=2) nd rfl (by first|exact .inl rfl|exact .inr rfl)) iS))) (aE (a8 (cx (dF (cX (cP (am c6 rfl fx.n_isinstance aH (aA (aC 2) (aA (cO rfl fx.n_tuple bU) aD))))) (dF (aR (dD hu64) (aC 2) (bB aD) (by with_unfolding_all rfl)) (dF (cX (cP (am c6 rfl fx.n_isinstance aH (aA (ai hu1 (aC 2) aJ) (aA (cO rfl fx.n_str mW) aD))))) (dE (nz (.inr ⟨rfl,rfl⟩) G.t_DEEDS fx.d_DEEDS rfl (ai hu1 (aC 2) aJ))))))) (aK (dq (ns:=["number"]) rfl tk fx.e_BadDeed (bt G) (hr.mono (by decide)) fx.d_BadDeed rfl (aA (aC 1) aD))) aU)
    (aK (a8 (aR (fU hu64) (am cM rfl fx.n_len bT (aA (aC 2) aD)) (aS bP (n4 G.t_DEEDS fx.d_DEEDS rfl (ai hu1 (aC 2) aJ)) aJ) (by with_unfolding_all rfl)) (aK (dq (ns:=["number"]) rfl tk fx.e_BadDeed (bt G) (hr.mono (by decide)) fx.d_BadDeed rfl (aA (aC 1) aD))) aU))))))
abbrev nE:Stmt:=(top 42)
abbrev N_written:List Str:=["deeds","rows","number","deed","parts","thing","shape"]
def j2:MS:=aP (gD (aO 1 cS (aB (eV 0) (aF))))
  (aP (al 1 (hB (aF)))
  (aP (fW (eR (aB (eV 0) (aF))) (dG 2 (a9 (gV 2) (a9 (gV 3) (dS)))) (aP (al 4 (i9 (aB (lO (eV 3) (g9 (eC (.int 1))) (pNo)) (aB (aO 1 bY (aB (aL fIx (eV 3) (eC (.int 0))) (aF))) (aF)))))
  (aP (sIf (cK (dO (eB jQ (aB (cC (fV (eV 4)) (dG 2 (a9 (gV 5) (a9 (gV 6) (dS)))) (b9) (aO 2 a4 (aB (eV 5) (aB (eV 6) (aF)))) [5,6]) (aF))))) (c9 "BadDeed" ["number"] (aB (eV 2) (aF))) (bS))
  (gD (eM cA bq (eV 1) (aB (eM az gP (eC (.str " ")) (aB (aL (lv0 bO) (bv (aB (aL fIx (eV 3) (eC (.int 0))) (aF))) (cC (fV (eV 4)) (dG 2 (a9 (gV 5) (a9 (gV 6) (dS)))) (b9) (aO 2 (aZ 2) (aB (eV 5) (aB (eV 6) (aF)))) [5,6])) (aF))) (aF)))))))
  (aw (eM az gP (eC (.str "\n")) (aB (eV 1) (aF))))))
def eF:MF:=bJ 6 j2
theorem nF {P:Program} {w:World} {K:PySem.W.Frag} {mg:Str→Option Value} {base:Heap} (G:Gx P w K mg base):FnE P w K mg base 4 (He.ga K "written") ["deeds"] eF:=by
  obtain ⟨fd,F⟩:=G.f_written
  have fx:=G.fx
  refine ⟨fd,?_⟩
  refine bE (N:=N_written) (st:=nE) (k:=3) F ⟨rfl,rfl,rfl,by decide +kernel,rfl,by decide +kernel,by decide +kernel⟩ rfl (fun _ _ _ _ _ _ us hl=>match us,hl with|[_],_=>rfl) fun cdv A outer s H E hcd hp hr W tk=>?_
  have nd:N_written.Nodup:=by decide +kernel
  have hu1:=ru1 hr
  have hu64:=dP hr
  have hu65:=dQ hr
  exact (aE (fN (aM (ps:=["deeds"]) (m:=cS) (ja G) (hr.mono (by decide)) fx.d_need_deeds tk (aA (aC 0) aD)))
    (aE (aT (i:=1) nd rfl (by first|exact .inl rfl|exact .inr rfl) (gA aD))
    (aE (fE hp rfl (kQ rfl fx.n_enumerate (aA (aC 0) aD)) (mK rfl (co (b3 (i:=2) nd rfl (by first|exact .inl rfl|exact .inr rfl)) (co (b3 (i:=3) nd rfl (by first|exact .inl rfl|exact .inr rfl)) iS))) (aE (aT (i:=4) nd rfl (by first|exact .inl rfl|exact .inr rfl) (my rfl fx.n_list rfl fx.n_zip (aA (il (aC 3) (f9 aJ) lP) (aA (aM (ps:=["word"]) (m:=bY) (iG G) (hr.mono (by decide)) fx.d_shape_of tk (aA (ai hu1 (aC 3) aJ) aD)) aD))))
    (aE (a8 (cX (cP (am (ni rfl) rfl fx.n_all ki (aA (cj (own:=[("thing",5),("shape",6)]) rfl nd (cY (aC 4)) (blkOk_by (by kernel_rfl)) (fun _ _ _ _ _=>(mO rfl (dn (bD (i:=5) nd rfl (by first|exact .inl rfl|exact .inr rfl) (by decide)) (dn (bD (i:=6) nd rfl (by first|exact .inl rfl|exact .inr rfl) (by decide)) kR)))) (fun _ _ _ _ _=>b4) (fun _ _ _ _ _=>(aM (ps:=["thing","shape"]) (m:=a4) (jC G) (hr.mono (by decide)) fx.d_is_part takes0 (aA (aC 5) (aA (aC 6) aD))))) aD)))) (aK (dq (ns:=["number"]) rfl tk fx.e_BadDeed (bt G) (hr.mono (by decide)) fx.d_BadDeed rfl (aA (aC 2) aD))) aU)
    (aK (fN (dZ gn PySem.F.plainAttrs_list PySem.F.slot_list_append PySem.F.type_list_append gK (aC 1) (aA (dZ cR PySem.F.plainAttrs_str PySem.F.slot_str_join PySem.F.type_str_join ky aI (aA (aS bP (av (aA (ai hu1 (aC 3) aJ) aD)) (cj (own:=[("thing",5),("shape",6)]) rfl nd (cY (aC 4)) (blkOk_by (by kernel_rfl)) (fun _ _ _ _ _=>(mO rfl (dn (bD (i:=5) nd rfl (by first|exact .inl rfl|exact .inr rfl) (by decide)) (dn (bD (i:=6) nd rfl (by first|exact .inl rfl|exact .inr rfl) (by decide)) kR)))) (fun _ _ _ _ _=>b4) (fun _ _ _ _ _=>(aM (ps:=["thing","shape"]) (m:=(aZ 2)) (gX G 2) (hr.mono (by decide)) fx.d_part_word takes0 (aA (aC 5) (aA (aC 6) aD)))))) aD)) aD)))))))
    (aK (aQ (dZ cR PySem.F.plainAttrs_str PySem.F.slot_str_join PySem.F.type_str_join ky aI (aA (aC 1) aD)))))))
abbrev lB:Stmt:=(top 48)
abbrev N_law_start:List Str:=["_law_script","_law_mixed","_law_cell"]
def iM:MS:=aP (al 1 (eC (.int 1)))
  (aP (fW (fV (eV 0)) (gV 2) (al 1 (aL (lv dMod) (aL (lv0 bO) (aL (lv0 bO) (aL (lv pM) (eV 1) (eC (.int 48271))) (eV 2)) (eC (.int 7))) (eC (.int 2147483647)))))
  (aw (hB (aB (eV 0) (aB (eC (.int 0)) (aB (eV 1) (aB (eC (.int 0)) (aF))))))))
def cu:MF:=bJ 2 iM
theorem lC {P:Program} {w:World} {K:PySem.W.Frag} {mg:Str→Option Value} {base:Heap} (G:Gx P w K mg base):FnE P w K mg base 1 (He.ga K "_law_start") ["_law_script"] cu:=by
  obtain ⟨fd,F⟩:=G.f_law_start
  have fx:=G.fx
  refine ⟨fd,?_⟩
  refine bE (N:=N_law_start) (st:=lB) (k:=0) F ⟨rfl,rfl,rfl,by decide +kernel,rfl,by decide +kernel,by decide +kernel⟩ rfl (fun _ _ _ _ _ _ us hl=>match us,hl with|[_],_=>rfl) fun cdv A outer s H E hcd hp hr W tk=>?_
  have nd:N_law_start.Nodup:=by decide +kernel
  have hu1:=ru1 hr
  have hu64:=dP hr
  have hu65:=dQ hr
  exact (aE (aT (i:=1) nd rfl (by first|exact .inl rfl|exact .inr rfl) aJ)
    (aE (fE hp rfl (cY (aC 0)) (b3 (i:=2) nd rfl (by first|exact .inl rfl|exact .inr rfl)) (aK (aT (i:=1) nd rfl (by first|exact .inl rfl|exact .inr rfl) (aS lK (aS bP (aS bP (aS pN (aC 1) aJ) (aC 2)) aJ) aJ))))
    (aK (aQ (gA (aA (aC 0) (aA aJ (aA (aC 1) (aA aJ aD)))))))))
abbrev qd:Stmt:=(top 58)
abbrev N_law:List Str:=["_law_script","_law_state","_law_odd","_law_turn","_law_text","_law_change"]
def b_law:MS:=aP (al 1 (aO 1 cu (aB (eV 0) (aF))))
  (aP (al 2 (bv (aB (eC (.str "")) (aB (eC (.str "\n")) (aB (eC (.str " ")) (aB (eC (.str "fly")) (aB (eC (.str "turn 5 ")) (aB (eC (.str "turn  5")) (aB (eC (.str "off 3:101\n")) (aB (eC (.str "Turn 5")) (aB (eC (.str "sell a 1:2 y")) (aB (eC (.str "late 1:2 05")) (aF)))))))))))))
  (aP (fW (cy (aB (eC (.int 8)) (aF))) (gV 3) (aP (al 4 (aO 1 eF (aB (aO 1 cr (aB (eV 1) (aF))) (aF))))
  (aP (sIf (tOf (aL (lv dEq) (aO 2 aG (aB (eV 1) (aB (eC (.int 6)) (aF)))) (eC (.int 0)))) (al 4 (aL fIx (eV 2) (aO 2 aG (aB (eV 1) (aB (eC (.int 10)) (aF)))))) (bS))
  (aP (fW (cy (aB (aO 2 aG (aB (eV 1) (aB (eC (.int 4)) (aF)))) (aF))) (gV 5) (al 4 (aO 2 bc (aB (eV 1) (aB (eV 4) (aF))))))
  (sIf (cK (dO (aO 2 (bA 12) (aB (hZ hdK (aO 1 eX (aB (eV 4) (aF)))) (aB (aO 1 cg (aB (eV 4) (aF))) (aF)))))) (aw (eC (.bool false))) (bS))))))
  (aw (eC (.bool true)))))
def l7:MF:=bJ 5 b_law
theorem ok_law {P:Program} {w:World} {K:PySem.W.Frag} {mg:Str→Option Value} {base:Heap} (G:Gx P w K mg base) {fd:FuncData} (F:FunD K "law" "law" (defArgs (top 58)) (defBody (top 58)) (defScope (top 58)) [] [] (He.ga K "law") fd):FnM P w K mg base 16 (He.ga K "law") fd ["_law_script"] l7:=by
  have fx:=G.fx
  refine bE (N:=N_law) (st:=qd) (k:=15) F ⟨rfl,rfl,rfl,by decide +kernel,rfl,by decide +kernel,by decide +kernel⟩ rfl (fun _ _ _ _ _ _ us hl=>match us,hl with|[_],_=>rfl) fun cdv A outer s H E hcd hp hr W tk=>?_
  have nd:N_law.Nodup:=by decide +kernel
  have hu1:=ru1 hr
  have hu64:=dP hr
  have hu65:=dQ hr
  have lh:=mV (X:=cxOf (L2N.CX P w) P w K mg base N_law "law" (defScope qd) (He.ga K "law") cdv A outer s H E) (p:=("law",none)) F rfl (G.tb (("law",none),"law.<locals>.<lambda>") (by decide)) hcd.symm rfl (G.tm (("law",none),"law.<locals>.<lambda>") (by decide)) (G.tu (("law",none),"law.<locals>.<lambda>") (by decide))
  exact (aE (aT (i:=1) nd rfl (by first|exact .inl rfl|exact .inr rfl) (aM (ps:=["_law_script"]) (m:=cu) (lC G) (hr.mono (by decide)) fx.d__law_start tk (aA (aC 0) aD)))
    (aE (aT (i:=2) nd rfl (by first|exact .inl rfl|exact .inr rfl) (av (aA aI (aA aI (aA aI (aA aI (aA aI (aA aI (aA aI (aA aI (aA aI (aA aI aD))))))))))))
    (aE (fE hp rfl (eQ rfl fx.n_range (aA aJ aD)) (b3 (i:=3) nd rfl (by first|exact .inl rfl|exact .inr rfl)) (aE (aT (i:=4) nd rfl (by first|exact .inl rfl|exact .inr rfl) (aM (ps:=["deeds"]) (m:=eF) (nF G) (hr.mono (by decide)) fx.d_written tk (aA (aM (ps:=["_law_state"]) (m:=cr) (lA G) (hr.mono (by decide)) fx.d__law_deeds tk (aA (aC 1) aD)) aD)))
    (aE (a8 (aR (dD hu64) (aM (ps:=["_law_state","_law_many"]) (m:=aG) (aN G) (hr.mono (by decide)) fx.d__law_drawn tk (aA (aC 1) (aA aJ aD))) aJ (by with_unfolding_all rfl)) (aK (aT (i:=4) nd rfl (by first|exact .inl rfl|exact .inr rfl) (ai hu1 (aC 2) (aM (ps:=["_law_state","_law_many"]) (m:=aG) (aN G) (hr.mono (by decide)) fx.d__law_drawn tk (aA (aC 1) (aA aJ aD)))))) aU)
    (aE (fE hp rfl (eQ rfl fx.n_range (aA (aM (ps:=["_law_state","_law_many"]) (m:=aG) (aN G) (hr.mono (by decide)) fx.d__law_drawn tk (aA (aC 1) (aA aJ aD))) aD)) (b3 (i:=5) nd rfl (by first|exact .inl rfl|exact .inr rfl)) (aK (aT (i:=4) nd rfl (by first|exact .inl rfl|exact .inr rfl) (aM (ps:=["_law_state","_law_text"]) (m:=bc) (jY G) (hr.mono (by decide)) fx.d__law_spoilt tk (aA (aC 1) (aA (aC 4) aD))))))
    (aK (a8 (cX (cP (aM (ps:=["_law_found","_law_due_here"]) (m:=(bA 12)) (iK G 12) (hr.mono (by decide)) fx.d__law_same tk (aA (rn (hd:=hdK) (k:=lvKind) (sS G) fx.d__law_kind lh (hr.mono (by decide)) (lamS_by (by kernel_rfl)) (fun A outer s H E f c' hr W tk2=>by
    have hu1:=ru1 hr
    have hu64:=dP hr
    have hu65:=dQ hr
    exact (aM (ps:=["text"]) (m:=eX) (sQ G) (hr.mono (by decide)) fx.d_read tk2 (aA (aC 4) aD)))) (aA (aM (ps:=["_law_text"]) (m:=cg) (nD G) (hr.mono (by decide)) fx.d__law_due tk (aA (aC 4) aD)) aD))))) (aK (aQ eN)) aU))))))
    (aK (aQ eN)))))
end
end DL
namespace DL
open PySem PySem.Spec PyProof.Rows L2 LamX
def dayD (b:Bool) (l:List Int):D:=if b then .tpn (l.map .int) else .tup (l.map .int)
structure Leg where
  num:Int
  start:Str
  goal:Str
  out:Int
  long:Int
  db:Bool
  days:List Int
  fare:Int
  deriving Inhabited
def Leg.d (l:Leg):D:=.tup [.int l.num,.str l.start,.str l.goal,.int l.out,.int l.long,dayD l.db l.days,.int l.fare]
structure LegOk (names:List Str) (l:Leg):Prop where
  num:1≤l.num∧l.num≤9999
  s:l.start∈names
  g:l.goal∈names
  ne:l.start≠l.goal
  out:0≤l.out∧l.out<1440
  long:20≤l.long∧l.long≤900
  dne:l.days≠[]
  dlt:l.days.Pairwise (·<·)
  dbd:∀d∈l.days,0≤d∧d≤6
  fare:1≤l.fare∧l.fare≤100000
  odd:l.num≠99∧l.num≠9999
def six:List Str:=["aba","bcd","cad","dub","eli","fra"]
structure NetOk (ps:List (Str × Int)) (ls:List Leg):Prop where
  names:∃n,2≤n∧n≤6∧ps.map (·.1)=six.take n
  ch:∀p∈ps,10≤p.2∧p.2≤300
  legs:∀l∈ls,LegOk (ps.map (·.1)) l
  nd:(ls.map (·.num)).Nodup
  ne:ls≠[]
  len:ls.length≤60
  few:ls.length≤28
@[simp] theorem dayD_vt (b:Bool) (l:List Int):vt (dayD b l)=.tup (l.map .int):=by cases b<;>rfl
@[simp] theorem dayD_view (S:Sto) (b:Bool) (l:List Int):view S (dayD b l)=.tup (l.map .int):=by cases b<;>rfl
def HasLeg (ls:List Leg) (n:Int):Prop:=∃l∈ls,l.num=n
theorem HasLeg.of {ls:List Leg} {l:Leg} (h:l∈ls):HasLeg ls l.num:=⟨l,h,rfl⟩
structure NetAt (S:Sto) (l:Nat) (ps:List (Str × Int)) (ls:List Leg):Prop where
  ex:∃c g,S[l]?=some (.ins "Net" [("changes",.loc c),("legs",.loc g)])∧S[c]?=some (.dct false (ps.map fun p=>(.str p.1,.int p.2)))∧S[g]?=some (.dct false (ls.map fun x=>(.int x.num,x.d)))
/-- the same,told: its legs may be locked -/
structure NetL (S:Sto) (l:Nat) (ls:List Leg):Prop where
  ex:∃c g,S[l]?=some (.ins "Net" [("changes",.loc c),("legs",.loc g)])∧bW S[g]?=some (false,ls.map fun x=>(.int x.num,x.d))
theorem NetAt.l {S:Sto} {l:Nat} {ps:List (Str × Int)} {ls:List Leg} (h:NetAt S l ps ls):NetL S l ls:=by
  obtain ⟨c,g,h1,h2,h3⟩:=h.ex
  exact ⟨⟨c,g,h1,by rw[h3]; rfl⟩⟩
theorem n6 {S:Sto} {l:Nat} {o:O} (h:S[l]?=some o) (T:Sto):(S++T)[l]?=some o:=by
  rw[List.getElem?_append_left (List.getElem?_eq_some_iff.mp h).1]; exact h
end DL
set_option maxHeartbeats 1000000
namespace DL
open PySem PySem.Spec PyProof.Rows L2 LamX
/-- the state of the drawing -/
def stD (sc:List Int) (p m r:Int):O:=.lst [.ro (sc.map .int),.int p,.int m,.int r]
structure Dr (sc:List Int) (o:O):Prop where
  ex:∃p m r,o=stD sc p m r∧0≤p∧0≤r
theorem nH {sc:List Int} {p m r:Int} {T:Sto} {many:Int} (hm:0<many) (hm2:many<1073741824) (h0:0≤p) (hr:0≤r) :
    ∃v p' m' r',aG [.loc 0,.int many] (stD sc p m r::T)=.ok (.int v) (stD sc p' m' r'::T)∧0≤v∧v<many∧0≤p'∧0≤r':=by
  by_cases h:0<r
  · exact ⟨r % many,p,m,r / many,by simp[aG,cq,stD,fIx,h,hm,hm2,atI,ixN,dW,fT,kX,cz],Int.emod_nonneg _ (by omega),Int.emod_lt_of_pos _ hm,h0,Int.ediv_nonneg hr (by omega)⟩
  · have hr0:r=0:=by omega
    subst hr0
    by_cases hp:p+1≤sc.length
    · have hx:atI (sc.map D.int) p=some (.int (sc[p.toNat]'(by omega))):=by
        rw[kq h0 (by simp; omega)]
        simp[List.getElem?_map,List.getElem?_eq_getElem (show p.toNat<sc.length by omega)]
      generalize sc[p.toNat]'(by omega)=c at hx
      have x1:ixN 4 1=some 1:=rfl
      have x3:ixN 4 3=some 3:=rfl
      by_cases hc:1000000000000000000≤c
      · refine ⟨c % many,p+1,m,c / many,?_,Int.emod_nonneg _ (by omega),Int.emod_lt_of_pos _ hm,by omega,Int.ediv_nonneg (by omega) (by omega)⟩
        simp[aG,cq,stD,fIx,x1,x3,hx,hc,hm,hm2,dW,fT,kX,cz,aq,hp,cPow]
      · refine ⟨c % many,p+1,m,0,?_,Int.emod_nonneg _ (by omega),Int.emod_lt_of_pos _ hm,by omega,by omega⟩
        simp[aG,cq,stD,fIx,x1,x3,hx,hc,hm,hm2,dW,fT,kX,cz,aq,hp,cPow]
    · refine ⟨(m*48271+11) % 2147483647 / 7 % many,p+1,(m*48271+11) % 2147483647,0,?_,Int.emod_nonneg _ (by omega),Int.emod_lt_of_pos _ hm,by omega,by omega⟩
      simp[aG,cq,stD,fIx,hm,hm2,atI,ixN,dW,fT,kX,cz,aq,hp,cPow,bG]
theorem ak {sc:List Int} {o:O} {T:Sto} {many:Int} {Q:D→Sto→Prop} {E:XV→Sto→Prop} (d:Dr sc o) (hm:0<many) (hm2:many<1073741824) (k:∀(v:Int) (o':O),Dr sc o'→0≤v→v<many→Q (.int v) (o'::T)):Res.wp (aG [.loc 0,.int many] (o::T)) Q E:=by
  obtain ⟨p,m,r,rfl,h0,hr⟩:=d.ex
  obtain ⟨v,p',m',r',e,h1,h2,h3,h4⟩:=nH (sc:=sc) (m:=m) (T:=T) hm hm2 h0 hr
  rw[e,dt]
  exact k v _ ⟨p',m',r',rfl,h3,h4⟩ h1 h2
theorem qe {sc:List Int} {Q:D→Sto→Prop} {E:XV→Sto→Prop} (k:∀o,Dr sc o→Q (.loc 0) [o]):Res.wp (cu [.ro (sc.map .int)] []) Q E:=by
  unfold cu
  apply aW
  unfold iM
  simp
  refine gu (f:=D.int) sc (fun _ _ env S=>∃m x,env=[some (.ro (sc.map .int)),some (.int m),x]∧S=[]) rfl ⟨_,_,rfl,rfl⟩ ?_ ?_
  · rintro pre x rest env S _ ⟨m,y,rfl,rfl⟩
    refine ⟨_,rfl,?_⟩
    simp[bG,dW]
  · rintro env S ⟨m,x,rfl,rfl⟩
    simp
    exact k _ ⟨0,m,0,rfl,by omega,by omega⟩
end DL
namespace DL
open PySem PySem.Spec PyProof.Rows L2 LamX
theorem dL (lo:Int) (n:Nat):gF lo n=(List.range n).map fun i=>D.int (lo+(i:Nat)):=rfl
theorem gZ {n:Nat} {pre rest:List Nat} {k:Nat} (h:pre++k::rest=List.range n):k=pre.length∧k<n:=by
  have hl:=congrArg List.length h
  simp at hl
  have hk:(pre++k::rest)[pre.length]?=some k:=by simp
  rw[h,List.getElem?_range (by omega)] at hk
  cases hk
  exact ⟨rfl,by omega⟩
/-- legs that are being drawn: k turns of them behind one another -/
structure LegsUpTo (names:List Str) (top:Int) (n:Nat) (ls:List Leg):Prop where
  ok:∀l∈ls,LegOk names l
  nd:(ls.map (·.num)).Nodup
  lt:∀l∈ls,l.num<top
  len:ls.length≤n
theorem LegsUpTo.mono {names:List Str} {t t':Int} {n n':Nat} {ls:List Leg} (h:LegsUpTo names t n ls) (h1:t≤t') (hn:n≤n'):LegsUpTo names t' n' ls:=
  ⟨h.ok,h.nd,fun l hl=>by have:=h.lt l hl; omega,by have:=h.len; omega⟩
theorem LegsUpTo.nil (names:List Str) (t:Int) (n:Nat):LegsUpTo names t n []:=⟨nofun,.nil,nofun,by simp⟩
def nm (i:Int):Str:=six.getD i.toNat ""
end DL
namespace DL
open PySem PySem.Spec PyProof.Rows L2 LamX
theorem af {α:Type} {r:Res α} {v:α} {S0:Sto} (h:Res.wp r (fun a S'=>a=v∧S'=S0) NoE):r=.ok v S0:=by
  cases r with
  | ok a S=>rw[dt] at h; obtain ⟨rfl,rfl⟩:=h; rfl
  | exc e S=>simp at h
  | stuck=>simp at h
theorem ac {τ:Type} {g:MG} {tc:MT} {m:ME} {w:En} {f:τ→D} {ds:List D} {S:Sto} {Q:List D→Sto→Prop} {E:XV→Sto→Prop} (xs:List τ) (p:τ→Bool) (v:τ→D) (e:ds=xs.map f) (hl:xs.length≤1000000)
    (hx:∀x∈xs,∃e,g (f x) w S=some (e,S)∧tc e S=.ok (p x) S∧(p x=true→m e S=.ok (v x) S)) (q:Q ((xs.filter p).map v) S):Res.wp (cW g tc m w ds [] S) Q E:=by
  rw[e,eT xs p v hl hx,dt]; exact q
theorem a6 {α:Type} (xs:List α):xs.filter (fun _=>true)=xs:=List.filter_eq_self.mpr fun _ _=>rfl
@[simp] theorem qf {τ:Type} (S:Sto) (xs:List τ) (g:τ→Bool):jQ S [.lst (xs.map fun x=>.bool (g x))]=some (.bool (xs.all g)):=by
  have:=mf S (xs.map g)
  rw[List.map_map] at this
  rw[show (xs.map fun x=>D.bool (g x))=xs.map (D.bool∘g) from rfl,this,List.all_map]
  rfl
@[simp] theorem cut_1 {α:Type} (xs:List α):dX xs (some 1) none=xs.tail:=by
  rw[show (1:Int)=((1:Nat):Int) from rfl,li,List.drop_one]
/-- a whole number between two -/
def fJ (x:D) (a b:Int):Bool:=match x with
  | .int i=>decide (a≤i)&&decide (i≤b)
  | _=>false
@[simp] theorem known_int:ck "int"=true:=rfl
@[simp] theorem known_bool:ck "bool"=true:=rfl
@[simp] theorem known_str:ck "str"=true:=rfl
@[simp] theorem tR:ck "tuple"=true:=rfl
@[simp] theorem known_list:ck "list"=true:=rfl
@[simp] theorem known_dict:ck "dict"=true:=rfl
@[simp] theorem tyo_int (S:Sto) (i:Int):dI S (.int i)=some "int":=rfl
@[simp] theorem tyo_bool (S:Sto) (i:Bool):dI S (.bool i)=some "bool":=rfl
@[simp] theorem tyo_str (S:Sto) (i:Str):dI S (.str i)=some "str":=rfl
@[simp] theorem tyo_tup (S:Sto) (i:List D):dI S (.tup i)=some "tuple":=rfl
@[simp] theorem tyo_tpn (S:Sto) (i:List D):dI S (.tpn i)=some "tuple":=rfl
@[simp] theorem tyo_lst (S:Sto) (i:List D):dI S (.lst i)=some "list":=rfl
@[simp] theorem tyo_none (S:Sto):dI S .none=some "NoneType":=rfl
@[simp] theorem tyo_day (S:Sto) (b:Bool) (l:List Int):dI S (dayD b l)=some "tuple":=by cases b<;>rfl
@[simp] theorem isTy_at (a b:String):isTy a b=(a == b||(a == "bool"&&b == "int")):=rfl
theorem nI {S:Sto} {x:D} {t:String} (a b:Int) (h:dI S x=some t):ar [x,.int a,.int b] S=.ok (.bool (fJ x a b)) S:=by
  have st:∀t:String,t≠"int"→t≠"bool"→dI S x=some t→fJ x a b=false→ar [x,.int a,.int b] S=.ok (.bool (fJ x a b)) S:=by
    intro t h1 h2 h3 h4
    simp[ar,dU,bV,h3,h1,h2,h4]
  cases x with
  | int i=>
    by_cases h1:a≤i<;>by_cases h2:i≤b<;>simp[ar,dU,bV,fJ,h1,h2]
  | bool i=>simp[ar,dU,bV,fJ]
  | none=>cases h; exact st _ (by decide) (by decide) rfl rfl
  | str=>cases h; exact st _ (by decide) (by decide) rfl rfl
  | tup=>cases h; exact st _ (by decide) (by decide) rfl rfl
  | tpn=>cases h; exact st _ (by decide) (by decide) rfl rfl
  | lst=>cases h; exact st _ (by decide) (by decide) rfl rfl
  | loc l=>
    simp only[dI] at h
    refine st t ?_ ?_ (by simp only[dI]; exact h) rfl
    · rintro rfl; split at h<;>simp at h
    · rintro rfl; split at h<;>simp at h
  | ty=>cases h
  | ro=>cases h
  | glo=>cases h
  | adr=>cases h
  | clo=>cases h
  | exn=>cases h
@[simp] theorem num_int (S:Sto) (i a b:Int):ar [.int i,.int a,.int b] S=.ok (.bool (decide (a≤i)&&decide (i≤b))) S:=nI a b rfl
end DL
namespace DL
open PySem PySem.Spec PyProof.Rows L2 LamX
theorem ot {τ:Type} {ps:List τ} {pre rest:List (τ × Nat)} {x:τ × Nat} (h:pre++x::rest=ps.zipIdx):x.2=pre.length∧ps=pre.map (·.1)++x.1::rest.map (·.1):=by
  have h1:=congrArg (fun l=>l.map (·.1)) h
  have h2:=congrArg (fun l=>l[pre.length]?) h
  simp at h1 h2
  refine ⟨?_,h1.symm⟩
  obtain ⟨a,ha,e⟩:=Option.map_eq_some_iff.mp h2.symm
  rw[←e]
def cF:List Nat:=(("abcdefghijklmnopqrstuvwxyz":Str)).cps.toList
theorem NetOk.sub {ps:List (Str × Int)} {ls:List Leg} (h:NetOk ps ls):∀x∈ps.map (·.1),x∈six:=by
  obtain ⟨n,_,_,e⟩:=h.names
  rw[e]
  exact fun x hx=>List.mem_of_mem_take hx
end DL
namespace DL
open PySem PySem.Spec PyProof.Rows L2 LamX
open PySem.NumText (digitsVal AllDigits)
def gb:List Nat:=(("0123456789":Str)).cps.toList
theorem qg (c:Nat):c∈gb↔48≤c∧c≤57:=by
  have:gb=[48,49,50,51,52,53,54,55,56,57]:=by decide +kernel
  rw[this]
  simp only[List.mem_cons,List.not_mem_nil,or_false]
  omega
def sg (c:Nat):Str:=⟨#[c]⟩
/-- the text's first sign is no 0,or it is one sign long -/
def lead (w:Str):Bool:=decide (w.length=1)||decide (w.cps.getD 0 0≠48)
def fig (w:Str):Bool:=(decide (1≤w.length)&&decide (w.length≤6))&&w.cps.toList.all fun c=>decide (c∈gb)
def ae (w:Str):Option Int:=if fig w&&lead w then some ((digitsVal w.cps.toList:Nat):Int) else none
def ax:Option Int→D
  | some i=>.int i
  | none=>.none
section
variable {S:Sto} {w:Str}
theorem n7 (h:fig w=true):intText? w=some ((digitsVal w.cps.toList:Nat):Int):=by
  unfold fig at h
  simp only[Bool.and_eq_true,decide_eq_true_eq,List.all_eq_true] at h
  refine intText_digits (fun c hc=>(qg c).mp (h.2 c hc)) (fun e=>?_) (by omega)
  have:w.length=0:=by
    show w.cps.size=0
    rw[←Array.length_toList,e]
    rfl
  omega
theorem n8 (h:PyData.strOk w=true) {c:Nat} (hc:c∈w.cps.toList):PyData.strOk (sg c)=true:=by
  unfold PyData.strOk at h ⊢
  rw[Array.all_eq_true'] at h
  have:=h c (by simpa using hc)
  simpa [sg] using this
theorem l8 (hl0:w.length≤1000000) (h:1≤w.length):w.cps.getD 0 0∈w.cps.toList∧fIx S (.str w) (.int 0)=some (.str (sg (w.cps.getD 0 0))):=by
  have hs:0<w.cps.size:=h
  have e:w.cps.getD 0 0=w.cps[0]:=by simp[Array.getD,hs]
  rw[e]
  refine ⟨by simp,?_⟩
  have hl:0<w.cps.toList.length:=by simpa using hs
  simp[fIx,atI,ixN,sg,hs,hl0]
theorem qh {i:Nat} (hl0:w.length≤1000000) (h:i<w.length):fIx S (.str w) (.int (i:Nat))=some (.str (sg (w.cps.getD i 0))):=by
  have hs:i<w.cps.size:=h
  have e:w.cps.getD i 0=w.cps[i]:=by simp[Array.getD,hs]
  rw[e]
  have hl:i<w.cps.toList.length:=by simpa using hs
  have hx:=dA (xs:=w.cps.toList) hl
  have h2:w.cps.toList[i]?=some w.cps[i]:=by
    rw[List.getElem?_eq_getElem hl]
    simp
  rw[h2] at hx
  simp[fIx,hx,sg,hl0]
theorem qi (ok:PyData.strOk w=true):dEq (.str w) (.str "0")=some (.bool (decide (w="0"))):=by
  have:PyData.strOk "0"=true:=by decide +kernel
  simp[ok,this]
theorem n9 {c:Nat} (ok:PyData.strOk (sg c)=true):dNe (.str (sg c)) (.str "0")=some (.bool (decide (c≠48))):=by
  have h0:PyData.strOk "0"=true:=by decide +kernel
  have e:(sg c=("0":Str))↔c=48:=by
    constructor
    · intro h
      have h2:(sg c).cps=(("0":Str)).cps:=by rw[h]
      have h3:(("0":Str)).cps=#[48]:=by decide +kernel
      rw[h3] at h2
      simpa [sg] using h2
    · rintro rfl
      decide +kernel
  simp[ok,h0,e]
theorem qj (h:1≤w.length):lead w=(decide (w="0")||decide (w.cps.getD 0 0≠48)):=by
  unfold lead
  by_cases h0:w.cps.getD 0 0=48
  · have e:w.length=1↔w="0":=by
      constructor
      · intro h1
        have h2:=lN (x:=w) h1
        rw[h2,h0]
        decide +kernel
      · rintro rfl
        decide +kernel
    simp[h0,e]
  · rw[decide_eq_true h0]
    simp
theorem j3 (hl:w.length≤1000000) (ok:PyData.strOk w=true):bz [.str w] S=.ok (ax (ae w)) S:=by
  have e1:aq S [.str w]=some (.int w.length):=by simp[aq,hl]
  have hi:bj S (.str w)=some (.items (w.cps.toList.map fun c=>D.str ⟨#[c]⟩)):=by simp[bj,hl,bQ]
  apply af
  unfold bz
  apply aW
  unfold iH
  by_cases h1:1≤w.length
  · by_cases h2:w.length≤6
    · have h1':(1:Int)≤w.length:=by omega
      have h2':(w.length:Int)≤6:=by omega
      simp -dsimp [e1,h1',h2',hi]
      refine ac (f:=fun c=>D.str ⟨#[c]⟩) w.cps.toList (fun _=>true) (fun c=>.bool (decide (c∈gb))) rfl (by simpa [Str.length] using hl) (fun c hc=>⟨_,rfl,rfl,fun _=>?_⟩) ?_
      · simp[dIn,gb]
      · rw[a6]
        obtain ⟨hin,hf⟩:=l8 (S:=S) hl h1
        have q1:=n9 (n8 ok hin)
        have ez:=qj h1
        obtain ⟨c0,hc0⟩:∃c0,c0=w.cps.getD 0 0:=⟨_,rfl⟩
        rw[←hc0] at hf q1 ez
        have q2:=qi ok
        have h1'':decide (1≤w.length)=true:=decide_eq_true h1
        have h2'':decide (w.length≤6)=true:=decide_eq_true h2
        cases hA:w.cps.toList.all fun c=>decide (c∈gb) with
        | false=>
          have hn:ae w=none:=by unfold ae fig; rw[hA]; simp
          rw[hn]
          simp -dsimp [hA]
          rfl
        | true=>
          have hfig:fig w=true:=by unfold fig; rw[hA,h1'',h2'']; rfl
          have hint:=n7 hfig
          have hl640:w.length≤640:=by omega
          have hn:ae w=if lead w then some ((digitsVal w.cps.toList:Nat):Int) else none:=by unfold ae; rw[hfig]; rfl
          rw[hn,ez]
          generalize decide (w="0")=b1 at q2 ⊢
          generalize decide (c0≠48)=b2 at q1 ⊢
          have hA:(w.cps.toList.all fun c=>decide (c∈gb))=true:=hA
          cases b1 with
          | true=>
            simp -dsimp [hA,q2,hint,hl640,-ah,-ap]
            rfl
          | false=>
            cases b2 with
            | true=>
              simp -dsimp [hA,q2,hf,q1,hint,hl640,-ah,-ap]
              rfl
            | false=>
              simp -dsimp [hA,q2,hf,q1,-ah,-ap]
              rfl
    · have hn:ae w=none:=by unfold ae fig; rw[decide_eq_false h2]; simp
      have h1':(1:Int)≤w.length:=by omega
      have h2':¬(w.length:Int)≤6:=by omega
      rw[hn]
      simp -dsimp [e1,h1',h2']
      rfl
  · have hn:ae w=none:=by unfold ae fig; rw[decide_eq_false h1]; simp
    have h1':¬(1:Int)≤w.length:=by omega
    rw[hn]
    simp -dsimp [e1,h1']
    rfl
end
end DL
namespace DL
open PySem PySem.Spec PyProof.Rows L2 LamX
open PySem.NumText (digitsVal AllDigits)
section
variable {S:Sto} {w:Str}
theorem ou (ok:PyData.strOk w=true) (p:Nat→Bool):((w.cps.toList.filter p).map fun c=>D.str ⟨#[c]⟩).all (dok 59)=true:=by
  rw[List.all_eq_true]
  intro z hz
  obtain ⟨c,hc,rfl⟩:=List.mem_map.mp hz
  rw[sE]
  exact n8 ok (List.mem_filter.mp hc).1
theorem j4 (ok:PyData.strOk w=true) (p:Nat→Bool):dNe (.lst ((w.cps.toList.filter p).map fun c=>D.str ⟨#[c]⟩)) (.lst [])=some (.bool (!(w.cps.toList.all fun c=>!p c)))∧dEq (.lst ((w.cps.toList.filter p).map fun c=>D.str ⟨#[c]⟩)) (.lst [])=some (.bool (w.cps.toList.all fun c=>!p c)):=by
  have h1:=ou ok p
  have h2:dok 60 (.lst ((w.cps.toList.filter p).map fun c=>D.str ⟨#[c]⟩))=true:=h1
  have h3:peq (.lst ((w.cps.toList.filter p).map fun c=>D.str ⟨#[c]⟩)) (.lst [])=w.cps.toList.all fun c=>!p c:=by
    rw[qO]
    cases h:w.cps.toList.filter p with
    | nil=>
      have:(w.cps.toList.all fun c=>!p c)=true:=by
        rw[List.all_eq_true]
        intro c hc
        have:=(List.filter_eq_nil_iff.mp h) c hc
        simpa using this
      rw[this]
      simp
    | cons a l=>
      have hm:a∈w.cps.toList.filter p:=by rw[h]; exact List.mem_cons_self
      have hm:=List.mem_filter.mp hm
      have:(w.cps.toList.all fun c=>!p c)=false:=by
        rw[List.all_eq_false]
        exact ⟨a,hm.1,by simp[hm.2]⟩
      rw[this]
      simp
  unfold dNe dEq
  rw[h2,h3]
  exact ⟨rfl,rfl⟩
theorem qk (h:1≤w.length):lead w=(decide (w.length=1)||decide (w.cps.getD 0 0≠48)):=rfl
theorem fb (hl:w.length≤1000000) (ok:PyData.strOk w=true):bZ [.str w] S=.ok (ax (ae w)) S:=by
  have e1:aq S [.str w]=some (.int w.length):=by simp[aq,hl]
  have hi:bj S (.str w)=some (.items (w.cps.toList.map fun c=>D.str ⟨#[c]⟩)):=by simp[bj,hl,bQ]
  apply af
  unfold bZ
  apply aW
  unfold gS
  by_cases h1:1≤w.length
  · by_cases h2:w.length≤6
    · have h1':(1:Int)≤w.length:=by omega
      have h2':(w.length:Int)≤6:=by omega
      simp -dsimp [e1,h1',h2',hi,-ap,-ah]
      refine ac (f:=fun c=>D.str ⟨#[c]⟩) w.cps.toList (fun c=>!decide (c∈gb)) (fun c=>.str ⟨#[c]⟩) rfl (by simpa [Str.length] using hl) (fun c hc=>⟨_,rfl,?_,fun _=>rfl⟩) ?_
      · simp[fk,dIn,gb]
      · obtain ⟨q0,_⟩:=j4 ok fun c=>!decide (c∈gb)
        have e2:(w.cps.toList.all fun c=>!(!decide (c∈gb)))=w.cps.toList.all fun c=>decide (c∈gb):=by simp
        rw[e2] at q0
        obtain ⟨hin,hf⟩:=l8 (S:=S) hl h1
        have q1:=n9 (n8 ok hin)
        have ez:=qk h1
        obtain ⟨c0,hc0⟩:∃c0,c0=w.cps.getD 0 0:=⟨_,rfl⟩
        rw[←hc0] at hf q1 ez
        have h1'':decide (1≤w.length)=true:=decide_eq_true h1
        have h2'':decide (w.length≤6)=true:=decide_eq_true h2
        generalize ((w.cps.toList.filter fun c=>!decide (c∈gb)).map fun c=>D.str ⟨#[c]⟩)=ll at q0 ⊢
        cases hA:w.cps.toList.all fun c=>decide (c∈gb) with
        | false=>
          rw[hA] at q0
          have hn:ae w=none:=by unfold ae fig; rw[hA]; simp
          rw[hn]
          simp -dsimp [q0,-ap]
          rfl
        | true=>
          rw[hA] at q0
          have hfig:fig w=true:=by unfold fig; rw[hA,h1'',h2'']; rfl
          have hint:=n7 hfig
          have hl640:w.length≤640:=by omega
          have hn:ae w=if lead w then some ((digitsVal w.cps.toList:Nat):Int) else none:=by unfold ae; rw[hfig]; rfl
          rw[hn,ez]
          have q3:dEq (.int w.length) (.int 1)=some (.bool (decide (w.length=1))):=by
            have:((w.length:Int)=1)↔w.length=1:=by omega
            simp[this]
          generalize decide (w.length=1)=b1 at q3 ⊢
          generalize decide (c0≠48)=b2 at q1 ⊢
          cases b1 with
          | true=>
            simp -dsimp [q0,e1,q3,hint,hl640,-ah,-ap]
            rfl
          | false=>
            cases b2 with
            | true=>
              simp -dsimp [q0,e1,q3,hf,q1,hint,hl640,-ah,-ap]
              rfl
            | false=>
              simp -dsimp [q0,e1,q3,hf,q1,-ah,-ap]
              rfl
    · have hn:ae w=none:=by unfold ae fig; rw[decide_eq_false h2]; simp
      have h1':(1:Int)≤w.length:=by omega
      have h2':¬(w.length:Int)≤6:=by omega
      rw[hn]
      simp -dsimp [e1,h1',h2']
      rfl
  · have hn:ae w=none:=by unfold ae fig; rw[decide_eq_false h1]; simp
    have h1':¬(1:Int)≤w.length:=by omega
    rw[hn]
    simp -dsimp [e1,h1']
    rfl
/-- what a split's parts are -/
def Okt (w:Str):Prop:=w.length≤100000∧PyData.strOk w=true
def c7 (a b:Option Int):Option D:=match a,b with
  | some i,some j=>if i≤60∧1≤j∧j≤9999 then some (.tpn [.int i,.int j]) else none
  | _,_=>none
def fc:List (Option Int)→Option D
  | [a,b]=>c7 a b
  | _=>none
def aY (w:Str):Option D:=fc ((Txt.split w ":").map ae)
def aa:Option D→D
  | some d=>d
  | none=>.none
theorem oA {i:Int} (h:ae w=some i):0≤i:=by
  unfold ae at h
  split at h
  · cases h
    exact Int.natCast_nonneg _
  · cases h
end
end DL
namespace DL
open PySem PySem.Spec PyProof.Rows L2 LamX
section
variable {S:Sto} {w s:Str}
theorem de (a b:Str) (ha:PyData.strOk a=true) (hb:PyData.strOk b=true) (h:a≠b):dEq (.str a) (.str b)=some (.bool false):=by simp[ha,hb,h]
theorem jH (a:Str) (ha:PyData.strOk a=true):dEq (.str a) (.str a)=some (.bool true):=by simp[ha]
theorem ao:PyData.strOk "n"=true∧PyData.strOk "r"=true∧PyData.strOk "v"=true∧PyData.strOk "w"=true∧PyData.strOk ""=true:=by decide +kernel
theorem bN:("n":Str)≠"r"∧("n":Str)≠"v"∧("v":Str)≠"n"∧("v":Str)≠"r"∧("w":Str)≠"n"∧("w":Str)≠"r"∧("w":Str)≠"v"∧("r":Str)≠"n":=by decide +kernel
theorem fK {c:Nat} (h:w.length≤100000):bx S (.str w) [.str (sg c)]=some (.lst ((Txt.split w (sg c)).map .str),S):=by
  show (if (((sg c).length == 0)=false∧w.length≤100000) then some (D.lst ((Txt.split w (sg c)).map D.str),S) else none)=_
  rw[if_pos ⟨rfl,h⟩]
theorem eG {c:Nat}:(Txt.split w (sg c)).length≤w.length+1:=by
  have:=split_weight w (sg c) (Nat.le_refl 1)
  omega
theorem oB {c:Nat}:∀(ys:List Str) {y:Str},y∈ys→∀k∈y.cps.toList,k∈(PySem.Str.join (sg c) ys).cps.toList
  | [],y,h,k,hk=>by cases h
  | [x],y,h,k,hk=>by
    rw[List.mem_singleton.mp h] at hk
    exact hk
  | x::z::ys,y,h,k,hk=>by
    show k∈(x.cps++(sg c).cps++(PySem.Str.join (sg c) (z::ys)).cps).toList
    rw[Array.toList_append,List.mem_append]
    rcases List.mem_cons.mp h with rfl|h
    · left
      rw[Array.toList_append,List.mem_append]
      exact .inl hk
    · exact .inr (oB (z::ys) h k hk)
theorem eI {c:Nat} (h:Okt w) {y:Str} (hy:y∈Txt.split w (sg c)):Okt y:=by
  refine ⟨Nat.le_trans (part_short hy) h.1,?_⟩
  have hc:=split_closes w c
  rw[Bool.and_eq_true] at hc
  have he:PySem.Str.join (sg c) (Txt.split w (sg c))=w:=by simpa [sg] using hc.1
  have h2:=h.2
  unfold PyData.strOk at h2 ⊢
  rw[Array.all_eq_true'] at h2 ⊢
  intro k hk
  have:=oB (c:=c) (Txt.split w (sg c)) hy k (by simpa using hk)
  rw[he] at this
  exact h2 k (by simpa using this)
theorem nJ (a b:Option Int) (ha:∀i,a=some i→0≤i):bH [.tpn [ax a,ax b]] S=.ok (.bool (c7 a b).isSome) S:=by
  have e0:∀S',fIx S' (.tpn [ax a,ax b]) (.int 0)=some (ax a):=fun _=>rfl
  have e1:∀S',fIx S' (.tpn [ax a,ax b]) (.int 1)=some (ax b):=fun _=>rfl
  have t:∀c:Option Int,∃ty,dI S (ax c)=some ty:=fun c=>by cases c<;>exact ⟨_,rfl⟩
  obtain ⟨ta,hta⟩:=t a
  obtain ⟨tb,htb⟩:=t b
  have n1:=nI 0 60 hta
  have n2:=nI 1 9999 htb
  apply af
  unfold bH
  apply aW
  unfold gx
  simp -dsimp [bV,e0,e1,n1,n2]
  cases a with
  | none=>simp[ax,fJ,c7]
  | some i=>
    have h0:=ha i rfl
    cases b with
    | none=>
      simp[ax,fJ,c7]
      split<;>simp_all
    | some j=>
      simp[ax,fJ,c7,h0]
      by_cases h1:i≤60<;>by_cases h2:1≤j<;>by_cases h3:j≤9999<;>simp[h1,h2,h3]
end
end DL
namespace DL
open PySem PySem.Spec PyProof.Rows L2 LamX
def iQ (w:Str):Bool:=decide (w≠"")&&w.cps.toList.all fun c=>decide (c∈cF)
def gd (rs:List (Option D)):Option D:=if rs.all Option.isSome then some (.tpn (rs.map aa)) else none
def eY (w:Str):Option D:=gd ((Txt.split w ",").map aY)
def cN (s w:Str):Option D:=if s="n" then (ae w).map .int else if s="r" then aY w else if s="v" then eY w else if iQ w then some (.str w) else none
section
variable {S:Sto} {w s:Str} {n:Nat}
theorem oC (a:Option Int):ax a=aa (a.map .int):=by cases a<;>rfl
theorem ow {a b:Option Int}:dok 58 (aa (c7 a b))=true:=by
  unfold c7
  split
  · split
    · simp[aa]
    · rfl
  · rfl
theorem oy {a b:Option Int} {d:D} (h:c7 a b=some d):d=.tpn [ax a,ax b]:=by
  unfold c7 at h
  split at h
  · split at h
    · cases h; rfl
    · cases h
  · cases h
theorem ql {τ:Type} {ys:List τ} (h:ys.length=2):∃a b,ys=[a,b]:=by
  match ys,h with
  | [a,b],_=>exact ⟨a,b,rfl⟩
theorem j5 {τ:Type} {f:τ→Option Int} {ys:List τ} (h:ys.length≠2):fc (ys.map f)=none:=by
  match ys,h with
  | [],_=>rfl
  | [a],_=>rfl
  | [a,b],h=>exact absurd rfl h
  | a::b::c::l,_=>rfl
theorem o0:dok 58 (aa (aY w))=true:=by
  unfold aY fc
  split
  · exact ow
  · rfl
theorem j6 (h:w.length≤100000):bx S (.str w) [.str ":"]=some (.lst ((Txt.split w ":").map .str),S):=fK (c:=58) h
theorem j7 (h:w.length≤100000):bx S (.str w) [.str ","]=some (.lst ((Txt.split w ",").map .str),S):=fK (c:=44) h
theorem qm (h:Okt w) {y:Str} (hy:y∈Txt.split w ":"):Okt y:=eI (c:=58) h hy
theorem qo (h:Okt w) {y:Str} (hy:y∈Txt.split w ","):Okt y:=eI (c:=44) h hy
theorem oD:(Txt.split w ":").length≤w.length+1:=eG (c:=58)
theorem oE:(Txt.split w ",").length≤w.length+1:=eG (c:=44)
theorem fQ (ys:List Str):bj S (.lst (ys.map .str))=some (.items (ys.map D.str)):=rfl
theorem part_n (h:Okt w):a5 (n+1) [.str w,.str "n"] S=.ok (ax (ae w)) S:=by
  have e1:=j3 (S:=S) (w:=w) (by have:=h.1; omega) h.2
  have q1:=jH "n" ao.1
  apply af
  unfold a5
  apply aW
  simp -dsimp [q1,e1,-ah]
theorem qp (h:Okt w):a5 (n+1) [.str w,.str "r"] S=.ok (aa (aY w)) S:=by
  have hl:=h.1
  have q1:=de "r" "n" ao.2.1 ao.1 bN.2.2.2.2.2.2.2
  have q2:=jH "r" ao.2.1
  have hsp:=fun S=>j6 (S:=S) h.1
  have hfew:=oD (w:=w)
  obtain ⟨ys,hys⟩:∃ys,ys=Txt.split w ":":=⟨_,rfl⟩
  have hok:∀y∈ys,Okt y:=fun y hy=>qm h (by rw[←hys]; exact hy)
  rw[←hys] at hsp hfew
  have hW:aY w=fc (ys.map ae):=by unfold aY; rw[←hys]
  rw[hW]
  have isb:∀S,az S (.str w)=true:=fun _=>rfl
  apply af
  unfold a5
  apply aW
  simp -dsimp [q1,q2,hsp,isb,fQ,-ah]
  refine ac (f:=D.str) ys (fun _=>true) (fun y=>ax (ae y)) rfl (by omega) (fun y hy=>⟨_,rfl,rfl,fun _=>?_⟩) ?_
  · have e1:=j3 (S:=S) (w:=y) (by have:=(hok y hy).1; omega) (hok y hy).2
    simp[e1]
  · rw[a6]
    by_cases h2:ys.length=2
    · obtain ⟨a,b,rfl⟩:=ql h2
      have hr:=nJ (S:=S) (ae a) (ae b) fun i hi=>oA hi
      have ft:eS S [.lst [ax (ae a),ax (ae b)]]=some (.tpn [ax (ae a),ax (ae b)]):=rfl
      have q3:dEq (.int 2) (.int 2)=some (.bool true):=by simp
      have hl2:aq S [.lst [ax (ae a),ax (ae b)]]=some (.int 2):=by simp[aq]
      have hLL:fc ([a,b].map ae)=c7 (ae a) (ae b):=rfl
      rw[hLL]
      rw[show ([a,b].map fun y=>ax (ae y))=[ax (ae a),ax (ae b)] from rfl]
      cases hR:c7 (ae a) (ae b) with
      | none=>
        rw[hR] at hr
        have hr:bH [.tpn [ax (ae a),ax (ae b)]] S=.ok (.bool false) S:=hr
        simp -dsimp [hl2,q3,ft,hr,-ah]
        rfl
      | some d=>
        have hv:=oy hR
        rw[hR] at hr
        have hr:bH [.tpn [ax (ae a),ax (ae b)]] S=.ok (.bool true) S:=hr
        simp -dsimp [hl2,q3,ft,hr,-ah]
        rw[hv]
        rfl
    · have hl2:aq S [.lst (ys.map fun y=>ax (ae y))]=some (.int ys.length):=by simp[aq]
      have q3:dEq (.int ys.length) (.int 2)=some (.bool false):=by
        have:¬((ys.length:Int)=2):=by omega
        simp[this]
      rw[j5 h2]
      simp -dsimp [hl2,q3,-ah]
      rfl
end
end DL
namespace DL
open PySem PySem.Spec PyProof.Rows L2 LamX
section
variable {S:Sto} {w s:Str} {n:Nat}
theorem gy {d:D} (h:aY w=some d):∃i j:Int,d=.tpn [.int i,.int j]:=by
  unfold aY fc at h
  split at h
  · unfold c7 at h
    split at h
    · split at h
      · cases h; exact ⟨_,_,rfl⟩
      · cases h
    · cases h
  · cases h
theorem oF (ys:List Str):dIn S .none (.lst (ys.map fun y=>aa (aY y)))=some (!(ys.map aY).all Option.isSome):=by
  have h1:dok 60 (.lst (ys.map fun y=>aa (aY y)))=true:=by
    show (ys.map fun y=>aa (aY y)).all (dok 59)=true
    rw[List.all_eq_true]
    intro z hz
    obtain ⟨y,_,rfl⟩:=List.mem_map.mp hz
    cases h:aY y with
    | none=>rfl
    | some d=>
      obtain ⟨i,j,rfl⟩:=gy h
      rfl
  have h2:((ys.map fun y=>aa (aY y)).any fun z=>peq z .none)=!(ys.map aY).all Option.isSome:=by
    rw[List.any_map,List.all_map]
    induction ys with
    | nil=>rfl
    | cons y ys ih=>
      have ih:=ih (by
        have:(D.lst ((y::ys).map fun y=>aa (aY y)))=.lst (aa (aY y)::ys.map fun y=>aa (aY y)):=rfl
        rw[this] at h1
        have h1:(dok 59 (aa (aY y))&&(ys.map fun y=>aa (aY y)).all (dok 59))=true:=h1
        rw[Bool.and_eq_true] at h1
        exact h1.2)
      rw[List.any_cons,List.all_cons,ih]
      cases h:aY y with
      | none=>
        have:((fun z=>peq z D.none)∘fun y=>aa (aY y)) y=true:=by
          show peq (aa (aY y)) .none=true
          rw[h]
          exact qP
        rw[this]
        simp[h]
      | some d=>
        obtain ⟨i,j,rfl⟩:=gy h
        have:((fun z=>peq z D.none)∘fun y=>aa (aY y)) y=false:=by
          show peq (aa (aY y)) .none=false
          rw[h]
          rfl
        rw[this]
        simp[h]
  show (if dok 60 .none&&dok 60 (.lst (ys.map fun y=>aa (aY y))) then some ((ys.map fun y=>aa (aY y)).any fun z=>peq z .none) else none)=_
  rw[h1,h2]
  rfl
theorem part_v (h:Okt w):a5 (n+2) [.str w,.str "v"] S=.ok (aa (eY w)) S:=by
  have hl:=h.1
  have q1:=de "v" "n" ao.2.2.1 ao.1 bN.2.2.1
  have q2:=de "v" "r" ao.2.2.1 ao.2.1 bN.2.2.2.1
  have q3:=jH "v" ao.2.2.1
  have hsp:=fun S=>j7 (S:=S) h.1
  have hfew:=oE (w:=w)
  obtain ⟨ys,hys⟩:∃ys,ys=Txt.split w ",":=⟨_,rfl⟩
  have hok:∀y∈ys,Okt y:=fun y hy=>qo h (by rw[←hys]; exact hy)
  rw[←hys] at hsp hfew
  have hW:eY w=gd (ys.map aY):=by unfold eY; rw[←hys]
  rw[hW]
  have isb:∀S,az S (.str w)=true:=fun _=>rfl
  apply af
  unfold a5
  apply aW
  simp -dsimp [q1,q2,q3,hsp,isb,fQ,-ah]
  refine ac (f:=D.str) ys (fun _=>true) (fun y=>aa (aY y)) rfl (by omega) (fun y hy=>⟨_,rfl,rfl,fun _=>?_⟩) ?_
  · have e1:=qp (S:=S) (n:=n) (hok y hy)
    simp[e1]
  · rw[a6]
    have hin:=oF (S:=S) ys
    have ft:eS S [.lst (ys.map fun y=>aa (aY y))]=some (.tpn (ys.map fun y=>aa (aY y))):=rfl
    have hT:gd (ys.map aY)=if (ys.map aY).all Option.isSome then some (.tpn (ys.map fun y=>aa (aY y))) else none:=by
      unfold gd
      rw[List.map_map]
      rfl
    rw[hT]
    generalize (ys.map aY).all Option.isSome=b at hin ⊢
    generalize (ys.map fun y=>aa (aY y))=L at hin ft ⊢
    cases b with
    | true=>
      simp -dsimp [fIn,hin,ft]
      rfl
    | false=>
      simp -dsimp [fIn,hin,ft]
      rfl
theorem part_w (h:Okt w):a5 (n+1) [.str w,.str "w"] S=.ok (if iQ w then .str w else .none) S:=by
  have hl:=h.1
  have ok:=h.2
  have q1:=de "w" "n" ao.2.2.2.1 ao.1 bN.2.2.2.2.1
  have q2:=de "w" "r" ao.2.2.2.1 ao.2.1 bN.2.2.2.2.2.1
  have q3:=de "w" "v" ao.2.2.2.1 ao.2.2.1 bN.2.2.2.2.2.2.1
  have hi:bj S (.str w)=some (.items (w.cps.toList.map fun c=>D.str ⟨#[c]⟩)):=by simp[bj,show w.length≤1000000 by omega,bQ]
  have q4:dNe (.str w) (.str "")=some (.bool (decide (w≠""))):=by simp[ok,ao.2.2.2.2]
  have hcl:w.cps.toList.length≤1000000:=by
    have:w.cps.toList.length=w.length:=by simp[Str.length]
    omega
  have hp:a4 [.str w,.str "w"] S=.ok (.bool (iQ w)) S:=by
    apply af
    unfold a4
    apply aW
    unfold dB
    unfold iQ
    cases hb:decide (w≠"") with
    | false=>
      rw[hb] at q4
      simp -dsimp [q1,q2,q3,bV,q4,-ah,-ap]
    | true=>
      rw[hb] at q4
      simp -dsimp [q1,q2,q3,bV,q4,hi,-ah,-ap]
      refine ac (f:=fun c=>D.str ⟨#[c]⟩) w.cps.toList (fun _=>true) (fun c=>.bool (decide (c∈cF))) rfl hcl (fun c hc=>⟨_,rfl,rfl,fun _=>?_⟩) ?_
      · simp[dIn,cF]
      · rw[a6]
        simp -dsimp
  apply af
  unfold a5
  apply aW
  simp -dsimp [q1,q2,q3,hp,-ah]
  cases iQ w<;>simp
theorem sT (h:Okt w) (hs:s="n"∨s="r"∨s="v"∨s="w"):a5 2 [.str w,.str s] S=.ok (aa (cN s w)) S:=by
  unfold cN
  rcases hs with rfl|rfl|rfl|rfl
  · rw[part_n h,oC]; rfl
  · rw[qp h,if_neg bN.2.2.2.2.2.2.2]; rfl
  · rw[part_v h,if_neg bN.2.2.1,if_neg bN.2.2.2.1]; rfl
  · rw[part_w h,if_neg bN.2.2.2.2.1,if_neg bN.2.2.2.2.2.1,if_neg bN.2.2.2.2.2.2.1]
    cases iQ w<;>rfl
end
end DL
namespace DL
open PySem PySem.Spec PyProof.Rows L2 LamX
abbrev shTbl:List (Str × Str):=[("fly","rw"),("sell","wvw"),("back","n"),("away","n"),("late","rn"),("off","r"),("kind","ww"),("turn","n"),("mend","n")]
abbrev dTbl:List (Str × Int):=[("fly",2),("sell",3),("back",1),("away",1),("late",2),("off",1),("kind",2),("turn",1),("mend",1)]
abbrev sTbl:List (Str × Str):=[("fly","rw"),("sell","wvw"),("back","n"),("away","n"),("late","rn"),("off","r"),("kind","ww"),("turn","n")]
def sgs (z:Str):List Str:=z.cps.toList.map sg
def aV (z:Str) (rest:List Str):List (Option D):=(rest.zip (sgs z)).map fun p=>cN p.2 p.1
def dM (h:Str) (rest:List Str):Option D:=match shTbl.lookup h with
  | none=>none
  | some z=>if rest.length=z.length∧(aV z rest).all Option.isSome=true then some (.tup (.str h::(aV z rest).map aa)) else none
def oG:List Str→Option D
  | h::rest=>dM h rest
  | []=>none
def bX (row:Str):Option D:=oG (Txt.split row " ")
section
variable {S:Sto} {w s:Str} {n:Nat}
theorem bK {τ:Type} {h:Str} {z:τ}:∀ {l:List (Str × τ)},l.lookup h=some z→(h,z)∈l
  | [],e=>by cases e
  | (k,v)::l,e=>by
    rw[List.lookup_cons] at e
    by_cases hk:h=k
    · subst hk
      simp at e
      rw[e]
      exact List.mem_cons_self
    · have:(h == k)=false:=by simpa using hk
      rw[this] at e
      exact List.mem_cons_of_mem _ (bK e)
theorem iN {τ:Type} {h:Str}:∀ {l:List (Str × τ)},l.lookup h=none→(l.map (·.1)).contains h=false
  | [],e=>rfl
  | (k,v)::l,e=>by
    rw[List.lookup_cons] at e
    by_cases hk:h=k
    · subst hk
      simp at e
    · have h1:(h == k)=false:=by simpa using hk
      rw[h1] at e
      rw[List.map_cons,List.contains_cons,h1,Bool.false_or]
      exact iN e
theorem fR:∀p∈shTbl,dTbl.lookup p.1=some ((p.2.length:Nat):Int)∧(dTbl.map (·.1)).contains p.1=true∧(match sTbl.lookup p.1 with|some y=>y|none=>"n")=p.2∧(∀q∈sgs p.2,q="n"∨q="r"∨q="v"∨q="w")∧p.2.length≤3∧PyData.strOk p.1=true:=by decide +kernel
theorem qq:dTbl.map (·.1)=shTbl.map (·.1):=by decide +kernel
theorem sU {h z:Str} (e:shTbl.lookup h=some z):eU sTbl h (.str "n")=.str z:=by
  have:=(fR _ (bK e)).2.2.1
  unfold eU
  cases hl:sTbl.lookup h with
  | none=>rw[hl] at this; exact congrArg D.str this
  | some y=>rw[hl] at this; exact congrArg D.str this
theorem j8 (z:Str):bQ z=(sgs z).map .str:=by
  unfold bQ sgs
  rw[List.map_map]
  rfl
theorem jI {h z:Str} (e:shTbl.lookup h=some z):bY [.str h] S=.ok (.str z) S:=by
  have:=sU e
  apply af
  unfold bY
  apply aW
  unfold jB
  simp -dsimp [this]
theorem l9 (os:List (Option D)) (h:∀o∈os,∀d,o=some d→dok 59 d=true∧peq d .none=false):dIn S .none (.lst (os.map aa))=some (!os.all Option.isSome):=by
  have h1:dok 60 (.lst (os.map aa))=true:=by
    show (os.map aa).all (dok 59)=true
    rw[List.all_eq_true]
    intro z hz
    obtain ⟨o,ho,rfl⟩:=List.mem_map.mp hz
    cases o with
    | none=>rfl
    | some d=>exact (h _ ho d rfl).1
  have h2:((os.map aa).any fun z=>peq z .none)=!os.all Option.isSome:=by
    rw[List.any_map]
    clear h1
    induction os with
    | nil=>rfl
    | cons o os ih=>
      rw[List.any_cons,List.all_cons,ih fun o ho=>h o (List.mem_cons_of_mem _ ho)]
      cases o with
      | none=>
        have:((fun z=>peq z D.none)∘aa) none=true:=qP
        rw[this]
        simp
      | some d=>
        have:((fun z=>peq z D.none)∘aa) (some d)=false:=(h _ List.mem_cons_self d rfl).2
        rw[this]
        simp
  show (if dok 60 .none&&dok 60 (.lst (os.map aa)) then some ((os.map aa).any fun z=>peq z .none) else none)=_
  rw[h1,h2]
  rfl
theorem mB {d:D} (h:Okt w) (e:cN s w=some d):dok 59 d=true∧peq d .none=false:=by
  unfold cN at e
  split at e
  · cases hn:ae w with
    | none=>rw[hn] at e; cases e
    | some i=>rw[hn] at e; cases e; exact ⟨rfl,rfl⟩
  · split at e
    · obtain ⟨i,j,rfl⟩:=gy e
      exact ⟨rfl,rfl⟩
    · split at e
      · unfold eY gd at e
        split at e
        · rename_i ha
          cases e
          refine ⟨?_,rfl⟩
          show (((Txt.split w ",").map aY).map aa).all (dok 58)=true
          rw[List.all_eq_true]
          intro z hz
          obtain ⟨o,ho,rfl⟩:=List.mem_map.mp hz
          obtain ⟨y,hy,rfl⟩:=List.mem_map.mp ho
          exact o0
        · cases e
      · split at e
        · cases e
          exact ⟨h.2,rfl⟩
        · cases e
end
end DL
namespace DL
open PySem PySem.Spec PyProof.Rows L2 LamX
section
variable {S:Sto} {w s:Str} {n:Nat}
theorem j9 (h:w.length≤100000):bx S (.str w) [.str " "]=some (.lst ((Txt.split w " ").map .str),S):=fK (c:=32) h
theorem qr (h:Okt w) {y:Str} (hy:y∈Txt.split w " "):Okt y:=eI (c:=32) h hy
theorem oH:(Txt.split w " ").length≤w.length+1:=eG (c:=32)
theorem jJ (w:Str) (c:Nat):Txt.split w (sg c)≠[]:=by
  unfold Txt.split
  split
  · simp
  · split
    · simp
    · intro h
      have:=congrArg List.length h
      rw[length_partsBetween] at this
      simp at this
theorem cU (z:Str):(sgs z).length=z.length:=by
  unfold sgs
  simp[Str.length]
theorem jK {tbl:List (Str × Int)} {hd:Str} {b:Bool} (h:(tbl.map (·.1)).contains hd=b) (env:En) (S:Sto) (e:env[1]?=some (some (.str hd))):iE true tbl (eV 1) env S=.ok (.bool (!b)) S:=by
  rw[dw]
  have:eV 1 env S=.ok (.str hd) S:=by simp[e]
  rw[this,←h]
  rfl
theorem nK {tbl:List (Str × Int)} {hd:Str} {i:Int} (h:tbl.lookup hd=some i) (env:En) (S:Sto) (e:env[1]?=some (some (.str hd))):i7 tbl (eV 1) env S=.ok (.int i) S:=by
  rw[fG]
  have:eV 1 env S=.ok (.str hd) S:=by simp[e]
  rw[this]
  show ofO S ((tbl.lookup hd).map D.int)=_
  rw[h]
  rfl
theorem sV (h:Okt w):eE [.str w] S=.ok (aa (bX w)) S:=by
  have hsp:=fun S=>j9 (S:=S) h.1
  have hfew:=oH (w:=w)
  have hne:Txt.split w " "≠[]:=jJ w 32
  have hl:=h.1
  have hW:bX w=oG (Txt.split w " "):=rfl
  have hok:∀y∈Txt.split w " ",Okt y:=fun y hy=>qr h hy
  rw[hW]
  obtain ⟨hd,rest,hys⟩:∃hd rest,Txt.split w " "=hd::rest:=by
    cases e:Txt.split w " " with
    | nil=>exact absurd e hne
    | cons a l=>exact ⟨a,l,rfl⟩
  rw[hys] at hsp hfew hok ⊢
  have hR:oG (hd::rest)=dM hd rest:=rfl
  rw[hR]
  have hrl:rest.length≤100000:=by
    rw[List.length_cons] at hfew
    omega
  have isb:∀S,az S (.str w)=true:=fun _=>rfl
  have e2:aq S [.lst (rest.map .str)]=some (.int rest.length):=by simp[aq,show rest.length≤1000000 by omega]
  apply af
  unfold eE
  apply aW
  unfold jy
  cases hL:shTbl.lookup hd with
  | none=>
    have hc:=iN hL
    rw[←qq] at hc
    have hk:=jK hc
    have hE:dM hd rest=none:=by unfold dM; rw[hL]
    rw[hE]
    simp -dsimp [hsp,isb,hk,-dw]
    rfl
  | some z=>
    have hT:=fR _ (bK hL)
    have hsh:=jI (S:=S) hL
    have q1:dNe (.int rest.length) (.int (z.length:Nat))=some (.bool (!decide (rest.length=z.length))):=by
      have:((rest.length:Int)=((z.length:Nat):Int))↔rest.length=z.length:=by omega
      simp[this]
    have hc:(dTbl.map (·.1)).contains hd=true:=hT.2.1
    have hlk:dTbl.lookup hd=some ((z.length:Nat):Int):=hT.1
    have hk:=jK hc
    have hx:=nK hlk
    by_cases hz:rest.length=z.length
    · rw[decide_eq_true hz] at q1
      have hE:dM hd rest=if (aV z rest).all Option.isSome=true then some (D.tup (.str hd::(aV z rest).map aa)) else none:=by
        unfold dM
        rw[hL]
        simp[hz]
      rw[hE]
      have hzip:jv [.lst (rest.map .str),.str z]=some ((rest.zip (sgs z)).map fun p=>D.tup [.str p.1,.str p.2]):=by
        show some (cB (rest.map .str) (bQ z))=_
        rw[j8,nv]
      have hzl:(rest.zip (sgs z)).length=z.length:=by
        rw[List.length_zip,cU]
        omega
      have hsh2:∀S,bY [.str hd] S=.ok (.str z) S:=fun S=>jI hL
      simp -dsimp [hsp,isb,hk,hx,e2,q1,hsh2,hzip,-ap,-dw,-fG]
      refine ac (f:=fun p:Str × Str=>D.tup [.str p.1,.str p.2]) (rest.zip (sgs z)) (fun _=>true) (fun p=>aa (cN p.2 p.1)) rfl (by have:=hT.2.2.2.2.1; omega) (fun p hp=>⟨_,rfl,rfl,fun _=>?_⟩) ?_
      · have hm:=List.of_mem_zip (a:=p.1) (b:=p.2) hp
        have e1:=sT (S:=S) (hok p.1 (List.mem_cons_of_mem _ hm.1)) (hT.2.2.2.1 p.2 hm.2)
        simp[e1]
      · rw[a6]
        have hP:((rest.zip (sgs z)).map fun p=>aa (cN p.2 p.1))=(aV z rest).map aa:=by
          unfold aV
          rw[List.map_map]
          rfl
        rw[hP]
        have hin:=l9 (S:=S) (aV z rest) fun o ho d hd2=>by
          unfold aV at ho
          obtain ⟨p,hp,rfl⟩:=List.mem_map.mp ho
          have hm:=List.of_mem_zip (a:=p.1) (b:=p.2) hp
          exact mB (hok p.1 (List.mem_cons_of_mem _ hm.1)) hd2
        have ft:eS S [.lst ((aV z rest).map aa)]=some (.tpn ((aV z rest).map aa)):=rfl
        have hpl:((aV z rest).map aa).length≤3:=by
          unfold aV
          rw[List.length_map,List.length_map,hzl]
          exact hT.2.2.2.2.1
        have had:bO (.tup [.str hd]) (.tpn ((aV z rest).map aa))=some (.tup (.str hd::(aV z rest).map aa)):=by
          show (if [D.str hd].length+((aV z rest).map aa).length≤1000000 then some (if [D.str hd]=[] then D.tpn ((aV z rest).map aa) else .tup ([D.str hd]++(aV z rest).map aa)) else none)=_
          rw[if_pos (by show 1+_≤_; omega),if_neg (by simp)]
          rfl
        generalize (aV z rest).all Option.isSome=b at hin ⊢
        generalize (aV z rest).map aa=L at hin ft had ⊢
        cases b with
        | true=>
          simp -dsimp [fIn,hin,ft,had]
          rfl
        | false=>
          simp -dsimp [fIn,hin,ft]
          rfl
    · rw[decide_eq_false hz] at q1
      have hE:dM hd rest=none:=by
        unfold dM
        rw[hL]
        simp[hz]
      rw[hE]
      simp -dsimp [hsp,isb,hk,hx,e2,q1,hz,-ap,-dw,-fG]
      rfl
end
end DL
namespace DL
open PySem PySem.Spec PyProof.Rows L2 LamX
def bu (t:Str):List Str:=if t="" then [] else Txt.split t "\n"
def fL (y:Str):D:=aa (bX y)
def fe (rows:List Str) (k:Nat):Prop:=∃pre y post,rows=pre++y::post∧k=pre.length∧(∀p∈pre,(bX p).isSome=true)∧bX y=none
structure RdI (S:Sto) (t:Str) (rows:List Str) (pre:List (Str × Nat)) (env:En) (S':Sto):Prop where
  ex:∃e2 e3 e4,env=[some (.str t),some (.loc S.length),e2,e3,e4]∧S'=S++[.lst ((pre.map (·.1)).map fL)]∧∀p∈pre.map (·.1),(bX p).isSome=true
section
variable {S:Sto} {t:Str} {n:Nat}
theorem mC (h:t.length≤100000):bx S (.str t) [.str "\n"]=some (.lst ((Txt.split t "\n").map .str),S):=fK (c:=10) h
theorem nl_ok (h:Okt t) {y:Str} (hy:y∈Txt.split t "\n"):Okt y:=eI (c:=10) h hy
theorem nl_few:(Txt.split t "\n").length≤t.length+1:=eG (c:=10)
theorem lD (h:Okt t) {y:Str} (hy:y∈bu t):Okt y:=by
  unfold bu at hy
  split at hy
  · cases hy
  · exact nl_ok h hy
theorem jL:(bu t).length≤t.length+1:=by
  unfold bu
  split
  · exact Nat.zero_le _
  · exact nl_few
theorem sW (h:Okt t):Res.wp (eX [.str t] S) (fun v S'=>v=.loc S.length∧S'=S++[.lst ((bu t).map fL)]∧∀y∈bu t,(bX y).isSome=true)
    (fun e S'=>∃k T,fe (bu t) k∧e=⟨"BadText",[("row",.int (k:Nat))]⟩∧S'=S++T):=by
  have hfew:=jL (t:=t)
  have hl:=h.1
  have q1:dNe (.str t) (.str "")=some (.bool (decide (t≠""))):=by simp[h.2,ao.2.2.2.2]
  have hsp:=fun S=>mC (S:=S) h.1
  have isb:∀S,az S (.str t)=true:=fun _=>rfl
  by_cases ht:t=""
  · have hd0:decide (t≠"")=false:=by simp[ht]
    rw[hd0] at q1
    have hr:bu t=[]:=by unfold bu; rw[if_pos ht]
    rw[hr]
    unfold eX
    apply aW
    unfold nB
    simp -dsimp [q1,-ap]
    simp[bp,cp]
  · have hd0:decide (t≠"")=true:=by simp[ht]
    rw[hd0] at q1
    have hr:bu t=Txt.split t "\n":=by unfold bu; rw[if_neg ht]
    rw[←hr] at hsp
    have hok:=fun y (hy:y∈bu t)=>lD h hy
    obtain ⟨rows,hrows⟩:∃rows,rows=bu t:=⟨_,rfl⟩
    rw[←hrows] at hsp hfew hok ⊢
    unfold eX
    apply aW
    unfold nB
    simp -dsimp [q1,isb,hsp,lm,-ap]
    refine gu (f:=fun p:Str × Nat=>D.tup [.int (p.2:Nat),.str p.1]) rows.zipIdx (fun pre _=>RdI S t rows pre) rfl ⟨_,_,_,rfl,rfl,fun p hp=>by cases hp⟩ ?_ ?_
    · rintro pre x rest env S' hpre ⟨e2,e3,e4,rfl,rfl,hg⟩
      obtain ⟨hx2,hx1⟩:=ot hpre
      have hm:x.1∈rows:=by rw[hx1]; simp
      have e1:=fun S'=>sV (S:=S') (hok x.1 hm)
      refine ⟨_,rfl,?_⟩
      cases hD:bX x.1 with
      | none=>
        rw[hD] at e1
        have isn:dIsN .none .none=some (.bool true):=rfl
        simp -dsimp [e1,aa,isn]
        exact ⟨pre.length,⟨pre.map (·.1),x.1,rest.map (·.1),hx1,by simp,hg,hD⟩,by rw[hx2]⟩
      | some d=>
        rw[hD] at e1
        have hd2:∃xs,d=.tup xs:=by
          have:bX x.1=some d:=hD
          unfold bX oG at this
          split at this
          · unfold dM at this
            split at this
            · cases this
            · split at this
              · cases this; exact ⟨_,rfl⟩
              · cases this
          · cases this
        obtain ⟨xs,rfl⟩:=hd2
        have hpl:((pre.map (·.1)).map fL).length<1000000:=by
          have:=congrArg List.length hx1
          simp at this ⊢
          omega
        have hlb:∀L:List D,cA (S++[O.lst L]) (.loc S.length)=true:=fun L=>by simp[cA]
        have hap:∀L:List D,L.length<1000000→bq (S++[O.lst L]) (.loc S.length) [.tup xs]=some (.none,S++[O.lst (L++[.tup xs])]):=fun L hL=>by
          unfold bq
          have g:(S++[O.lst L])[S.length]?=some (.lst L):=by simp
          simp only[g]
          rw[if_pos hL]
          simp
        have happ:=hap _ hpl
        rw[List.map_map] at happ
        have hisn:isN (.tup xs)=false:=rfl
        simp -dsimp [e1,aa,hisn,hlb,happ]
        refine ⟨_,_,_,rfl,?_,?_⟩
        · simp[fL,hD,aa]
        · intro p hp
          rw[List.map_append,List.mem_append] at hp
          rcases hp with hp|hp
          · exact hg p hp
          · have:p=x.1:=by simpa using hp
            rw[this,hD]
            rfl
    · rintro env S' ⟨e2,e3,e4,rfl,rfl,hg⟩
      have hz:rows.zipIdx.map (·.1)=rows:=List.zipIdx_map_fst 0 rows
      rw[hz] at hg ⊢
      simp -dsimp
      exact hg
end
end DL
namespace DL
open PySem PySem.Spec PyProof.Rows L2 LamX
section
variable {S:Sto} {w s:Str} {n:Nat}
theorem opt_in (a b:Option Int):dIn S .none (.lst [ax a,ax b])=some (!(a.isSome&&b.isSome)):=by
  cases a<;>cases b<;>rfl
theorem iO (h:Okt w):cJ [.str w] S=.ok (aa (aY w)) S:=by
  have hl:=h.1
  have hsp:=fun S=>j6 (S:=S) h.1
  have hfew:=oD (w:=w)
  obtain ⟨ys,hys⟩:∃ys,ys=Txt.split w ":":=⟨_,rfl⟩
  have hok:∀y∈ys,Okt y:=fun y hy=>qm h (by rw[←hys]; exact hy)
  rw[←hys] at hsp hfew
  have hW:aY w=fc (ys.map ae):=by unfold aY; rw[←hys]
  rw[hW]
  have isb:∀S,az S (.str w)=true:=fun _=>rfl
  apply af
  unfold cJ
  apply aW
  unfold jF
  simp -dsimp [hsp,isb,fQ,-ap]
  refine ac (f:=D.str) ys (fun _=>true) (fun y=>ax (ae y)) rfl (by omega) (fun y hy=>⟨_,rfl,rfl,fun _=>?_⟩) ?_
  · have e1:=fb (S:=S) (w:=y) (by have:=(hok y hy).1; omega) (hok y hy).2
    simp[e1]
  · rw[a6]
    by_cases h2:ys.length=2
    · obtain ⟨a,b,rfl⟩:=ql h2
      have ft:eS S [.lst [ax (ae a),ax (ae b)]]=some (.tpn [ax (ae a),ax (ae b)]):=rfl
      have q3:dNe (.int 2) (.int 2)=some (.bool false):=by simp
      have hl2:aq S [.lst [ax (ae a),ax (ae b)]]=some (.int 2):=by simp[aq]
      have hin:=opt_in (S:=S) (ae a) (ae b)
      have hLL:fc ([a,b].map ae)=c7 (ae a) (ae b):=rfl
      rw[hLL]
      rw[show ([a,b].map fun y=>ax (ae y))=[ax (ae a),ax (ae b)] from rfl]
      have x0:fIx S (.lst [ax (ae a),ax (ae b)]) (.int 0)=some (ax (ae a)):=rfl
      have x1:fIx S (.lst [ax (ae a),ax (ae b)]) (.int 1)=some (ax (ae b)):=rfl
      have hp:=fun i (hi:ae a=some i)=>oA hi
      generalize ae a=A at *
      generalize ae b=B at *
      cases A with
      | none=>
        simp -dsimp [hl2,q3,fIn,hin,-ap]
        rfl
      | some i=>
        cases B with
        | none=>
          simp -dsimp [hl2,q3,fIn,hin,-ap]
          rfl
        | some j=>
          have hin:dIn S .none (.lst [ax (some i),ax (some j)])=some false:=hin
          have hin:dIn S .none (.lst [.int i,.int j])=some false:=hin
          have hl2:aq S [.lst [.int i,.int j]]=some (.int 2):=hl2
          have ft:eS S [.lst [.int i,.int j]]=some (.tpn [.int i,.int j]):=ft
          have x0:fIx S (.lst [.int i,.int j]) (.int 0)=some (.int i):=x0
          have x1:fIx S (.lst [.int i,.int j]) (.int 1)=some (.int j):=x1
          have hRN:c7 (some i) (some j)=if i≤60∧1≤j∧j≤9999 then some (.tpn [.int i,.int j]) else none:=rfl
          rw[hRN,show [ax (some i),ax (some j)]=[.int i,.int j] from rfl]
          by_cases c1:i≤60
          · have g1:dGt (.int i) (.int 60)=some (.bool false):=by simp; omega
            by_cases c2:1≤j
            · by_cases c3:j≤9999
              · rw[if_pos ⟨c1,c2,c3⟩]
                simp -dsimp [hl2,q3,fIn,hin,x0,x1,g1,c1,c2,c3,ft,-ap]
                rfl
              · rw[if_neg (fun h=>c3 h.2.2)]
                simp -dsimp [hl2,q3,fIn,hin,x0,x1,g1,c1,c2,c3,-ap]
                rfl
            · rw[if_neg (fun h=>c2 h.2.1)]
              simp -dsimp [hl2,q3,fIn,hin,x0,x1,g1,c1,c2,-ap]
              rfl
          · have g1:dGt (.int i) (.int 60)=some (.bool true):=by simp; omega
            rw[if_neg (fun h=>c1 h.1)]
            simp -dsimp [hl2,q3,fIn,hin,x0,x1,g1,-ap]
            rfl
    · have hl2:aq S [.lst (ys.map fun y=>ax (ae y))]=some (.int ys.length):=by simp[aq]
      have q3:dNe (.int ys.length) (.int 2)=some (.bool true):=by
        have:¬((ys.length:Int)=2):=by omega
        simp[this]
      rw[j5 h2]
      simp -dsimp [hl2,q3,-ap]
      rfl
theorem mD (h:Okt w) (hs:s="n"∨s="r"∨s="v"∨s="w"):dJ [.str w,.str s] S=.ok (aa (cN s w)) S:=by
  have hl:=h.1
  have ok:=h.2
  have o:=ao
  have ne:=bN
  have kn:cN "n" w=(ae w).map .int:=rfl
  have kr:cN "r" w=aY w:=by unfold cN; rw[if_neg ne.2.2.2.2.2.2.2,if_pos rfl]
  have kv:cN "v" w=eY w:=by unfold cN; rw[if_neg ne.2.2.1,if_neg ne.2.2.2.1,if_pos rfl]
  have kw:cN "w" w=if iQ w then some (.str w) else none:=by unfold cN; rw[if_neg ne.2.2.2.2.1,if_neg ne.2.2.2.2.2.1,if_neg ne.2.2.2.2.2.2.1]
  apply af
  unfold dJ
  apply aW
  unfold jG
  rcases hs with rfl|rfl|rfl|rfl
  · rw[kn]
    have q1:=jH "n" o.1
    have e1:=fb (S:=S) (w:=w) (by omega) ok
    simp -dsimp [q1,e1,-ah]
    exact oC _
  · rw[kr]
    have q1:=de "r" "n" o.2.1 o.1 ne.2.2.2.2.2.2.2
    have q2:=jH "r" o.2.1
    have e1:=iO (S:=S) h
    simp -dsimp [q1,q2,e1,-ah]
  · rw[kv]
    have q1:=de "v" "n" o.2.2.1 o.1 ne.2.2.1
    have q2:=de "v" "r" o.2.2.1 o.2.1 ne.2.2.2.1
    have q3:=jH "v" o.2.2.1
    have hsp:=fun S=>j7 (S:=S) h.1
    have hfew:=oE (w:=w)
    obtain ⟨ys,hys⟩:∃ys,ys=Txt.split w ",":=⟨_,rfl⟩
    have hok:∀y∈ys,Okt y:=fun y hy=>qo h (by rw[←hys]; exact hy)
    rw[←hys] at hsp hfew
    have hW:eY w=gd (ys.map aY):=by unfold eY; rw[←hys]
    rw[hW]
    have isb:∀S,az S (.str w)=true:=fun _=>rfl
    simp -dsimp [q1,q2,q3,hsp,isb,fQ,-ah]
    refine ac (f:=D.str) ys (fun _=>true) (fun y=>aa (aY y)) rfl (by omega) (fun y hy=>⟨_,rfl,rfl,fun _=>?_⟩) ?_
    · have e1:=iO (S:=S) (hok y hy)
      simp[e1]
    · rw[a6]
      have hin:=oF (S:=S) ys
      have ft:eS S [.lst (ys.map fun y=>aa (aY y))]=some (.tpn (ys.map fun y=>aa (aY y))):=rfl
      have hT:gd (ys.map aY)=if (ys.map aY).all Option.isSome then some (.tpn (ys.map fun y=>aa (aY y))) else none:=by
        unfold gd
        rw[List.map_map]
        rfl
      rw[hT]
      generalize (ys.map aY).all Option.isSome=b at hin ⊢
      generalize (ys.map fun y=>aa (aY y))=L at hin ft ⊢
      cases b with
      | true=>
        simp -dsimp [fIn,hin,ft]
        rfl
      | false=>
        simp -dsimp [fIn,hin,ft]
        rfl
  · rw[kw]
    have q1:=de "w" "n" o.2.2.2.1 o.1 ne.2.2.2.2.1
    have q2:=de "w" "r" o.2.2.2.1 o.2.1 ne.2.2.2.2.2.1
    have q3:=de "w" "v" o.2.2.2.1 o.2.2.1 ne.2.2.2.2.2.2.1
    have hi:bj S (.str w)=some (.items (w.cps.toList.map fun c=>D.str ⟨#[c]⟩)):=by simp[bj,show w.length≤1000000 by omega,bQ]
    have q4:dNe (.str w) (.str "")=some (.bool (decide (w≠""))):=by simp[ok,o.2.2.2.2]
    have hcl:w.cps.toList.length≤1000000:=by
      have:w.cps.toList.length=w.length:=by simp[Str.length]
      omega
    unfold iQ
    cases hb:decide (w≠"") with
    | false=>
      rw[hb] at q4
      simp -dsimp [q1,q2,q3,q4,-ah,-ap]
      rfl
    | true=>
      rw[hb] at q4
      simp -dsimp [q1,q2,q3,q4,hi,-ah,-ap]
      refine ac (f:=fun c=>D.str ⟨#[c]⟩) w.cps.toList (fun c=>!decide (c∈cF)) (fun c=>.str ⟨#[c]⟩) rfl hcl (fun c hc=>⟨_,rfl,?_,fun _=>rfl⟩) ?_
      · simp[fk,dIn,cF]
      · obtain ⟨_,q0⟩:=j4 ok fun c=>!decide (c∈cF)
        have e2:(w.cps.toList.all fun c=>!(!decide (c∈cF)))=w.cps.toList.all fun c=>decide (c∈cF):=by simp
        rw[e2] at q0
        generalize ((w.cps.toList.filter fun c=>!decide (c∈cF)).map fun c=>D.str ⟨#[c]⟩)=ll at q0 ⊢
        generalize (w.cps.toList.all fun c=>decide (c∈cF))=b at q0 ⊢
        cases b with
        | true=>
          simp -dsimp [q0,-ah]
          rfl
        | false=>
          simp -dsimp [q0,-ah]
          rfl
end
end DL
namespace DL
open PySem PySem.Spec PyProof.Rows L2 LamX
def pD (p:Str × Str):D × D:=(.str p.1,.str p.2)
theorem oJ (h:Str):∀l:List (Str × Str),dR false (l.map pD) (.str h)=(l.lookup h).map .str
  | []=>rfl
  | (k,z)::l=>by
    have ih:=oJ h l
    unfold dR at ih ⊢
    rw[List.map_cons,List.find?_cons,List.lookup_cons]
    by_cases hk:k=h
    · subst hk
      have:keq false (pD (k,z)).1 (.str k)=true:=by simp[keq,pD]
      rw[this]
      simp[pD]
    · have h1:keq false (pD (k,z)).1 (.str h)=false:=by simp[keq,pD,fA,hk]
      have h2:(h == k)=false:=by simpa using Ne.symm hk
      rw[h1,h2]
      exact ih
theorem oK:bn (bn [] [(.str "fly",.str "rw"),(.str "sell",.str "wvw"),(.str "back",.str "n"),(.str "away",.str "n"),(.str "late",.str "rn"),(.str "off",.str "r"),(.str "kind",.str "ww")]) (bn [] [(.str "turn",.str "n"),(.str "mend",.str "n")])=shTbl.map pD:=by
  rfl
/-- what became of rows -/
def RdR (t:Str) (v:D) (S':Sto):Prop:=(∃l,v=.loc l∧S'[l]?=some (.lst ((bu t).map fL))∧∀y∈bu t,(bX y).isSome=true)∨∃k,fe (bu t) k∧v=.tup [.str "BadText",.int (k:Nat)]
structure DuI (K9 K2:List (D × D)) (S:Sto) (t:Str) (rows:List Str) (pre:List Nat) (env:En) (S':Sto):Prop where
  ex:∃e4 e5 e6 e7 e8,env=[some (.str t),some (.loc S.length),some (.lst (rows.map .str)),some (.loc (S.length+2)),e4,e5,e6,e7,e8]∧S'=S++[.dct false (K9),.dct false K2,.lst ((rows.take pre.length).map fL)]∧∀p∈rows.take pre.length,(bX p).isSome=true
theorem qt:∀p∈shTbl,p.2≠"-"∧PyData.strOk p.2=true:=by decide +kernel
theorem oL:PyData.strOk "-"=true:=by decide +kernel
theorem nM {z:Str} {rest:List Str} (h:rest.length=z.length):((List.range z.length).map fun j=>aa (cN ((sgs z).getD j "") (rest.getD j "")))=(aV z rest).map aa:=by
  apply List.ext_getElem?
  intro j
  rw[List.getElem?_map,List.getElem?_map]
  unfold aV
  rw[List.getElem?_map]
  by_cases hj:j<z.length
  · have h1:j<rest.length:=by omega
    have h2:j<(sgs z).length:=by rw[cU]; exact hj
    have hzz:(rest.zip (sgs z))[j]?=some (rest[j],(sgs z)[j]):=by
      rw[List.getElem?_zip_eq_some]
      exact ⟨List.getElem?_eq_getElem h1,List.getElem?_eq_getElem h2⟩
    rw[List.getElem?_range hj,hzz]
    simp[List.getD_eq_getElem?_getD,h1,h2]
  · have h1:(List.range z.length)[j]?=none:=List.getElem?_eq_none (by rw[List.length_range]; omega)
    have h2:(rest.zip (sgs z))[j]?=none:=List.getElem?_eq_none (by rw[List.length_zip,cU]; omega)
    rw[h1,h2]
    rfl
theorem nN {S:Sto} {t:Str} (h:Okt t):Res.wp (cg [.str t] S) (fun v S'=>RdR t v S'∧∃T,S'=S++T) NoE:=by
  have hfew:=jL (t:=t)
  have hl:=h.1
  have q1:dNe (.str t) (.str "")=some (.bool (decide (t≠""))):=by simp[h.2,ao.2.2.2.2]
  have hsp:=fun S=>mC (S:=S) h.1
  have isb:∀(w:Str) S,az S (.str w)=true:=fun _ _=>rfl
  have hok:=fun y (hy:y∈bu t)=>lD h hy
  obtain ⟨rows,hrows⟩:∃rows,rows=bu t:=⟨_,rfl⟩
  have hRdR:∀v S',RdR t v S'=((∃l,v=.loc l∧S'[l]?=some (.lst (rows.map fL))∧∀y∈rows,(bX y).isSome=true)∨∃k,fe rows k∧v=.tup [.str "BadText",.int (k:Nat)]):=fun v S'=>by rw[hrows]; rfl
  rw[←hrows] at hfew hok
  rw[show (fun v S'=>RdR t v S'∧∃T,S'=S++T)=fun v S'=>((∃l,v=.loc l∧S'[l]?=some (.lst (rows.map fL))∧∀y∈rows,(bX y).isSome=true)∨∃k,fe rows k∧v=.tup [.str "BadText",.int (k:Nat)])∧∃T,S'=S++T by
    funext v S'
    rw[hRdR]]
  have ht:=oK
  unfold cg
  apply aW
  unfold jz
  obtain ⟨K7,hK7⟩:∃K,K=bn [] [(D.str "fly",D.str "rw"),(.str "sell",.str "wvw"),(.str "back",.str "n"),(.str "away",.str "n"),(.str "late",.str "rn"),(.str "off",.str "r"),(.str "kind",.str "ww")]:=⟨_,rfl⟩
  obtain ⟨K2,hK2⟩:∃K,K=bn [] [(D.str "turn",D.str "n"),(.str "mend",.str "n")]:=⟨_,rfl⟩
  obtain ⟨K9,hK9⟩:∃K,K=shTbl.map pD:=⟨_,rfl⟩
  have hpt:bn K7 K2=K9:=by rw[hK7,hK2,hK9]; exact oK
  have hlen:K7.length+K2.length≤1000000:=by rw[hK7,hK2]; exact (by decide:9≤1000000)
  have ed1:∀env S,jo [(eC (.str "fly"),eC (.str "rw")),(eC (.str "sell"),eC (.str "wvw")),(eC (.str "back"),eC (.str "n")),(eC (.str "away"),eC (.str "n")),(eC (.str "late"),eC (.str "rn")),(eC (.str "off"),eC (.str "r")),(eC (.str "kind"),eC (.str "ww"))] env S=.ok (.loc S.length) (S++[.dct false K7]):=fun _ _=>by rw[hK7]; rfl
  have ed2:∀env S,jo [(eC (.str "turn"),eC (.str "n")),(eC (.str "mend"),eC (.str "n"))] env S=.ok (.loc S.length) (S++[.dct false K2]):=fun _ _=>by rw[hK2]; rfl
  have g0:∀(a b:O) (T:Sto),(S++a::b::T)[S.length]?=some a:=fun a b T=>by simp
  have g1:∀(a b:O) (T:Sto),(S++a::b::T)[S.length+1]?=some b:=fun a b T=>by
    rw[List.getElem?_append_right (by omega)]
    simp
  have hup:lq (S++[O.dct false K7,O.dct false K2]) (.loc S.length) [.loc (S.length+1)]=some (.none,S++[O.dct false K9,O.dct false K2]):=by
    unfold lq
    dsimp only
    rw[if_neg (by omega),g0,g1]
    show (if K7.length+K2.length≤1000000 then some (D.none,(S++[O.dct false K7,O.dct false K2]).set S.length (.dct false (bn K7 K2))) else none)=_
    rw[if_pos hlen,hpt]
    simp
  have isd:∀a T,ix (S++O.dct false a::T) (.loc S.length)=true:=fun a T=>by simp[ix]
  have hir:∀L:List D,(S++[O.dct false K9,O.dct false K2])++[O.lst L]=S++[O.dct false K9,O.dct false K2,O.lst L]:=fun L=>by simp
  by_cases ht0:t=""
  · have hd0:decide (t≠"")=false:=by simp[ht0]
    rw[hd0] at q1
    have hr:rows=[]:=by rw[hrows]; unfold bu; rw[if_pos ht0]
    rw[hr]
    have hfl:aq (S++[O.dct false K9,O.dct false K2,O.lst []]) [.lst []]=some (.int 0):=rfl
    have hsm:ay 0=true:=cb (by omega)
    simp -dsimp [ed1,ed2,isd,hup,q1,hfl,hsm,gF,cp,-ap]
  · have hd0:decide (t≠"")=true:=by simp[ht0]
    rw[hd0] at q1
    have hr:bu t=Txt.split t "\n":=by unfold bu; rw[if_neg ht0]
    rw[←hr,←hrows] at hsp
    have hsm:ay (rows.length:Int)=true:=cb (by omega)
    have hfl:aq (S++[O.dct false K9,O.dct false K2,O.lst []]) [.lst (rows.map .str)]=some (.int rows.length):=by simp[aq,show rows.length≤1000000 by omega]
    simp -dsimp [ed1,ed2,isd,hup,q1,isb,hsp,hsm,hfl,dL,-ap]
    refine gu (f:=fun i:Nat=>D.int i) (List.range rows.length) (fun pre _=>DuI K9 K2 S t rows pre) (by simp) ⟨_,_,_,_,_,rfl,rfl,fun p hp=>by cases hp⟩ ?_ ?_
    · rintro pre k rest env S' hpre ⟨e4,e5,e6,e7,e8,rfl,rfl,hg⟩
      obtain ⟨rfl,hk⟩:=gZ hpre
      refine ⟨_,rfl,?_⟩
      obtain ⟨S3,hS3⟩:∃S3,S3=S++[O.dct false K9,.dct false K2,.lst ((rows.take pre.length).map fL)]:=⟨_,rfl⟩
      have ext3:∃T,S3=S++T:=⟨_,hS3⟩
      obtain ⟨y,hy⟩:∃y,rows[pre.length]?=some y:=⟨_,List.getElem?_eq_getElem hk⟩
      have hm:y∈rows:=List.mem_of_getElem? hy
      have hyo:=hok y hm
      have hix:fIx S3 (.lst (rows.map .str)) (.int (pre.length:Nat))=some (.str y):=by
        have:(rows.map D.str)[pre.length]?=some (.str y):=by rw[List.getElem?_map,hy]; rfl
        have h2:=dA (xs:=rows.map D.str) (i:=pre.length) (by simpa using hk)
        rw[this] at h2
        exact h2
      have hsp2:=j9 (S:=S3) hyo.1
      have hfew2:=oH (w:=y)
      have hyl:=hyo.1
      have hsplit:rows=rows.take pre.length++y::rows.drop (pre.length+1):=by
        rw[←List.getElem?_eq_some_iff.mp hy |>.2]
        simp
      have hlt:(rows.take pre.length).length=pre.length:=by rw[List.length_take]; omega
      have hbad:bX y=none→(∃k,fe rows k∧((pre.length:Nat):Int)=((k:Nat):Int)):=fun hd=>⟨pre.length,⟨rows.take pre.length,y,rows.drop (pre.length+1),hsplit,hlt.symm,hg,hd⟩,rfl⟩
      obtain ⟨hd,rs,hys⟩:∃hd rs,Txt.split y " "=hd::rs:=by
        cases e:Txt.split y " " with
        | nil=>exact absurd e (jJ y 32)
        | cons a l=>exact ⟨a,l,rfl⟩
      have hW:bX y=dM hd rs:=by unfold bX; rw[hys]; rfl
      have hok2:∀u∈hd::rs,Okt u:=fun u hu=>qr hyo (by rw[hys]; exact hu)
      rw[hys] at hsp2 hfew2
      rw[List.length_cons] at hfew2
      have hw0:fIx S3 (.lst ((hd::rs).map .str)) (.int 0)=some (.str hd):=dA (xs:=(hd::rs).map D.str) (i:=0) (by simp)
      have hg3:bW S3[S.length]?=some (false,K9):=by rw[hS3]; simp[bW]
      have isd3:isD S3 (.loc S.length)=true:=by
        show (bW S3[S.length]?).isSome=true
        rw[hg3]
        rfl
      have hget:iB S3 (.loc S.length) (.str hd) (.str "-")=some (((shTbl.lookup hd).map D.str).getD (.str "-")):=by
        show (match bW S3[S.length]? with
          | some (t,kvs)=>if b8 t (.str hd)=true then some ((dR t kvs (.str hd)).getD (.str "-")) else none
          | none=>none)=_
        rw[hg3]
        show (if b8 false (.str hd)=true then some ((dR false K9 (.str hd)).getD (.str "-")) else none)=_
        rw[ol,if_pos rfl,hK9,oJ]
      have hfw:aq S3 [.lst ((hd::rs).map .str)]=some (.int ((rs.length:Int)+1)):=by simp[aq,show rs.length+1≤1000000 by omega]
      rw[←hS3]
      cases hL:shTbl.lookup hd with
      | none=>
        have hD:bX y=none:=by rw[hW]; unfold dM; rw[hL]
        have q5:=jH "-" oL
        rw[hL] at hget
        have hget:iB S3 (.loc S.length) (.str hd) (.str "-")=some (.str "-"):=hget
        simp -dsimp [hix,isb,hsp2,isd3,hw0,hget,q5,-ah,-List.map_cons]
        exact ⟨hbad hD,ext3⟩
      | some z=>
        have hT:=fR _ (bK hL)
        have hT2:=qt _ (bK hL)
        have q5:=de z "-" hT2.2 oL hT2.1
        rw[hL] at hget
        have hget:iB S3 (.loc S.length) (.str hd) (.str "-")=some (.str z):=hget
        have hz3:z.length≤3:=hT.2.2.2.2.1
        have hfz:aq S3 [.str z]=some (.int z.length):=by simp[aq,show z.length≤1000000 by omega]
        have q6:dNe (.int ((rs.length:Int)+1)) (.int ((z.length:Int)+1))=some (.bool (!decide (rs.length=z.length))):=by
          have:((rs.length:Int)+1=(z.length:Int)+1)↔rs.length=z.length:=by omega
          simp[this]
        by_cases hz:rs.length=z.length
        · rw[decide_eq_true hz] at q6
          have hE:bX y=if (aV z rs).all Option.isSome=true then some (D.tup (.str hd::(aV z rs).map aa)) else none:=by
            rw[hW]
            unfold dM
            rw[hL]
            simp[hz]
          have hsmz:ay (z.length:Int)=true:=cb (by omega)
          have hj1:∀j,j<z.length→fIx S3 (.lst ((hd::rs).map .str)) (.int (1+(j:Int)))=some (.str (rs.getD j "")):=fun j hj=>by
            have h2:=dA (xs:=(hd::rs).map D.str) (i:=j+1) (by simp; omega)
            have e1:((hd::rs).map D.str)[j+1]?=some (.str (rs.getD j "")):=by
              rw[List.map_cons,List.getElem?_cons_succ,List.getElem?_map,List.getElem?_eq_getElem (show j<rs.length by omega)]
              simp[List.getD_eq_getElem?_getD,show j<rs.length by omega]
            rw[e1] at h2
            have e2:(((j+1:Nat):Int))=1+(j:Int):=by omega
            rw[e2] at h2
            exact h2
          have hj2:∀j,j<z.length→fIx S3 (.str z) (.int (j:Nat))=some (.str ((sgs z).getD j "")):=fun j hj=>by
            rw[qh (by omega) hj]
            have h2:j<(sgs z).length:=by rw[cU]; exact hj
            have hs:j<z.cps.size:=hj
            congr 1
            congr 1
            have h3:(sgs z)[j]?=some (sg (z.cps.getD j 0)):=by
              unfold sgs
              rw[List.getElem?_map]
              simp[Array.getD,hs]
            rw[List.getD_eq_getElem?_getD,h3]
            rfl
          simp -dsimp [hix,isb,hsp2,isd3,hw0,hget,q5,hfw,hfz,q6,hsmz,dL,-ah,-ap,-List.map_cons]
          refine ac (f:=fun i:Nat=>D.int i) (List.range z.length) (fun _=>true) (fun j=>aa (cN ((sgs z).getD j "") (rs.getD j ""))) (by simp) (by rw[List.length_range]; omega) (fun j hj=>⟨_,rfl,rfl,fun _=>?_⟩) ?_
          · have hj:=List.mem_range.mp hj
            have hm1:rs.getD j ""∈rs:=by
              rw[List.getD_eq_getElem?_getD,List.getElem?_eq_getElem (show j<rs.length by omega)]
              exact List.getElem_mem _
            have hm2:(sgs z).getD j ""∈sgs z:=by
              have h2:j<(sgs z).length:=by rw[cU]; exact hj
              rw[List.getD_eq_getElem?_getD,List.getElem?_eq_getElem h2]
              exact List.getElem_mem _
            have e1:=mD (S:=S3) (hok2 _ (List.mem_cons_of_mem _ hm1)) (hT.2.2.2.1 _ hm2)
            simp only[List.getD_eq_getElem?_getD] at e1
            simp[hj1 j hj,hj2 j hj,e1,-List.map_cons]
          · rw[a6,nM hz]
            have hin:=l9 (S:=S3) (aV z rs) fun o ho d hd2=>by
              unfold aV at ho
              obtain ⟨p,hp,rfl⟩:=List.mem_map.mp ho
              have hm:=List.of_mem_zip (a:=p.1) (b:=p.2) hp
              exact mB (hok2 p.1 (List.mem_cons_of_mem _ hm.1)) hd2
            have ft:eS S3 [.lst ((aV z rs).map aa)]=some (.tpn ((aV z rs).map aa)):=rfl
            have hpl:((aV z rs).map aa).length≤3:=by
              unfold aV
              rw[List.length_map,List.length_map,List.length_zip,cU]
              omega
            have had:bO (.tup [.str hd]) (.tpn ((aV z rs).map aa))=some (.tup (.str hd::(aV z rs).map aa)):=by
              show (if [D.str hd].length+((aV z rs).map aa).length≤1000000 then some (if [D.str hd]=[] then D.tpn ((aV z rs).map aa) else .tup ([D.str hd]++(aV z rs).map aa)) else none)=_
              rw[if_pos (by show 1+_≤_; omega),if_neg (by simp)]
              rfl
            cases hA:(aV z rs).all Option.isSome with
            | false=>
              rw[hA] at hin hE
              have hD:bX y=none:=hE
              generalize (aV z rs).map aa=L at hin ⊢
              simp -dsimp [fIn,hin]
              exact ⟨hbad hD,ext3⟩
            | true=>
              rw[hA] at hin hE
              have hD:bX y=some (D.tup (.str hd::(aV z rs).map aa)):=hE
              have hRow:fL y=.tup (.str hd::(aV z rs).map aa):=by unfold fL; rw[hD]; rfl
              generalize (aV z rs).map aa=L at hin ft had hRow ⊢
              have hgl:S3[S.length+2]?=some (.lst ((rows.take pre.length).map fL)):=by
                rw[hS3,List.getElem?_append_right (by omega)]
                simp
              have hlb:cA S3 (.loc (S.length+2))=true:=by simp[cA,hgl]
              have happ:bq S3 (.loc (S.length+2)) [.tup (.str hd::L)]=some (.none,S++[O.dct false K9,.dct false K2,.lst ((rows.take pre.length).map fL++[.tup (.str hd::L)])]):=by
                unfold bq
                simp only[hgl]
                rw[if_pos (by rw[List.length_map,hlt]; omega),hS3,List.set_append_right _ _ (by omega)]
                simp[List.map_take]
              simp -dsimp [fIn,hin,hw0,ft,had,hlb,happ,-List.map_cons,-List.map_take]
              have htake:rows.take (pre.length+1)=rows.take pre.length++[y]:=by
                rw[List.take_add_one,hy]
                rfl
              refine ⟨_,_,_,_,_,rfl,?_,?_⟩
              · rw[List.length_append,List.length_singleton,htake,List.map_append,List.map_singleton,hRow]
                try rw[List.map_take]
              · rw[List.length_append,List.length_singleton,htake]
                intro p hp
                rcases List.mem_append.mp hp with hp|hp
                · exact hg p hp
                · rw[List.mem_singleton.mp hp,hD]
                  rfl
        · rw[decide_eq_false hz] at q6
          have hD:bX y=none:=by rw[hW]; unfold dM; rw[hL]; simp[hz]
          simp -dsimp [hix,isb,hsp2,isd3,hw0,hget,q5,hfw,hfz,q6,-ah,-ap,-List.map_cons]
          exact ⟨hbad hD,ext3⟩
    · rintro env S' ⟨e4,e5,e6,e7,e8,rfl,rfl,hg⟩
      rw[List.length_range,List.take_length] at hg ⊢
      simp -dsimp
      exact hg
end DL
namespace DL
open PySem PySem.Spec PyProof.Rows L2 LamX
def txI (n:Nat):Str:=PySem.Str.ofString (toString ((n:Nat):Int))
structure bo (s:Str) (d:D):Prop where
  is_:∀S,a4 [d,.str s] S=.ok (.bool true) S
  wr:∃y,y.length≤200∧PyData.strOk y=true∧∀S,aZ 2 [d,.str s] S=.ok (.str y) S
section
variable {S:Sto} {w s:Str} {n:Nat}
theorem mE (x:String):PyData.strOk (PySem.Str.ofString x)=true:=by
  unfold PyData.strOk
  rw[Array.all_eq_true']
  intro c hc
  have hc:c∈(PySem.Str.ofString x).cps.toList:=by simpa using hc
  rw[show (PySem.Str.ofString x).cps.toList=x.toList.map Char.toNat from signs_ofString x] at hc
  obtain ⟨ch,_,rfl⟩:=List.mem_map.mp hc
  have:=ch.valid
  have h2:ch.toNat<0x110000:=by
    rcases this with h|h
    · exact Nat.lt_of_lt_of_le h (by decide)
    · exact h.2
  simpa using h2
theorem nO (n:Nat):PyData.strOk (txI n)=true:=mE _
theorem ge (h:n<10 ^ 10):(txI n).length≤10:=PySem.W.KT.len_num (Int.natCast_nonneg n) (by exact_mod_cast h)
theorem gz {a b:Str} (ha:PyData.strOk a=true) (hb:PyData.strOk b=true):PyData.strOk (a++b)=true:=by
  unfold PyData.strOk at ha hb ⊢
  rw[Array.all_eq_true'] at ha hb ⊢
  intro c hc
  have hc:c∈a.cps++b.cps:=hc
  rcases Array.mem_append.mp hc with h|h
  · exact ha c h
  · exact hb c h
theorem gf (a b:Str):(a++b).length=a.length+b.length:=by
  show (a.cps++b.cps).size=_
  rw[Array.size_append]
  rfl
theorem fStr_n (h:n<1000000):fStr S [.int (n:Nat)]=some (.str (txI n)):=by
  show (if ((n:Nat):Int).natAbs.log2<1920 then some (D.str (toString ((n:Nat):Int))) else none)=_
  rw[if_pos]
  · rfl
  · rw[Int.natAbs_natCast]
    by_cases h0:n=0
    · rw[h0]; decide
    · exact Nat.lt_trans ((Nat.log2_lt h0).mpr (Nat.lt_trans h (by decide:1000000<2 ^ 20))) (by decide)
theorem fm_n (h:n<1000000):fmD (.int (n:Nat))=some (.str (txI n)):=by
  show (if ((n:Nat):Int).natAbs<1000000000 then some (D.str (toString ((n:Nat):Int))) else none)=_
  rw[if_pos (by rw[Int.natAbs_natCast]; omega)]
  rfl
theorem qu (h:n<1000000):bo "n" (.int (n:Nat)):=by
  have o:=ao
  have q1:=de "n" "r" o.1 o.2.1 bN.1
  have q2:=de "n" "v" o.1 o.2.2.1 bN.2.1
  have q3:=jH "n" o.1
  have h9:((n:Nat):Int)≤999999:=by omega
  refine ⟨fun S=>?_,txI n,?_,nO n,fun S=>?_⟩
  · apply af
    unfold a4
    apply aW
    unfold dB
    simp -dsimp [q1,q2,q3,h9,-ah]
  · have:=ge (n:=n) (by omega)
    omega
  · have e:=fStr_n (S:=S) h
    apply af
    unfold aZ
    apply aW
    simp -dsimp [q1,q2,e,-ah]
theorem pA (h:Okt w) (hw:iQ w=true):a4 [.str w,.str "w"] S=.ok (.bool true) S:=by
  have hl:=h.1
  have ok:=h.2
  have o:=ao
  have ne:=bN
  have q1:=de "w" "r" o.2.2.2.1 o.2.1 ne.2.2.2.2.2.1
  have q2:=de "w" "v" o.2.2.2.1 o.2.2.1 ne.2.2.2.2.2.2.1
  have q3:=de "w" "n" o.2.2.2.1 o.1 ne.2.2.2.2.1
  have hi:bj S (.str w)=some (.items (w.cps.toList.map fun c=>D.str ⟨#[c]⟩)):=by simp[bj,show w.length≤1000000 by omega,bQ]
  unfold iQ at hw
  rw[Bool.and_eq_true] at hw
  have q4:dNe (.str w) (.str "")=some (.bool true):=by
    have:=hw.1
    simp at this
    simp[ok,o.2.2.2.2,this]
  have hcl:w.cps.toList.length≤1000000:=by
    have:w.cps.toList.length=w.length:=by simp[Str.length]
    omega
  apply af
  unfold a4
  apply aW
  unfold dB
  simp -dsimp [q1,q2,q3,bV,q4,hi,-ah,-ap]
  refine ac (f:=fun c=>D.str ⟨#[c]⟩) w.cps.toList (fun _=>true) (fun c=>.bool (decide (c∈cF))) rfl hcl (fun c hc=>⟨_,rfl,rfl,fun _=>?_⟩) ?_
  · simp[dIn,cF]
  · rw[a6]
    have:=hw.2
    simp -dsimp [this]
theorem qv (hl:w.length≤200) (ok:PyData.strOk w=true) (hw:iQ w=true):bo "w" (.str w):=by
  have o:=ao
  have ne:=bN
  have q1:=de "w" "r" o.2.2.2.1 o.2.1 ne.2.2.2.2.2.1
  have q2:=de "w" "v" o.2.2.2.1 o.2.2.1 ne.2.2.2.2.2.2.1
  refine ⟨fun S=>pA ⟨by omega,ok⟩ hw,w,hl,ok,fun S=>?_⟩
  have e:fStr S [.str w]=some (.str w):=rfl
  apply af
  unfold aZ
  apply aW
  simp -dsimp [q1,q2,e,-ah]
def rdT (p:Nat × Nat):Str:=txI p.1++":"++txI p.2
theorem kA {a b:Nat} (ha:a≤60) (hb:1≤b) (hb2:b≤9999):bH [.tup [.int (a:Nat),.int (b:Nat)]] S=.ok (.bool true) S:=by
  have e0:∀S',fIx S' (.tup [.int (a:Nat),.int (b:Nat)]) (.int 0)=some (.int (a:Nat)):=fun _=>rfl
  have e1:∀S',fIx S' (.tup [.int (a:Nat),.int (b:Nat)]) (.int 1)=some (.int (b:Nat)):=fun _=>rfl
  have h1:((a:Nat):Int)≤60:=by omega
  have h2:(1:Int)≤(b:Nat):=by omega
  have h3:((b:Nat):Int)≤9999:=by omega
  apply af
  unfold bH
  apply aW
  unfold gx
  simp -dsimp [bV,e0,e1,h1,h2,h3]
theorem eh:((":":Str)).length=1∧PyData.strOk ":"=true∧((",": Str)).length=1∧PyData.strOk ","=true:=by decide +kernel
theorem qw {a b:Nat} (ha:a≤60) (hb2:b≤9999):(rdT (a,b)).length≤21∧PyData.strOk (rdT (a,b))=true:=by
  have h1:=ge (n:=a) (by omega)
  have h2:=ge (n:=b) (by omega)
  refine ⟨?_,gz (gz (nO a) eh.2.1) (nO b)⟩
  show (txI a++":"++txI b).length≤21
  rw[gf,gf,eh.1]
  omega
theorem qx {a b:Nat} (ha:a≤60) (hb2:b≤9999) (k:Nat):aZ (k+1) [.tup [.int (a:Nat),.int (b:Nat)],.str "r"] S=.ok (.str (rdT (a,b))) S:=by
  have q1:=jH "r" ao.2.1
  have e0:∀S',fIx S' (.tup [.int (a:Nat),.int (b:Nat)]) (.int 0)=some (.int (a:Nat)):=fun _=>rfl
  have e1:∀S',fIx S' (.tup [.int (a:Nat),.int (b:Nat)]) (.int 1)=some (.int (b:Nat)):=fun _=>rfl
  have f0:=fm_n (n:=a) (by omega)
  have f1:=fm_n (n:=b) (by omega)
  have h1:=ge (n:=a) (by omega)
  have h2:=ge (n:=b) (by omega)
  have hz:(Str.empty++txI a:Str)=txI a:=by
    show (⟨Str.empty.cps++(txI a).cps⟩:Str)=txI a
    rw[show Str.empty.cps=#[] from rfl,Array.empty_append]
  have l1:(txI a).length≤16777216:=by omega
  have l2:(txI a++":").length≤16777216:=by rw[gf,eh.1]; omega
  have l3:(txI a++":"++txI b).length≤16777216:=by rw[gf,gf,eh.1]; omega
  apply af
  unfold aZ
  apply aW
  simp -dsimp [q1,e0,e1,f0,f1,hz,l1,l2,l3,-ah]
  rfl
theorem qy {a b:Nat} (ha:a≤60) (hb:1≤b) (hb2:b≤9999):bo "r" (.tup [.int (a:Nat),.int (b:Nat)]):=by
  have q1:=jH "r" ao.2.1
  have k:=qw ha hb2
  refine ⟨fun S=>?_,rdT (a,b),by omega,k.2,fun S=>qx ha hb2 1⟩
  have e:=kA (S:=S) ha hb hb2
  apply af
  unfold a4
  apply aW
  unfold dB
  simp -dsimp [q1,e,-ah]
end
end DL
namespace DL
open PySem PySem.Spec PyProof.Rows L2 LamX
open PySem.Builtin.Str (glued)
section
variable {S:Sto} {w s sep:Str} {n B:Nat}
theorem lE (hs:PyData.strOk sep=true):∀(ys:List Str),(∀y∈ys,PyData.strOk y=true)→PyData.strOk (PySem.Str.join sep ys)=true
  | [],_=>by
    show PyData.strOk PySem.Str.empty=true
    decide +kernel
  | [x],h=>h x List.mem_cons_self
  | x::z::ys,h=>by
    have ih:=lE hs (z::ys) fun y hy=>h y (List.mem_cons_of_mem _ hy)
    exact gz (gz (h x List.mem_cons_self) hs) ih
theorem jM (ys:List Str) (hs:PyData.strOk sep=true) (h:∀y∈ys,y.length≤B∧PyData.strOk y=true):PyData.strOk (Txt.join sep ys)=true∧(Txt.join sep ys).length≤ys.length*(B+sep.length):=by
  have e:Txt.join sep ys=PySem.Str.join sep ys:=StrLaws.glued_eq_join sep ys
  have e2:=size_glued sep ys
  have e3:(Txt.join sep ys).length=(ys.map (·.length)).sum+(ys.length - 1)*sep.length:=e2
  have e4:=StrLaws.sumLen_le (B:=B) ys fun y hy=>(h y hy).1
  refine ⟨?_,?_⟩
  · rw[e]
    exact lE hs ys fun y hy=>(h y hy).2
  · rw[e3,Nat.mul_add]
    have:(ys.length - 1)*sep.length≤ys.length*sep.length:=Nat.mul_le_mul (by omega) (Nat.le_refl _)
    omega
theorem kB (ys:List Str) (hs:sep.length≤1) (hl:ys.length≤1000) (h:∀y∈ys,y.length≤10000):fY sep (ys.map .str)=some (.str (Txt.join sep ys)):=by
  have ej:∀zs:List Str,iF (zs.map .str)=some zs:=fun zs=>by
    induction zs with
    | nil=>rfl
    | cons z zs ih=>
      rw[List.map_cons]
      unfold iF
      rw[ih]
      rfl
  have e4:=StrLaws.sumLen_le (B:=10000) ys h
  unfold fY
  rw[ej]
  dsimp only
  rw[if_pos]
  have h1:ys.length*10000≤1000*10000:=Nat.mul_le_mul hl (Nat.le_refl _)
  have h2:ys.length*sep.length≤1000*1:=Nat.mul_le_mul hl hs
  omega
theorem kE (ys:List Str) (hs:sep.length≤1) (hl:ys.length≤1000) (h:∀y∈ys,y.length≤10000):gP S (.str sep) [.lst (ys.map .str)]=some (.str (Txt.join sep ys),S):=by
  have:=kB ys hs hl h
  show (fY sep (ys.map .str)).map (fun d=>(d,S))=_
  rw[this]
  rfl
def rdP (p:Nat × Nat):D:=.tup [.int (p.1:Nat),.int (p.2:Nat)]
theorem qz {rs:List (Nat × Nat)} (h0:rs≠[]) (h5:rs.length≤5) (hr:∀p∈rs,p.1≤60∧1≤p.2∧p.2≤9999):bo "v" (.tpn (rs.map rdP)):=by
  have o:=ao
  have q1:=de "v" "r" o.2.2.1 o.2.1 bN.2.2.2.1
  have q2:=jH "v" o.2.2.1
  have hlen:∀y∈rs.map rdT,y.length≤21∧PyData.strOk y=true:=fun y hy=>by
    obtain ⟨p,hp,rfl⟩:=List.mem_map.mp hy
    have:=hr p hp
    exact qw this.1 this.2.2
  have J:=jM (sep:=",") (rs.map rdT) eh.2.2.2 hlen
  rw[List.length_map,eh.2.2.1] at J
  refine ⟨fun S=>?_,Txt.join "," (rs.map rdT),by omega,J.1,fun S=>?_⟩
  · have hi:bj S (.tpn (rs.map rdP))=some (.items (rs.map rdP)):=rfl
    have q3:dNe (.tup (rs.map rdP)) (.tup [])=some (.bool true):=by
      have h1:dok 60 (.tup (rs.map rdP))=true:=by
        show (rs.map rdP).all (dok 59)=true
        rw[List.all_eq_true]
        intro z hz
        obtain ⟨p,hp,rfl⟩:=List.mem_map.mp hz
        rfl
      have h2:peq (.tup (rs.map rdP)) (.tup [])=false:=by
        rw[qN]
        cases rs with
        | nil=>exact absurd rfl h0
        | cons a l=>rfl
      unfold dNe
      rw[h1,h2]
      rfl
    have vw:view S (.tpn (rs.map rdP))=.tup (rs.map rdP):=rfl
    have vw2:view S (.tup [])=.tup []:=rfl
    apply af
    unfold a4
    apply aW
    unfold dB
    simp -dsimp [q1,q2,bV,q3,hi,vw,-ah,-ap]
    refine ac (f:=rdP) rs (fun _=>true) (fun p=>.bool true) rfl (by omega) (fun p hp=>⟨_,rfl,rfl,fun _=>?_⟩) ?_
    · have h3:=hr p hp
      have e:=kA (S:=S) h3.1 h3.2.1 h3.2.2
      unfold rdP
      simp[e]
    · rw[a6]
      simp -dsimp
  · have hj:=kE (S:=S) (sep:=",") (rs.map rdT) (by rw[eh.2.2.1]; omega) (by rw[List.length_map]; omega) fun y hy=>by have:=(hlen y hy).1; omega
    have hi:bj S (.tpn (rs.map rdP))=some (.items (rs.map rdP)):=rfl
    have isb:az S (.str ",")=true:=rfl
    apply af
    unfold aZ
    apply aW
    have hc:cW (gV 2) b9 (aO 2 (aZ 1) (aB (eV 2) (aB (eC (.str "r")) aF))) [some (.tpn (rs.map rdP)),some (.str "v"),none] (rs.map rdP) [] S=.ok ((rs.map rdT).map .str) S:=by
      have:=eT (g:=gV 2) (tc:=b9) (m:=aO 2 (aZ 1) (aB (eV 2) (aB (eC (.str "r")) aF))) (w:=[some (.tpn (rs.map rdP)),some (.str "v"),none]) (S:=S) (f:=rdP) rs (fun _=>true) (fun p=>.str (rdT p)) (by omega) (fun p hp=>⟨_,rfl,rfl,fun _=>by
        have h3:=hr p hp
        have e:=qx (S:=S) h3.1 h3.2.2 0
        unfold rdP
        simp[e]⟩)
      rw[this,a6,List.map_map]
      rfl
    generalize rs.map rdT=ys at hj hc ⊢
    simp -dsimp [q1,q2,hi,hc,isb,hj,-ah]
end
end DL
namespace DL
open PySem PySem.Spec PyProof.Rows L2 LamX
/-- a deed that may be written -/
structure DP (d:D):Prop where
  ex:∃h z ps,d=.tup (.str h::ps)∧shTbl.lookup h=some z∧ps.length=z.length∧∀(j:Nat) (s:Str) (p:D),(sgs z)[j]?=some s→ps[j]?=some p→bo s p
  dk:dok 60 d=true
structure NdI2 (S:Sto) (v:D) (env:En) (S':Sto):Prop where
  en:∃e1 e2,env=[some v,e1,e2]
  st:S'=S
section
variable {S:Sto} {v d:D} {n:Nat}
theorem kdIn_m {tbl:List (Str × Int)} {hd:Str} {b:Bool} {m:ME} {env:En} {S:Sto} (h:(tbl.map (·.1)).contains hd=b) (e:m env S=.ok (.str hd) S):iE true tbl m env S=.ok (.bool (!b)) S:=by
  rw[dw,e,←h]
  rfl
theorem kdIx_m {tbl:List (Str × Int)} {hd:Str} {i:Int} {m:ME} {env:En} {S:Sto} (h:tbl.lookup hd=some i) (e:m env S=.ok (.str hd) S):i7 tbl m env S=.ok (.int i) S:=by
  rw[fG,e]
  show ofO S ((tbl.lookup hd).map D.int)=_
  rw[h]
  rfl
theorem sX {ds:List D} (hv:LV S v ds) (h:∀d∈ds,DP d):Res.wp (cS [v] S) (fun r S'=>r=.none∧S'=S) NoE:=by
  have hli:bV S [v,.ty "list"]=some (.bool true):=by
    rcases hv with rfl|⟨l,rfl,e⟩
    · rfl
    · simp[bV,dI,e]
  have p1:dok 60 (.tup [])=true:=rfl
  unfold cS
  apply aW
  unfold gY
  simp -dsimp [hli,-ku,-kl]
  refine i6 (v:=v) (f:=id) ds (fun _ _=>NdI2 S v) (by simp) (by simpa using hv) ?_ ⟨⟨_,_,rfl⟩,rfl⟩ ?_ ?_
  · rintro pre rest env S' _ ⟨⟨e1,e2,rfl⟩,rfl⟩
    simpa using hv
  · rintro pre d rest env S' hpre ⟨⟨e1,e2,rfl⟩,rfl⟩
    have hm:d∈ds:=by rw[←hpre]; simp
    obtain ⟨⟨hd,z,ps,rfl,hL,hz,hp⟩,hdk⟩:=h d hm
    have hT:=fR _ (bK hL)
    refine ⟨_,rfl,?_⟩
    have q1:dEq (.tup (.str hd::ps)) (.tup [])=some (.bool false):=by
      unfold dEq
      rw[hdk,p1]
      rfl
    have x0:∀S',fIx S' (.tup (.str hd::ps)) (.int 0)=some (.str hd):=fun S'=>by
      have:=dA (xs:=D.str hd::ps) (i:=0) (by simp)
      exact this
    have k1:∀env S,env[2]?=some (some (.tup (.str hd::ps)))→iE true dTbl (aL fIx (eV 2) (eC (.int 0))) env S=.ok (.bool false) S:=fun env S he=>kdIn_m hT.2.1 (by simp[he,x0])
    have k2:∀env S,env[2]?=some (some (.tup (.str hd::ps)))→i7 dTbl (aL fIx (eV 2) (eC (.int 0))) env S=.ok (.int ((z.length:Nat):Int)) S:=fun env S he=>kdIx_m hT.1 (by simp[he,x0])
    have hz3:z.length≤3:=hT.2.2.2.2.1
    have e2:∀S,aq S [.tup (.str hd::ps)]=some (.int ((z.length:Int)+1)):=fun S=>by
      simp[aq,hz,show z.length+1≤1000000 by omega]
    have q2:dNe (.int ((z.length:Int)+1)) (.int ((z.length:Int)+1))=some (.bool false):=by simp
    have vw:view S' (.tup (.str hd::ps))=.tup (.str hd::ps):=rfl
    have ft:bV S' [.tup (.str hd::ps),.ty "tuple"]=some (.bool true):=rfl
    have fs:bV S' [.str hd,.ty "str"]=some (.bool true):=rfl
    simp -dsimp [ft,fs,q1,x0,k1,k2,e2,q2,vw,-ah,-ap,-dw,-fG]
    exact ⟨⟨_,_,rfl⟩,rfl⟩
  · rintro env S' ⟨⟨e1,e2,rfl⟩,rfl⟩
    simp -dsimp
end
end DL
namespace DL
open PySem PySem.Spec PyProof.Rows L2 LamX
open Classical in
noncomputable def fM (s:Str) (d:D):Str:=if h:bo s d then Classical.choose h.wr else ""
noncomputable def ff (h z:Str) (ps:List D):Str:=Txt.join " " (h::(ps.zip (sgs z)).map fun p=>fM p.2 p.1)
noncomputable def eJ:D→Str
  | .tup (.str h::ps)=>match shTbl.lookup h with
    | some z=>ff h z ps
    | none=>""
  | _=>""
section
variable {S:Sto} {v d:D} {n:Nat}
theorem jN {s:Str} {d:D} (h:bo s d):(fM s d).length≤200∧PyData.strOk (fM s d)=true∧∀S,aZ 2 [d,.str s] S=.ok (.str (fM s d)) S:=by
  unfold fM
  rw[dif_pos h]
  exact Classical.choose_spec h.wr
theorem mF:∀(ps:List D) (ss:List Str),cB ps (ss.map .str)=(ps.zip ss).map fun p=>D.tup [p.1,.str p.2]
  | [],_=>by simp[cB]
  | _::_,[]=>by simp[cB]
  | p::ps,s::ss=>by
    rw[List.map_cons,List.zip_cons_cons,List.map_cons]
    unfold cB
    rw[mF ps ss]
theorem fS:((" ":Str)).length=1∧PyData.strOk " "=true∧(("\n":Str)).length=1∧PyData.strOk "\n"=true:=by decide +kernel
theorem mG:∀p∈shTbl,p.1.length≤4:=by decide +kernel
theorem row_ok (h:DP d):(eJ d).length≤804∧PyData.strOk (eJ d)=true:=by
  obtain ⟨⟨hd,z,ps,rfl,hL,hz,hp⟩,hdk⟩:=h
  have hT:=fR _ (bK hL)
  have hh:=mG _ (bK hL)
  have e:eJ (.tup (.str hd::ps))=ff hd z ps:=by
    show (match shTbl.lookup hd with
      | some z=>ff hd z ps
      | none=>"")=_
    rw[hL]
  rw[e]
  have hz3:z.length≤3:=hT.2.2.2.2.1
  have hl:(hd::(ps.zip (sgs z)).map fun p=>fM p.2 p.1).length≤4:=by
    rw[List.length_cons,List.length_map,List.length_zip,cU]
    omega
  have J:=jM (sep:=" ") (B:=200) (hd::(ps.zip (sgs z)).map fun p=>fM p.2 p.1) fS.2.1 (fun y hy=>by
    rcases List.mem_cons.mp hy with hy|hy
    · have hh:hd.length≤4:=hh
      rw[hy]
      exact ⟨by omega,hT.2.2.2.2.2⟩
    · obtain ⟨p,hp2,rfl⟩:=List.mem_map.mp hy
      obtain ⟨j,hj,ej⟩:=List.getElem_of_mem hp2
      have hj2:=List.getElem?_eq_getElem hj
      rw[ej] at hj2
      obtain ⟨e1,e2⟩:=List.getElem?_zip_eq_some.mp hj2
      have W:=jN (hp j p.2 p.1 e2 e1)
      exact ⟨W.1,W.2.1⟩)
  rw[fS.1] at J
  refine ⟨?_,J.1⟩
  have h2:(hd::(ps.zip (sgs z)).map fun p=>fM p.2 p.1).length*(200+1)≤4*201:=Nat.mul_le_mul hl (Nat.le_refl _)
  exact Nat.le_trans J.2 h2
structure WrI (S:Sto) (v:D) (pre:List D) (env:En) (S':Sto):Prop where
  ex:∃e2 e3 e4 e5 e6,env=[some v,some (.loc S.length),e2,e3,e4,e5,e6]∧S'=S++[.lst ((pre.map eJ).map .str)]
theorem nP {ds:List D} (hv:LV S v ds) (hl:ds.length≤20) (h:∀d∈ds,DP d):Res.wp (eF [v] S) (fun r S'=>∃t,r=.str t∧t.length≤ds.length*805∧PyData.strOk t=true∧∃T,S'=S++T) NoE:=by
  have hvT:∀T,LV (S++T) v ds:=fun T=>by
    rcases hv with rfl|⟨l,rfl,e⟩
    · exact .inl rfl
    · exact .inr ⟨l,rfl,n6 e T⟩
  unfold eF
  apply aW
  unfold j2
  simp -dsimp [-ku,-kl]
  refine iU (sX hv h) ?_
  rintro _ S2 ⟨rfl,rfl⟩
  simp -dsimp [-ku,-kl]
  refine i6 (v:=v) (f:=id) ds (fun pre _=>WrI S2 v pre) (by simp) (by simpa using hvT _) ?_ ⟨_,_,_,_,_,rfl,rfl⟩ ?_ ?_
  · rintro pre rest env S' _ ⟨e2,e3,e4,e5,e6,rfl,rfl⟩
    simpa using hvT _
  · rintro pre d rest env S' hpre ⟨e2,e3,e4,e5,e6,rfl,rfl⟩
    have hm:d∈ds:=by rw[←hpre]; simp
    have hD:=h d hm
    obtain ⟨⟨hd,z,ps,rfl,hL,hz,hp⟩,hdk⟩:=h d hm
    have hT:=fR _ (bK hL)
    have hh:hd.length≤4:=mG _ (bK hL)
    refine ⟨_,rfl,?_⟩
    obtain ⟨S3,hS3⟩:∃S3,S3=S2++[O.lst ((pre.map eJ).map .str)]:=⟨_,rfl⟩
    have hrow:eJ (.tup (.str hd::ps))=ff hd z ps:=by
      show (match shTbl.lookup hd with
        | some z=>ff hd z ps
        | none=>"")=_
      rw[hL]
    have hz3:z.length≤3:=hT.2.2.2.2.1
    have hzl:(ps.zip (sgs z)).length≤3:=by
      rw[List.length_zip,cU]
      omega
    have hPO:∀p∈ps.zip (sgs z),bo p.2 p.1:=fun p hp2=>by
      obtain ⟨j,hj,ej⟩:=List.getElem_of_mem hp2
      have hj2:=List.getElem?_eq_getElem hj
      rw[ej] at hj2
      obtain ⟨e1,e2⟩:=List.getElem?_zip_eq_some.mp hj2
      exact hp j p.2 p.1 e2 e1
    have x0:∀S',fIx S' (.tup (.str hd::ps)) (.int 0)=some (.str hd):=fun S'=>by
      have:=dA (xs:=D.str hd::ps) (i:=0) (by simp)
      exact this
    have hcut:jP (.tup (.str hd::ps)) (some 1) none=some (.tup ps):=by
      show some (D.tup (dX (.str hd::ps) (some 1) none))=_
      rw[cut_1]
      rfl
    have hsh:∀S,bY [.str hd] S=.ok (.str z) S:=fun S=>jI hL
    obtain ⟨prs,hprs⟩:∃prs,prs=ps.zip (sgs z):=⟨_,rfl⟩
    rw[←hprs] at hzl hPO
    have hzip:eD [.tup ps,.str z]=some (.lst (prs.map fun p=>D.tup [p.1,.str p.2])):=by
      show some (D.lst (cB ps (bQ z)))=_
      rw[j8,mF,hprs]
    have hc1:∀(w:En),w.length=7→cW (dG 2 (a9 (gV 5) (a9 (gV 6) dS))) b9 (aO 2 a4 (aB (eV 5) (aB (eV 6) aF))) w (prs.map fun p=>D.tup [p.1,.str p.2]) [] S3=.ok (prs.map fun _=>.bool true) S3:=fun w hw=>by
      obtain ⟨a,b,c,d,e,f,g,rfl⟩:∃a b c d e f g,w=[a,b,c,d,e,f,g]:=by
        match w,hw with
        | [a,b,c,d,e,f,g],_=>exact ⟨a,b,c,d,e,f,g,rfl⟩
      have:=eT (g:=dG 2 (a9 (gV 5) (a9 (gV 6) dS))) (tc:=b9) (m:=aO 2 a4 (aB (eV 5) (aB (eV 6) aF))) (w:=[a,b,c,d,e,f,g]) (S:=S3) (f:=fun p:D × Str=>D.tup [p.1,.str p.2]) prs (fun _=>true) (fun p=>.bool true) (by omega) (fun p hp2=>⟨_,rfl,rfl,fun _=>by
        have e:=(hPO p hp2).is_ S3
        simp[e]⟩)
      rw[this,a6]
    have hc2:∀(w:En),w.length=7→cW (dG 2 (a9 (gV 5) (a9 (gV 6) dS))) b9 (aO 2 (aZ 2) (aB (eV 5) (aB (eV 6) aF))) w (prs.map fun p=>D.tup [p.1,.str p.2]) [] S3=.ok ((prs.map fun p=>fM p.2 p.1).map .str) S3:=fun w hw=>by
      obtain ⟨a,b,c,d,e,f,g,rfl⟩:∃a b c d e f g,w=[a,b,c,d,e,f,g]:=by
        match w,hw with
        | [a,b,c,d,e,f,g],_=>exact ⟨a,b,c,d,e,f,g,rfl⟩
      have:=eT (g:=dG 2 (a9 (gV 5) (a9 (gV 6) dS))) (tc:=b9) (m:=aO 2 (aZ 2) (aB (eV 5) (aB (eV 6) aF))) (w:=[a,b,c,d,e,f,g]) (S:=S3) (f:=fun p:D × Str=>D.tup [p.1,.str p.2]) prs (fun _=>true) (fun p=>.str (fM p.2 p.1)) (by omega) (fun p hp2=>⟨_,rfl,rfl,fun _=>by
        have e:=(jN (hPO p hp2)).2.2 S3
        simp[e]⟩)
      rw[this,a6,List.map_map]
      rfl
    have fa:jQ S3 [.lst (prs.map fun _=>.bool true)]=some (.bool true):=by
      rw[qf S3 prs fun _=>true]
      simp
    obtain ⟨ws,hws⟩:∃ws,ws=prs.map fun p=>fM p.2 p.1:=⟨_,rfl⟩
    rw[←hws] at hc2
    have hwl:ws.length≤3:=by rw[hws,List.length_map]; exact hzl
    have hwb:∀y∈hd::ws,y.length≤10000:=fun y hy=>by
      rcases List.mem_cons.mp hy with hy|hy
      · rw[hy]; omega
      · rw[hws] at hy
        obtain ⟨p,hp2,rfl⟩:=List.mem_map.mp hy
        have:=(jN (hPO p hp2)).1
        omega
    have hro:ff hd z ps=Txt.join " " (hd::ws):=by
      unfold ff
      rw[hws,hprs]
    have hj:=kE (S:=S3) (sep:=" ") (hd::ws) (by rw[fS.1]; omega) (by rw[List.length_cons]; omega) hwb
    rw[←hro] at hj
    have had:bO (.lst [.str hd]) (.lst (ws.map .str))=some (.lst ((hd::ws).map .str)):=by
      rw[gN,if_pos (by rw[List.length_map]; show 1+_≤_; omega)]
      rfl
    have isb:az S3 (.str " ")=true:=rfl
    have hpl:((pre.map eJ).map D.str).length<1000000:=by
      have:=congrArg List.length hpre
      simp at this ⊢
      omega
    have hgl:S3[S2.length]?=some (.lst ((pre.map eJ).map .str)):=by rw[hS3]; simp
    have hlb:cA S3 (.loc S2.length)=true:=by simp[cA,hgl]
    have happ:bq S3 (.loc S2.length) [.str (ff hd z ps)]=some (.none,S2++[O.lst ((pre.map eJ).map .str++[.str (ff hd z ps)])]):=by
      unfold bq
      simp only[hgl]
      rw[if_pos hpl,hS3]
      simp
    have vw:∀L:List D,view S3 (.lst L)=.lst L:=fun _=>rfl
    rw[←hS3]
    generalize (prs.map fun _=>D.bool true)=BL at hc1 fa
    generalize (prs.map fun p=>D.tup [p.1,.str p.2])=PL at hzip hc1 hc2
    generalize (hd::ws).map D.str=RL at had hj
    generalize ws.map D.str=WL at hc2 had
    generalize ff hd z ps=row at hj happ hrow
    simp -dsimp [x0,hcut,hsh,hzip,hc1,fa,hc2,had,isb,hj,hlb,happ]
    exact ⟨_,_,_,_,_,rfl,by simp[hrow]⟩
  · rintro env S' ⟨e2,e3,e4,e5,e6,rfl,rfl⟩
    have hrs:∀y∈ds.map eJ,y.length≤804∧PyData.strOk y=true:=fun y hy=>by
      obtain ⟨d,hd,rfl⟩:=List.mem_map.mp hy
      exact row_ok (h d hd)
    have J:=jM (sep:="\n") (B:=804) (ds.map eJ) fS.2.2.2 hrs
    rw[fS.2.2.1,List.length_map] at J
    have hj:=kB (sep:="\n") (ds.map eJ) (by rw[fS.2.2.1]; omega) (by rw[List.length_map]; omega) fun y hy=>by have:=(hrs y hy).1; omega
    generalize hR:ds.map eJ=RR at J hj
    have hb:gP (S2++[O.lst (RR.map .str)]) (.str "\n") [.loc S2.length]=some (.str (Txt.join "\n" RR),S2++[O.lst (RR.map .str)]):=by
      have g:(S2++[O.lst (RR.map D.str)])[S2.length]?=some (.lst (RR.map .str)):=by simp
      show (match view0 (S2++[O.lst (RR.map D.str)]) (.loc S2.length) with
        | .lst xs=>(fY "\n" xs).map fun d=>(d,S2++[O.lst (RR.map D.str)])
        | _=>none)=_
      have v0:view0 (S2++[O.lst (RR.map D.str)]) (.loc S2.length)=.lst (RR.map .str):=by
        show (match (S2++[O.lst (RR.map D.str)])[S2.length]? with
          | some (.lst xs)=>D.lst xs
          | _=>.loc S2.length)=_
        rw[g]
      rw[v0]
      show (fY "\n" (RR.map .str)).map _=_
      rw[hj]
      rfl
    have isb:∀S,az S (.str "\n")=true:=fun _=>rfl
    simp -dsimp [isb,hb]
    exact ⟨J.2,J.1⟩
end
end DL
namespace DL
open PySem PySem.Spec PyProof.Rows L2 LamX
section
variable {S:Sto} {v d d1 d2 d3:D} {n:Nat} {h z s1 s2 s3 w:Str}
theorem dp1 (hL:shTbl.lookup h=some z) (hs:sgs z=[s1]) (p1:bo s1 d1) (dk:dok 60 (.tup [.str h,d1])=true):DP (.tup [.str h,d1]):=by
  refine ⟨⟨h,z,[d1],rfl,hL,?_,fun j s p h1 h2=>?_⟩,dk⟩
  · have:=cU z
    rw[hs] at this
    exact this
  · rw[hs] at h1
    match j with
    | 0=>cases h1; cases h2; exact p1
    | j+1=>simp at h1
theorem dp2 (hL:shTbl.lookup h=some z) (hs:sgs z=[s1,s2]) (p1:bo s1 d1) (p2:bo s2 d2) (dk:dok 60 (.tup [.str h,d1,d2])=true):DP (.tup [.str h,d1,d2]):=by
  refine ⟨⟨h,z,[d1,d2],rfl,hL,?_,fun j s p h1 h2=>?_⟩,dk⟩
  · have:=cU z
    rw[hs] at this
    exact this
  · rw[hs] at h1
    match j with
    | 0=>cases h1; cases h2; exact p1
    | 1=>cases h1; cases h2; exact p2
    | j+2=>simp at h1
theorem dp3 (hL:shTbl.lookup h=some z) (hs:sgs z=[s1,s2,s3]) (p1:bo s1 d1) (p2:bo s2 d2) (p3:bo s3 d3) (dk:dok 60 (.tup [.str h,d1,d2,d3])=true):DP (.tup [.str h,d1,d2,d3]):=by
  refine ⟨⟨h,z,[d1,d2,d3],rfl,hL,?_,fun j s p h1 h2=>?_⟩,dk⟩
  · have:=cU z
    rw[hs] at this
    exact this
  · rw[hs] at h1
    match j with
    | 0=>cases h1; cases h2; exact p1
    | 1=>cases h1; cases h2; exact p2
    | 2=>cases h1; cases h2; exact p3
    | j+3=>simp at h1
def nQ:List Str:=["p","ab","qwertz","elevensigns"]
def lF:List Str:=["y","big","p","ab","qwertz","elevensigns"]
theorem jO {w:Str} (h:w∈nQ):w∈lF:=List.mem_cons_of_mem _ (List.mem_cons_of_mem _ h)
theorem kF:∀w∈lF,w.length≤200∧PyData.strOk w=true∧iQ w=true:=by decide +kernel
theorem lG {w:Str} (h:w∈lF):bo "w" (.str w):=by
  have:=kF w h
  exact qv this.1 this.2.1 this.2.2
theorem sh_at:shTbl.lookup ("fly":Str)=some "rw"∧shTbl.lookup ("sell":Str)=some "wvw"∧shTbl.lookup ("back":Str)=some "n"∧shTbl.lookup ("away":Str)=some "n"∧shTbl.lookup ("late":Str)=some "rn"∧shTbl.lookup ("off":Str)=some "r"∧shTbl.lookup ("kind":Str)=some "ww"∧shTbl.lookup ("turn":Str)=some "n"∧shTbl.lookup ("mend":Str)=some "n":=by decide +kernel
theorem sgs_at:sgs "rw"=(["r","w"]:List Str)∧sgs "wvw"=(["w","v","w"]:List Str)∧sgs "n"=(["n"]:List Str)∧sgs "rn"=(["r","n"]:List Str)∧sgs "r"=(["r"]:List Str)∧sgs "ww"=(["w","w"]:List Str):=by decide +kernel
theorem kw_ok:PyData.strOk "fly"=true∧PyData.strOk "sell"=true∧PyData.strOk "back"=true∧PyData.strOk "away"=true∧PyData.strOk "late"=true∧PyData.strOk "off"=true∧PyData.strOk "kind"=true∧PyData.strOk "turn"=true∧PyData.strOk "mend"=true∧PyData.strOk "y"=true∧PyData.strOk "big"=true:=by decide +kernel
/-- what is drawn from -/
def kH (r:D) (rs:D) (w:Str) (k:D):List D:=[.tup [.str "fly",r,.str w],.tup [.str "sell",.str w,rs,.str "y"],.tup [.str "back",k],.tup [.str "away",k],.tup [.str "late",r,k],.tup [.str "off",r],.tup [.str "kind",.str w,.str "big"],.tup [.str "turn",k],.tup [.str "mend",k]]
theorem sY {a b k:Nat} {rs:List (Nat × Nat)} (ha:a≤60) (hb:1≤b) (hb2:b≤9999) (hk:k<1000000) (hw:w∈nQ) (h0:rs≠[]) (h5:rs.length≤5) (hr:∀p∈rs,p.1≤60∧1≤p.2∧p.2≤9999) :
    ∀d∈kH (.tup [.int (a:Nat),.int (b:Nat)]) (.tpn (rs.map rdP)) w (.int (k:Nat)),DP d:=by
  have pw:bo "w" (.str w):=lG (jO hw)
  have py:bo "w" (.str "y"):=lG (by decide +kernel)
  have pb:bo "w" (.str "big"):=lG (by decide +kernel)
  have pr:=qy ha hb hb2
  have pv:=qz h0 h5 hr
  have pn:=qu hk
  have ko:=kw_ok
  have wo:=(kF w (jO hw)).2.1
  have sh:=sh_at
  have sa:=sgs_at
  have dv:dok 59 (.tpn (rs.map rdP))=true:=by
    show (rs.map rdP).all (dok 58)=true
    rw[List.all_eq_true]
    intro q hq
    obtain ⟨p,hp,rfl⟩:=List.mem_map.mp hq
    rfl
  intro d hd
  unfold kH at hd
  simp only[List.mem_cons,List.not_mem_nil,or_false] at hd
  rcases hd with rfl|rfl|rfl|rfl|rfl|rfl|rfl|rfl|rfl
  · exact dp2 sh.1 sa.1 pr pw (by simp[ko,wo])
  · refine dp3 sh.2.1 sa.2.1 pw pv py ?_
    show ([D.str "sell",.str w,.tpn (rs.map rdP),.str "y"]).all (dok 59)=true
    simp only[List.all_cons,List.all_nil,dv,Bool.true_and,Bool.and_true]
    simp[ko,wo]
  · exact dp1 sh.2.2.1 sa.2.2.1 pn (by simp[ko])
  · exact dp1 sh.2.2.2.1 sa.2.2.1 pn (by simp[ko])
  · exact dp2 sh.2.2.2.2.1 sa.2.2.2.1 pr pn (by simp[ko])
  · exact dp1 sh.2.2.2.2.2.1 sa.2.2.2.2.1 pr (by simp[ko])
  · exact dp2 sh.2.2.2.2.2.2.1 sa.2.2.2.2.2 pw pb (by simp[ko,wo])
  · exact dp1 sh.2.2.2.2.2.2.2.1 sa.2.2.1 pn (by simp[ko])
  · exact dp1 sh.2.2.2.2.2.2.2.2 sa.2.2.1 pn (by simp[ko])
structure LdI (sc:List Int) (T:Sto) (pre:List Nat) (env:En) (S':Sto):Prop where
  ex:∃o ds e2 e3 e4 e5 e6 e7 e8,Dr sc o∧env=[some (.loc 0),some (.loc (T.length+1)),e2,e3,e4,e5,e6,e7,e8]∧S'=o::(T++[.lst ds])∧ds.length=pre.length∧∀d∈ds,DP d
theorem q7 {sc:List Int} {o:O} {T:Sto} {Q:D→Sto→Prop} {E:XV→Sto→Prop} (dr:Dr sc o) (k:∀o' ds,Dr sc o'→ds.length≤6→(∀d∈ds,DP d)→Q (.loc (T.length+1)) (o'::(T++[.lst ds]))):Res.wp (cr [.loc 0] (o::T)) Q E:=by
  unfold cr
  apply aW
  unfold iL
  simp -dsimp
  refine ak dr (by omega) (by omega) fun m o1 d1 m0 m7=>?_
  have hsm:ay m=true:=cb (by omega)
  simp -dsimp [hsm,dL]
  refine gu (f:=fun i:Nat=>D.int i) (List.range m.toNat) (fun pre _=>LdI sc T pre) (by simp) ⟨_,[],_,_,_,_,_,_,_,d1,rfl,rfl,rfl,fun d hd=>by cases hd⟩ ?_ ?_
  · rintro pre x rest env S' hpre ⟨o2,ds,e2,e3,e4,e5,e6,e7,e8,d2,rfl,rfl,hl,hds⟩
    obtain ⟨rfl,hx⟩:=gZ hpre
    refine ⟨_,rfl,?_⟩
    simp -dsimp
    refine ak d2 (by omega) (by omega) fun a o3 d3 a0 a1=>?_
    simp -dsimp
    refine ak d3 (by omega) (by omega) fun c o4 d4 c0 c1=>?_
    have hm1:∃mx:Int,fIx (o4::(T++[O.lst ds])) (.lst [.int 120,.int 9999]) (.int c)=some (.int mx)∧0<mx∧mx≤9999:=by
      have:c=0∨c=1:=by omega
      rcases this with rfl|rfl
      · exact ⟨120,rfl,by omega,by omega⟩
      · exact ⟨9999,rfl,by omega,by omega⟩
    obtain ⟨mx,hmx,mx0,mx1⟩:=hm1
    simp -dsimp [hmx]
    refine ak d4 (by omega) (by omega) fun b o5 d5 b0 b1=>?_
    simp -dsimp
    refine ak d5 (by omega) (by omega) fun g o6 d6 g0 g1=>?_
    have hsg:ay (1+g)=true:=cb (by omega)
    simp -dsimp [hsg,dL]
    refine qM (f:=fun i:Nat=>D.int i) (List.range (1+g).toNat) (fun pre _ acc S'=>∃(o:O) (ps:List (Nat × Nat)),Dr sc o∧acc=ps.map rdP∧ps.length=pre.length∧(∀p:Nat × Nat,p∈ps→p.1≤60∧1≤p.2∧p.2≤9999)∧S'=o::(T++[.lst ds])) rfl ⟨o6,[],d6,rfl,rfl,fun _ h=>by simp at h,rfl⟩ ?_ ?_
    · rintro pre2 x2 rest2 acc S2 hpre2 ⟨o7,ps,d7,rfl,hpl,hps,rfl⟩
      obtain ⟨rfl,hx2⟩:=gZ hpre2
      refine ⟨_,rfl,?_⟩
      simp -dsimp
      refine ak d7 (by omega) (by omega) fun a' o8 d8 a'0 a'1=>?_
      simp -dsimp
      refine ak d8 (by omega) (by omega) fun b' o9 d9 b'0 b'1=>?_
      simp -dsimp
      refine ⟨by omega,o9,d9,ps++[(a'.toNat,(1+b').toNat)],?_,by simp[hpl],?_,rfl⟩
      · simp[rdP,Int.toNat_of_nonneg a'0,Int.toNat_of_nonneg (show 0≤1+b' by omega)]
      · intro pa pb hp
        have hp':(pa,pb)∈ps++[(a'.toNat,(1+b').toNat)]:=by simpa using hp
        rcases List.mem_append.mp hp' with h|h
        · exact hps (pa,pb) h
        · rw[List.mem_singleton] at h
          cases h
          refine ⟨by omega,by omega,by omega⟩
    rintro acc S2 ⟨o7,ps,d7,rfl,hpl,hps,rfl⟩
    simp -dsimp [eS]
    refine ak d7 (by omega) (by omega) fun wi o8 d8 wi0 wi1=>?_
    have hw:∃wd,fIx (o8::(T++[O.lst ds])) (D.lst [D.str (Str.ofString "p"),.str (Str.ofString "ab"),.str (Str.ofString "qwertz"),.str (Str.ofString "elevensigns")]) (.int wi)=some (.str wd)∧wd∈nQ:=by
      have:wi=0∨wi=1∨wi=2∨wi=3:=by omega
      rcases this with rfl|rfl|rfl|rfl
      · exact ⟨_,rfl,by decide +kernel⟩
      · exact ⟨_,rfl,by decide +kernel⟩
      · exact ⟨_,rfl,by decide +kernel⟩
      · exact ⟨_,rfl,by decide +kernel⟩
    obtain ⟨wd,hwd,hwm⟩:=hw
    simp -dsimp [hwd]
    refine ak d8 (by omega) (by omega) fun z o9 d9 z0 z1=>?_
    have hm2:∃mn:Int,fIx (o9::(T++[O.lst ds])) (.lst [.int 9,.int 1000000]) (.int z)=some (.int mn)∧0<mn∧mn≤1000000:=by
      have:z=0∨z=1:=by omega
      rcases this with rfl|rfl
      · exact ⟨9,rfl,by omega,by omega⟩
      · exact ⟨1000000,rfl,by omega,by omega⟩
    obtain ⟨mn,hmn,mn0,mn1⟩:=hm2
    simp -dsimp [hmn]
    refine ak d9 (by omega) (by omega) fun n o10 d10 n0 n1=>?_
    simp -dsimp
    have hgL:∀(u:O) (L:List D),(u::(T++[O.lst L]))[T.length+1]?=some (.lst L):=fun u L=>by simp
    have hsL:∀(u:O) (L L':List D),(u::(T++[O.lst L])).set (T.length+1) (.lst L')=u::(T++[O.lst L']):=fun u L L'=>by simp[List.set_append_right]
    have hil:cA (o10::(T++[O.lst ds])) (.loc (T.length+1))=true:=by
      unfold cA
      simp[view,view0,vt,hgL]
    rw[if_pos hil]
    simp -dsimp
    refine ak d10 (by omega) (by omega) fun ci o11 d11 ci0 ci1=>?_
    have hnine:=sY (a:=a.toNat) (b:=(1+b).toNat) (k:=n.toNat) (rs:=ps) (w:=wd) (by omega) (by omega) (by omega) (by omega) hwm (fun h=>by rw[h,List.length_range] at hpl; simp at hpl; omega) (by rw[hpl,List.length_range]; omega) hps
    rw[Int.toNat_of_nonneg a0,Int.toNat_of_nonneg (show 0≤1+b by omega),Int.toNat_of_nonneg n0] at hnine
    have hpick:∃d,fIx (o11::(T++[O.lst ds])) (.lst (kH (.tup [.int a,.int (1+b)]) (.tpn (ps.map rdP)) wd (.int n))) (.int ci)=some d∧d∈kH (.tup [.int a,.int (1+b)]) (.tpn (ps.map rdP)) wd (.int n):=by
      have:ci=0∨ci=1∨ci=2∨ci=3∨ci=4∨ci=5∨ci=6∨ci=7∨ci=8:=by omega
      rcases this with rfl|rfl|rfl|rfl|rfl|rfl|rfl|rfl|rfl<;>exact ⟨_,rfl,by simp[kH]⟩
    obtain ⟨d,hd,hdm⟩:=hpick
    have hd':=hd
    unfold kH at hd'
    erw [hd']
    have hdsl:ds.length<1000000:=by
      rw[hl]
      omega
    have happ:bq (o11::(T++[O.lst ds])) (.loc (T.length+1)) [d]=some (.none,o11::(T++[O.lst (ds++[d])])):=by
      unfold bq
      simp[hgL,hdsl,hsL]
    simp -dsimp [happ]
    refine ⟨o11,ds++[d],_,_,_,_,_,_,_,d11,rfl,rfl,by simp[hl],fun q hq=>?_⟩
    rcases List.mem_append.mp hq with h|h
    · exact hds q h
    · rw[List.mem_singleton] at h
      subst h
      exact hnine q hdm
  · rintro env S' ⟨o2,ds,e2,e3,e4,e5,e6,e7,e8,d2,rfl,rfl,hl,hds⟩
    simp -dsimp
    exact k o2 ds d2 (by rw[hl,List.length_range]; omega) hds
end
end DL
namespace DL
open PySem PySem.Spec PyProof.Rows L2 LamX
open PySem.Builtin.Str (glued)
section
variable {S:Sto} {w s t sep:Str} {n:Nat}
theorem sZ (hl:w.length≤1000000) (ok:PyData.strOk w=true) {i:Int} (h0:0≤i) (h:i<(w.length:Nat)):∃s,fIx S (.str w) (.int i)=some (.str s)∧s.length=1∧PyData.strOk s=true:=by
  have hi:i.toNat<w.length:=by omega
  have e:=qh (S:=S) hl hi
  rw[Int.toNat_of_nonneg h0] at e
  refine ⟨_,e,rfl,n8 ok ?_⟩
  have hs:i.toNat<w.cps.size:=hi
  have e2:w.cps.getD i.toNat 0=w.cps[i.toNat]:=by simp[Array.getD,hs]
  rw[e2]
  simp
theorem oM (h:PyData.strOk t=true) (lo hi:Option Int):PyData.strOk (cutS t lo hi)=true:=by
  unfold PyData.strOk at h ⊢
  rw[Array.all_eq_true'] at h ⊢
  intro k hk
  refine h k ?_
  unfold cutS at hk
  have h1:=List.mem_of_mem_take (List.mem_toArray.mp hk)
  have h2:=List.mem_of_mem_drop h1
  simpa using h2
def wgt (ys:List Str):Nat:=(ys.map (·.length)).sum+ys.length
theorem gg (xs ys:List Str):wgt (xs++ys)=wgt xs+wgt ys:=by
  simp[wgt]
  omega
theorem q8 {rows:List Str} {j:Nat} {r:Str} (h:rows[j]?=some r):wgt (rows.take j)+wgt (rows.drop (j+1))+r.length+1=wgt rows:=by
  obtain ⟨hj,e⟩:=List.getElem?_eq_some_iff.mp h
  have e1:rows=rows.take j++r::rows.drop (j+1):=by
    rw[←e,List.getElem_cons_drop,List.take_append_drop]
  conv=>rhs; rw[e1]
  rw[gg]
  simp[wgt]
  omega
theorem iW (ys:List Str):ys.length≤wgt ys:=by simp[wgt]
theorem oN {ys:List Str} {y:Str} (h:y∈ys):y.length+1≤wgt ys:=by
  obtain ⟨j,hj⟩:=List.getElem?_of_mem h
  have:=q8 hj
  omega
theorem se (ys:List Str) (hs:sep.length=1) (ho:PyData.strOk sep=true) (hw:wgt ys≤1000000) (h:∀y∈ys,PyData.strOk y=true):gP S (.str sep) [.lst (ys.map .str)]=some (.str (Txt.join sep ys),S)∧(Txt.join sep ys).length≤wgt ys∧PyData.strOk (Txt.join sep ys)=true:=by
  have hj:fY sep (ys.map .str)=some (.str (Txt.join sep ys)):=by
    unfold fY
    rw[om]
    dsimp only
    rw[if_pos]
    unfold wgt at hw
    rw[hs]
    omega
  refine ⟨?_,?_,?_⟩
  · show (fY sep (ys.map .str)).map (fun d=>(d,S))=_
    rw[hj]
    rfl
  · have e2:=size_glued sep ys
    have e3:(Txt.join sep ys).length=(ys.map (·.length)).sum+(ys.length - 1)*sep.length:=e2
    rw[e3,hs]
    unfold wgt
    omega
  · rw[show Txt.join sep ys=PySem.Str.join sep ys from StrLaws.glued_eq_join sep ys]
    exact lE ho ys h
theorem gh (rows:List Str) {j:Int} (h0:0≤j) (h:j<(rows.length:Nat)):∃r,fIx S (.lst (rows.map .str)) (.int j)=some (.str r)∧rows[j.toNat]?=some r:=by
  have hj:j.toNat<rows.length:=by omega
  refine ⟨rows[j.toNat],?_,List.getElem?_eq_getElem hj⟩
  show atI (rows.map D.str) j=_
  have e:=dA (xs:=rows.map D.str) (i:=j.toNat) (by rw[List.length_map]; exact hj)
  rw[Int.toNat_of_nonneg h0] at e
  rw[e]
  simp[hj]
theorem q9 (rows:List Str) {j:Int} (h0:0≤j):dX (rows.map D.str) none (some j)=(rows.take j.toNat).map .str∧dX (rows.map D.str) (some (j+1)) none=(rows.drop (j.toNat+1)).map .str:=by
  obtain ⟨k,rfl⟩:=Int.eq_ofNat_of_zero_le h0
  constructor
  · rw[cut_to,List.map_take]
    rfl
  · rw[show ((k:Int)+1)=((k+1:Nat):Int) by omega,li,List.map_drop]
    rfl
def oddW:List Str:=["","fly","turn","0","007","60:1","61:1","3:0","3:10000","1000000","3:1,","ab","mend 5","3:1:2"]
theorem sf:∀w∈oddW,w.length≤7∧PyData.strOk w=true:=by decide +kernel
/-- the rows put in where one row stood -/
def fg (rj rk one:Str):List (List Str):=[[],[rj,rj],[one],[one,rj],[rk]]
theorem sj {rj rk one:Str} {n:Nat} (hj:rj.length≤n) (hk:rk.length≤n) (ho:one.length≤7):∀zs∈fg rj rk one,wgt zs≤n+rj.length+10:=by
  intro zs h
  simp only[fg,List.mem_cons,List.not_mem_nil,or_false] at h
  rcases h with rfl|rfl|rfl|rfl|rfl<;>simp[wgt]<;>omega
theorem rA {rj rk one:Str} (hj:PyData.strOk rj=true) (hk:PyData.strOk rk=true) (ho:PyData.strOk one=true):∀zs∈fg rj rk one,∀z∈zs,PyData.strOk z=true:=by
  intro zs h z hz
  simp only[fg,List.mem_cons,List.not_mem_nil,or_false] at h
  rcases h with rfl|rfl|rfl|rfl|rfl<;>simp only[List.mem_cons,List.not_mem_nil,or_false] at hz<;>(try rcases hz with rfl|rfl)<;>(try subst hz)<;>first|assumption|cases hz
end
end DL
namespace DL
open PySem PySem.Spec PyProof.Rows L2 LamX
section
variable {w s t sep:Str} {n:Nat}
theorem pB:spSigns.length=68∧PyData.strOk spSigns=true:=by decide +kernel
theorem pC {sc:List Int} {o:O} {T:Sto} {Q:D→Sto→Prop} {E:XV→Sto→Prop} (dr:Dr sc o) (hl:t.length≤40000) (ok:PyData.strOk t=true) (k:∀o' t',Dr sc o'→t'.length≤2*t.length+10→PyData.strOk t'=true→Q (.str t') (o'::T)):Res.wp (bc [.loc 0,.str t] (o::T)) Q E:=by
  unfold bc
  apply aW
  unfold gU
  simp -dsimp
  refine ak dr (by omega) (by omega) fun way o1 d1 w0 w1=>?_
  have hlen:∀S,aq S [.str t]=some (.int (t.length:Nat)):=fun S=>by
    show (if t.length≤1000000 then some (D.int t.length) else none)=_
    rw[if_pos (by omega)]
  simp -dsimp [hlen]
  refine ak d1 (by omega) (by omega) fun a o2 d2 a0 a1=>?_
  simp -dsimp
  obtain ⟨G,hG⟩:∃G:Str,G=spSigns:=⟨_,rfl⟩
  have hG2:spSigns=G:=hG.symm
  obtain ⟨gl,gok⟩:=pB
  rw[←hG] at gl gok
  have hgl:∀S,aq S [.str G]=some (.int 68):=fun S=>by
    show (if G.length≤1000000 then some (D.int G.length) else none)=_
    rw[if_pos (by omega),gl]
    rfl
  rw[hG2]
  simp -dsimp [hgl]
  refine ak d2 (by omega) (by omega) fun b o3 d3 b0 b1=>?_
  have hm1:∃mx:Int,fIx (o3::T) (.lst [.int 14,.int 68]) (.int b)=some (.int mx)∧0<mx∧mx≤68:=by
    have:b=0∨b=1:=by omega
    rcases this with rfl|rfl
    · exact ⟨14,rfl,by omega,by omega⟩
    · exact ⟨68,rfl,by omega,by omega⟩
  obtain ⟨mx,hmx,mx0,mx1⟩:=hm1
  simp -dsimp [hmx]
  refine ak d3 (by omega) (by omega) fun si o4 d4 s0 s1=>?_
  obtain ⟨sn,hsn,snl,snok⟩:=sZ (S:=o4::T) (w:=G) (by omega) gok s0 (by omega)
  simp -dsimp [hsn]
  by_cases hw3:way<3
  · have hpk:∃z:Str,atI [D.str sn,D.str (Str.ofString ""),D.str sn] way=some (.str z)∧z.length≤1∧PyData.strOk z=true:=by
      have:way=0∨way=1∨way=2:=by omega
      rcases this with rfl|rfl|rfl
      · exact ⟨sn,rfl,by omega,snok⟩
      · exact ⟨_,rfl,by decide +kernel,by decide +kernel⟩
      · exact ⟨sn,rfl,by omega,snok⟩
    obtain ⟨z,hz,zl,zok⟩:=hpk
    have hcut:∀lo hi,jP (.str t) lo hi=some (.str (cutS t lo hi)):=fun lo hi=>by
      show (if t.length≤1000000 then some (D.str (cutS t lo hi)) else none)=_
      rw[if_pos (by omega)]
    have c1:=cutS_length t none (some a)
    have hadd:∀x y:Str,x.length+y.length≤1000000→bO (.str x) (.str y)=some (.str (x++y)):=fun x y h=>by
      show (if x.length+y.length≤1000000 then some (D.str (x++y)) else none)=_
      rw[if_pos h]
    have hxl:∀x y:Str,(x++y).length=x.length+y.length:=fun x y=>by
      show (x.cps++y.cps).size=_
      rw[Array.size_append]
      rfl
    simp -dsimp [hw3,hcut,hz]
    have p1:(cutS t none (some a)).length+z.length≤1000000:=by omega
    rw[if_pos p1]
    obtain ⟨bi,hbi⟩:∃bi:Int,∀S,kX S [D.bool (decide (0<way))]=some (.int bi):=⟨_,fun _=>rfl⟩
    have c2:=cutS_length t (some (a+bi)) none
    have p2:(cutS t none (some a)++z).length+(cutS t (some (a+bi)) none).length≤1000000:=by
      rw[hxl]
      omega
    have vs:∀S (x:Str),view0 S (.str x)=.str x:=fun _ _=>rfl
    have vi:∀S (x:Int),view0 S (.int x)=.int x:=fun _ _=>rfl
    have ha:∀x y:Int,bO (.int x) (.int y)=some (.int (x+y)):=fun _ _=>rfl
    simp -dsimp [hbi,vs,vi,ha,p2]
    refine k _ _ d4 ?_ (gz (gz (oM ok _ _) zok) (oM ok _ _))
    rw[hxl,hxl]
    omega
  · simp -dsimp [hw3]
    refine ak d4 (by omega) (by omega) fun gi o5 d5 g0 g1=>?_
    have hgap:∃c:Nat,atI [D.str (Str.ofString "\n"),D.str (Str.ofString " ")] gi=some (.str (sg c))∧PyData.strOk (sg c)=true:=by
      have:gi=0∨gi=1:=by omega
      rcases this with rfl|rfl
      · exact ⟨10,rfl,by decide +kernel⟩
      · exact ⟨32,rfl,by decide +kernel⟩
    obtain ⟨c,hgp,gpok⟩:=hgap
    have hspl:=fun S=>fK (S:=S) (c:=c) (w:=t) (by omega)
    obtain ⟨rows,hrows⟩:∃rows,rows=Txt.split t (sg c):=⟨_,rfl⟩
    rw[←hrows] at hspl
    have hrw:wgt rows≤t.length+1:=by
      rw[hrows]
      exact split_weight t (sg c) (Nat.le_refl 1)
    have hrok:∀y∈rows,PyData.strOk y=true:=fun y hy=>(eI (c:=c) ⟨by omega,ok⟩ (hrows▸hy)).2
    have hrl:rows.length≤40001:=Nat.le_trans (iW rows) (by omega)
    have hr0:0<rows.length:=by
      rw[hrows]
      exact List.length_pos_iff.mpr (jJ t c)
    have isb:∀S (x:Str),az S (.str x)=true:=fun _ _=>rfl
    simp -dsimp [hgp,isb,hspl]
    refine ak d5 (by omega) (by omega) fun j o6 d6 j0 j1=>?_
    simp -dsimp
    refine ak d6 (by omega) (by omega) fun q o7 d7 q0 q1=>?_
    simp -dsimp
    refine ak d7 (by omega) (by omega) fun u o8 d8 u0 u1=>?_
    have hod:∃one,atI (oddW.map D.str) u=some (.str one)∧one∈oddW:=by
      obtain ⟨r,h,h2⟩:=gh (S:=[]) oddW u0 (by simpa [oddW] using u1)
      exact ⟨r,h,List.mem_of_getElem? h2⟩
    obtain ⟨one,hone,onem⟩:=hod
    obtain ⟨onl,onok⟩:=sf one onem
    have hone2:fIx (o8::T) (.lst [D.str (Str.ofString ""),D.str (Str.ofString "fly"),D.str (Str.ofString "turn"),D.str (Str.ofString "0"),D.str (Str.ofString "007"),D.str (Str.ofString "60:1"),D.str (Str.ofString "61:1"),D.str (Str.ofString "3:0"),D.str (Str.ofString "3:10000"),D.str (Str.ofString "1000000"),D.str (Str.ofString "3:1,"),D.str (Str.ofString "ab"),D.str (Str.ofString "mend 5"),D.str (Str.ofString "3:1:2")]) (.int u)=some (.str one):=hone
    rw[hone2]
    obtain ⟨rj,hrj,rjm⟩:=gh (S:=[]) rows j0 j1
    obtain ⟨rk,hrk,rkm⟩:=gh (S:=[]) rows q0 q1
    have hrj2:atI (rows.map D.str) j=some (.str rj):=hrj
    have hrk2:atI (rows.map D.str) q=some (.str rk):=hrk
    have hpk:∃zs,atI [D.lst [],D.lst [D.str rj,D.str rj],D.lst [D.str one],D.lst [D.str one,D.str rj],D.lst [D.str rk]] (way - 3)=some (.lst (zs.map .str))∧zs∈fg rj rk one:=by
      have:way - 3=0∨way - 3=1∨way - 3=2∨way - 3=3∨way - 3=4:=by omega
      rcases this with h|h|h|h|h<;>rw[h]
      · exact ⟨[],rfl,by simp[fg]⟩
      · exact ⟨[rj,rj],rfl,by simp[fg]⟩
      · exact ⟨[one],rfl,by simp[fg]⟩
      · exact ⟨[one,rj],rfl,by simp[fg]⟩
      · exact ⟨[rk],rfl,by simp[fg]⟩
    obtain ⟨zs,hzs,hzm⟩:=hpk
    obtain ⟨ct,cf⟩:=q9 rows j0
    simp -dsimp [hrj2,hrk2]
    rw[hzs]
    have wj:=q8 rjm
    have mj:=List.mem_of_getElem? rjm
    have mk:=List.mem_of_getElem? rkm
    have lj:=oN mj
    have lk:=oN mk
    have wz:=sj (n:=t.length) (rj:=rj) (rk:=rk) (one:=one) (by omega) (by omega) onl zs hzm
    have oz:=rA (hrok rj mj) (hrok rk mk) onok zs hzm
    have wt:=iW (rows.take j.toNat)
    have wd:=iW (rows.drop (j.toNat+1))
    have wzl:=iW zs
    obtain ⟨J1,J2,J3⟩:=se (S:=o8::T) (sep:=sg c) (rows.take j.toNat++zs++rows.drop (j.toNat+1)) rfl gpok (by rw[gg,gg]; omega) (fun y hy=>by
      rcases List.mem_append.mp hy with h|h
      · rcases List.mem_append.mp h with h|h
        · exact hrok y (List.mem_of_mem_take h)
        · exact oz y h
      · exact hrok y (List.mem_of_mem_drop h))
    rw[gg,gg] at J2
    generalize Txt.join (sg c) (rows.take j.toNat++zs++rows.drop (j.toNat+1))=TT at J1 J2 J3
    have ha:bO (.int j) (.int 1)=some (.int (j+1)):=rfl
    have vl:∀S (x:List D),view0 S (.lst x)=.lst x:=fun _ _=>rfl
    have vi:∀S (x:Int),view0 S (.int x)=.int x:=fun _ _=>rfl
    have e1:((rows.take j.toNat).map D.str).length+(zs.map D.str).length≤1000000:=by
      rw[List.length_map,List.length_map]
      omega
    have e2:((rows.take j.toNat).map D.str++zs.map D.str).length+((rows.drop (j.toNat+1)).map D.str).length≤1000000:=by
      rw[List.length_append,List.length_map,List.length_map,List.length_map]
      omega
    have a1:bO (.lst ((rows.take j.toNat).map D.str)) (.lst (zs.map D.str))=some (.lst ((rows.take j.toNat).map D.str++zs.map D.str)):=by rw[gN,if_pos e1]
    have a2:bO (.lst ((rows.take j.toNat).map D.str++zs.map D.str)) (.lst ((rows.drop (j.toNat+1)).map D.str))=some (.lst ((rows.take j.toNat++zs++rows.drop (j.toNat+1)).map D.str)):=by
      rw[gN,if_pos e2,List.map_append,List.map_append]
    generalize (rows.take j.toNat++zs++rows.drop (j.toNat+1)).map D.str=LL at a2 J1
    generalize (rows.take j.toNat).map D.str++zs.map D.str=L1 at a1 a2
    generalize (rows.take j.toNat).map D.str=L0 at ct a1
    generalize (rows.drop (j.toNat+1)).map D.str=L2 at cf a2
    generalize zs.map D.str=LZ at a1
    simp -dsimp [ct,cf,ha,a1,a2,vl,vi,isb,J1,-List.map_take,-List.map_drop,-gN]
    exact k _ _ d8 (by omega) J3
end
end DL
namespace DL
open PySem PySem.Spec PyProof.Rows L2 LamX
def Sme (S:Sto) (n:Nat) (a b:D):Prop:=bA n [a,b] S=.ok (.bool true) S
def pd:Nat→D→Bool
  | _,.int _=>true
  | _,.str x=>PyData.strOk x
  | n+1,.tup xs=>decide (xs.length≤1000000)&&xs.all (pd n)
  | n+1,.tpn xs=>decide (xs.length≤1000000)&&xs.all (pd n)
  | _,_=>false
section
variable {S:Sto} {n:Nat} {t w s:Str}
theorem mH {τ:Type} (xs:List τ):xs.filter (fun _=>false)=[]:=by induction xs<;>simp_all
theorem oO (i:Int):Sme S (n+1) (.int i) (.int i):=by
  unfold Sme bA
  apply af
  apply aW
  simp -dsimp [bV,hU]
theorem oP (x:Str) (h:PyData.strOk x=true):Sme S (n+1) (.str x) (.str x):=by
  unfold Sme bA
  apply af
  apply aW
  simp -dsimp [bV,hU,h]
theorem lH {a b:D} {t:String} {xs ys:List D} (ht:t="tuple"∨t="list") (ta:dI S a=some t) (tb:dI S b=some t) (la:aq S [a]=some (.int xs.length)) (lb:aq S [b]=some (.int ys.length))
    (ia:∀i,fIx S a (.int i)=atI xs i) (ib:∀i,fIx S b (.int i)=atI ys i) (hl:xs.length=ys.length) (hs:ys.length≤1000000) (hx:∀(i:Nat) (x y:D),xs[i]?=some x→ys[i]?=some y→Sme S n x y):Sme S (n+1) a b:=by
  unfold Sme bA
  apply af
  apply aW
  have h2:bV S [b,.tup [.ty "tuple",.ty "list"]]=some (.bool true):=by rcases ht with rfl|rfl<;>simp[bV,tb,hU]
  have h3:bV S [a,.tup [.ty "tuple",.ty "list"]]=some (.bool true):=by rcases ht with rfl|rfl<;>simp[bV,ta,hU]
  have h4:∃k,bV S [a,.ty "list"]=some (.bool k)∧bV S [b,.ty "list"]=some (.bool k):=by rcases ht with rfl|rfl<;>simp[bV,ta,tb]
  obtain ⟨k,h4,h5⟩:=h4
  have hsm:ay (ys.length:Int)=true:=cb (by omega)
  simp -dsimp [h2,h3,h4,h5,la,lb,hl,hsm,dL]
  refine ac (f:=fun i:Nat=>D.int i) (List.range ys.length) (fun _=>false) (fun i=>.int i) rfl (by simp; omega) ?_ ?_
  · intro i hi
    have hi:=List.mem_range.mp hi
    have e1:atI xs (i:Int)=some (xs[i]'(by omega)):=by rw[dA (by omega),List.getElem?_eq_getElem]
    have e2:atI ys (i:Int)=some (ys[i]):=by rw[dA hi,List.getElem?_eq_getElem]
    have hal:=hx i _ _ (List.getElem?_eq_getElem (show i<xs.length by omega)) (List.getElem?_eq_getElem hi)
    unfold Sme at hal
    refine ⟨_,rfl,?_,fun z=>by cases z⟩
    simp[ia,ib,e1,e2,hal]
  · rw[mH]
    simp -dsimp
theorem rC:∀(n:Nat) (d:D),pd n d=true→Sme S (n+1) d d:=by
  intro n
  induction n with
  | zero=>
    intro d h
    cases d<;>first|exact oO _|exact oP _ h|(unfold pd at h; cases h)
  | succ n ih=>
    intro d h
    cases d with
    | int i=>exact oO i
    | str x=>exact oP x h
    | tup xs=>
      unfold pd at h
      rw[Bool.and_eq_true,List.all_eq_true] at h
      refine lH (t:="tuple") (xs:=xs) (ys:=xs) (.inl rfl) rfl rfl rfl rfl (fun i=>rfl) (fun i=>rfl) rfl (by simpa using h.1) fun i x y h1 h2=>?_
      rw[h1] at h2
      cases h2
      exact ih x (h.2 x (List.mem_of_getElem? h1))
    | tpn xs=>
      unfold pd at h
      rw[Bool.and_eq_true,List.all_eq_true] at h
      refine lH (t:="tuple") (xs:=xs) (ys:=xs) (.inl rfl) rfl rfl rfl rfl (fun i=>rfl) (fun i=>rfl) rfl (by simpa using h.1) fun i x y h1 h2=>?_
      rw[h1] at h2
      cases h2
      exact ih x (h.2 x (List.mem_of_getElem? h1))
    | _=>unfold pd at h; cases h
theorem oQ {d:D} (h:aY w=some d):pd 8 d=true:=by
  unfold aY fc at h
  split at h
  · unfold c7 at h
    split at h
    · split at h
      · cases h
        rfl
      · cases h
    · cases h
  · cases h
theorem sk {d:D} (h:cN s w=some d) (ok:Okt w):pd 9 d=true:=by
  unfold cN at h
  split at h
  · cases hn:ae w with
    | none=>rw[hn] at h; cases h
    | some i=>rw[hn] at h; cases h; rfl
  · split at h
    · have:=oQ h
      unfold aY fc at h
      split at h
      · unfold c7 at h
        split at h
        · split at h
          · cases h
            rfl
          · cases h
        · cases h
      · cases h
    · split at h
      · unfold eY gd at h
        split at h
        · rename_i hall
          cases h
          unfold pd
          rw[Bool.and_eq_true,List.all_eq_true]
          constructor
          · have:=eG (w:=w) (c:=44)
            have e:Txt.split w ","=Txt.split w (sg 44):=rfl
            rw[decide_eq_true_eq,List.length_map,List.length_map,e]
            have:=ok.1
            omega
          · intro q hq
            obtain ⟨x,hx,rfl⟩:=List.mem_map.mp hq
            rw[List.all_eq_true] at hall
            have h2:=hall x hx
            obtain ⟨y,hy,rfl⟩:=List.mem_map.mp hx
            cases hr:aY y with
            | none=>rw[hr] at h2; cases h2
            | some d=>exact oQ hr
        · cases h
      · split at h
        · cases h
          exact ok.2
        · cases h
theorem rD:∀p∈shTbl,p.2.length≤3∧PyData.strOk p.1=true:=by decide +kernel
theorem sr {d:D} (h:bX w=some d) (ok:Okt w):pd 10 d=true:=by
  have hin:∀y∈Txt.split w " ",Okt y:=fun y hy=>eI (c:=32) ok hy
  unfold bX at h
  cases hs:Txt.split w " " with
  | nil=>rw[hs] at h; cases h
  | cons hd rest=>
    rw[hs] at h hin
    change dM hd rest=some d at h
    unfold dM at h
    split at h
    · cases h
    · rename_i z hz
      have hzs:=rD _ (bK hz)
      split at h
      · rename_i hc
        cases h
        unfold pd
        rw[Bool.and_eq_true,List.all_eq_true]
        have hpl:(aV z rest).length≤3:=by
          unfold aV
          rw[List.length_map,List.length_zip]
          have:=hzs.1
          have:=hc.1
          simp only at *
          omega
        constructor
        · rw[decide_eq_true_eq,List.length_cons,List.length_map]
          omega
        · intro q hq
          rcases List.mem_cons.mp hq with rfl|hq
          · exact hzs.2
          · obtain ⟨x,hx,rfl⟩:=List.mem_map.mp hq
            have h2:=(List.all_eq_true.mp hc.2) x hx
            unfold aV at hx
            obtain ⟨⟨r,s⟩,hp,rfl⟩:=List.mem_map.mp hx
            have hr:Okt r:=hin r (List.mem_cons_of_mem _ (List.of_mem_zip hp).1)
            cases he:cN s r with
            | none=>rw[he] at h2; cases h2
            | some d=>exact sk he hr
      · cases h
theorem sv {rows:List Str} {j k:Nat} (h1:fe rows j) (h2:fe rows k):j=k:=by
  have key:∀ {j k:Nat},fe rows j→fe rows k→¬j<k:=by
    rintro j k ⟨p1,y1,q1,e1,rfl,g1,b1⟩ ⟨p2,y2,q2,e2,rfl,g2,b2⟩ hlt
    have a1:rows[p1.length]?=some y1:=by rw[e1]; simp
    have a2:rows[p1.length]?=p2[p1.length]?:=by rw[e2,List.getElem?_append_left hlt]
    rw[a1] at a2
    have:=g2 y1 (List.mem_of_getElem? a2.symm)
    rw[b1] at this
    cases this
  have a:=key h1 h2
  have b:=key h2 h1
  omega
theorem rE {rows:List Str} {j:Nat} (h1:fe rows j) (h2:∀y∈rows,(bX y).isSome=true):False:=by
  obtain ⟨p1,y1,q1,e1,rfl,g1,b1⟩:=h1
  have:=h2 y1 (by rw[e1]; simp)
  rw[b1] at this
  cases this
theorem pE {hd:Hdr} {r:Res D} {Q:D→Sto→Prop} {E:XV→Sto→Prop} (h:Res.wp r Q (fun x S=>∃d,hd x.cls x.fs=some d∧Q d S)):Res.wp (jm hd r) Q E:=by
  cases r with
  | ok d S=>
    rw[dt] at h
    show Res.wp (.ok d S) Q E
    rw[dt]
    exact h
  | exc e S=>
    rw[qL] at h
    obtain ⟨d,e1,q⟩:=h
    show Res.wp (match hd e.cls e.fs with
      | some d=>.ok d S
      | none=>.stuck) Q E
    rw[e1]
    show Res.wp (.ok d S) Q E
    rw[dt]
    exact q
  | stuck=>
    show Res.wp .stuck Q E
    simpa using h
theorem sy (k:Nat):hdK "BadText" [("row",.int (k:Nat))]=some (.tup [.str "BadText",.int (k:Nat)]):=by
  have h1:(kindsHere.contains ("BadText":Str))=true:=by decide +kernel
  have h2:cw ("BadText":Str)=[("row":Str)]:=by decide +kernel
  unfold hdK hdOf
  rw[if_pos ⟨h1,h2.symm⟩]
  rfl
theorem pF (h:Okt t) {E:XV→Sto→Prop}:Res.wp (jm hdK (eX [.str t] S)) (fun v S'=>RdR t v S'∧∃T,S'=S++T) E:=by
  refine pE (nu (sW h) ?_ ?_)
  · rintro v S' ⟨rfl,rfl,hg⟩
    exact ⟨.inl ⟨_,rfl,by simp,hg⟩,_,rfl⟩
  · rintro e S' ⟨k,T,hb,rfl,rfl⟩
    exact ⟨_,sy k,.inr ⟨k,hb,rfl⟩,_,rfl⟩
theorem bt_ok:PyData.strOk "BadText"=true:=by decide +kernel
theorem pG {T:Sto} {a b:D} (h:Okt t) (h1:RdR t a S) (h2:RdR t b (S++T)):Sme (S++T) 12 a b:=by
  rcases h1 with ⟨l,rfl,e1,g1⟩|⟨k,hb,rfl⟩
  · rcases h2 with ⟨l2,rfl,e2,_⟩|⟨k,hb,rfl⟩
    · have e1':(S++T)[l]?=some (.lst ((bu t).map fL)):=n6 e1 T
      have hfew:=jL (t:=t)
      have hl:=h.1
      refine lH (t:="list") (xs:=(bu t).map fL) (ys:=(bu t).map fL) (.inr rfl) (by simp[dI,e1']) (by simp[dI,e2]) (by simp[aq,view,view0,vt,e1']) (by simp[aq,view,view0,vt,e2]) (fun i=>by simp[fIx,view,view0,vt,e1']) (fun i=>by simp[fIx,view,view0,vt,e2]) rfl (by rw[List.length_map]; omega) fun i x y hx hy=>?_
      rw[hx] at hy
      cases hy
      have hm:=List.mem_of_getElem? hx
      obtain ⟨r,hr,rfl⟩:=List.mem_map.mp hm
      have hs:=g1 r hr
      unfold fL
      cases hd:bX r with
      | none=>rw[hd] at hs; cases hs
      | some d=>exact rC 10 d (sr hd (lD h hr))
    · exact (rE hb g1).elim
  · rcases h2 with ⟨l2,rfl,e2,g2⟩|⟨k2,hb2,rfl⟩
    · exact (rE hb g2).elim
    · rw[sv hb hb2]
      refine rC 11 _ ?_
      simp[pd,bt_ok]
end
end DL
namespace DL
open PySem PySem.Spec PyProof.Rows L2 LamX
def oddT:List Str:=["","\n"," ","fly","turn 5 ","turn  5","off 3:101\n","Turn 5","sell a 1:2 y","late 1:2 05"]
theorem sz:∀w∈oddT,w.length≤4830∧PyData.strOk w=true:=by decide +kernel
def grow:Nat→Nat
  | 0=>4830
  | n+1=>2*grow n+10
theorem s4:∀n,n≤3→grow n≤40000:=by decide
theorem grow_2:∀n,n≤2→grow n≤20000:=by decide
/-- between the turns -/
structure TuI (sc:List Int) (odd:D) (env:En) (S':Sto):Prop where
  ex:∃o T e3 e4 e5,Dr sc o∧env=[some (.ro (sc.map .int)),some (.loc 0),some odd,e3,e4,e5]∧S'=o::T
/-- between the changes -/
structure ChI (sc:List Int) (odd e3:D) (n:Nat) (env:En) (S':Sto):Prop where
  ex:∃o T t e5,Dr sc o∧env=[some (.ro (sc.map .int)),some (.loc 0),some odd,some e3,some (.str t),e5]∧S'=o::T∧t.length≤grow n∧PyData.strOk t=true
noncomputable def rF:MS:=aP (fW (cy (aB (aO 2 aG (aB (eV 1) (aB (eC (.int 4)) (aF)))) (aF))) (gV 5) (al 4 (aO 2 bc (aB (eV 1) (aB (eV 4) (aF))))))
  (sIf (cK (dO (aO 2 (bA 12) (aB (hZ hdK (aO 1 eX (aB (eV 4) (aF)))) (aB (aO 1 cg (aB (eV 4) (aF))) (aF)))))) (aw (eC (.bool false))) (bS))
theorem rG:aP (fW (cy (aB (aO 2 aG (aB (eV 1) (aB (eC (.int 4)) (aF)))) (aF))) (gV 5) (al 4 (aO 2 bc (aB (eV 1) (aB (eV 4) (aF))))))
  (sIf (cK (dO (aO 2 (bA 12) (aB (hZ hdK (aO 1 eX (aB (eV 4) (aF)))) (aB (aO 1 cg (aB (eV 4) (aF))) (aF)))))) (aw (eC (.bool false))) (bS))=rF:=rfl
theorem oR {sc:List Int} {o:O} {T:Sto} {t:Str} {odd e3:D} {e5:Option D} {R:D→Sto→Prop} {E:XV→Sto→Prop} {B C:En→Sto→Prop} (dr:Dr sc o) (hl:t.length≤4830) (ok:PyData.strOk t=true) :
    RS.wp (rF [some (.ro (sc.map .int)),some (.loc 0),some odd,some e3,some (.str t),e5] (o::T)) (TuI sc odd) R E B C:=by
  unfold rF
  simp -dsimp
  refine ak dr (by omega) (by omega) fun m o1 d1 m0 m1=>?_
  have hsm:ay m=true:=cb (by omega)
  simp -dsimp [hsm,dL]
  refine gu (f:=fun i:Nat=>D.int i) (List.range m.toNat) (fun pre _=>ChI sc odd e3 pre.length) (by simp) ⟨o1,T,t,_,d1,rfl,rfl,hl,ok⟩ ?_ ?_
  · rintro pre x rest env S' hpre ⟨o2,T2,t2,e5,d2,rfl,rfl,hl2,ok2⟩
    obtain ⟨rfl,hx⟩:=gZ hpre
    have hg:=grow_2 pre.length (by omega)
    refine ⟨_,rfl,?_⟩
    simp -dsimp
    refine pC d2 (by omega) ok2 fun o3 t3 d3 hl3 ok3=>?_
    simp -dsimp
    refine ⟨o3,T2,t3,_,d3,rfl,rfl,?_,ok3⟩
    show t3.length≤2*grow pre.length+10
    omega
  · rintro env S' ⟨o2,T2,t2,e5,d2,rfl,rfl,hl2,ok2⟩
    rw[List.length_range] at hl2
    have hg:=s4 m.toNat (by omega)
    have hok:Okt t2:=⟨by omega,ok2⟩
    simp -dsimp
    refine iU (pF hok) ?_
    rintro a _ ⟨h1,T3,rfl⟩
    simp -dsimp
    refine iU (nN hok) ?_
    rintro b _ ⟨h2,T4,rfl⟩
    have hs:=pG hok h1 h2
    unfold Sme at hs
    rw[show o2::T2++T3++T4=o2::(T2++(T3++T4)) by simp] at hs
    simp -dsimp [hs]
    exact ⟨o2,_,_,_,_,d2,rfl,rfl⟩
theorem pH (sc:List Int):Res.wp (l7 [.ro (sc.map .int)] []) (fun v _=>v=.bool true) NoE:=by
  unfold l7
  apply aW
  unfold b_law
  simp -dsimp
  refine qe fun o1 d1=>?_
  simp -dsimp [dL]
  obtain ⟨OD,hOD⟩:∃OD:D,OD=.lst (oddT.map .str):=⟨_,rfl⟩
  have hOD2:D.lst [D.str (Str.ofString ""),D.str (Str.ofString "\n"),D.str (Str.ofString " "),D.str (Str.ofString "fly"),D.str (Str.ofString "turn 5 "),D.str (Str.ofString "turn  5"),D.str (Str.ofString "off 3:101\n"),D.str (Str.ofString "Turn 5"),D.str (Str.ofString "sell a 1:2 y"),D.str (Str.ofString "late 1:2 05")]=OD:=hOD.symm
  rw[hOD2]
  refine gu (f:=fun i:Nat=>D.int i) (List.range 8) (fun _ _=>TuI sc OD) (by rfl) ⟨o1,[],_,_,_,d1,rfl,rfl⟩ ?_ ?_
  · rintro pre x rest env S' hpre ⟨o2,T,e3,e4,e5,d2,rfl,rfl⟩
    refine ⟨_,rfl,?_⟩
    simp -dsimp
    refine q7 d2 fun o3 ds d3 hdl hds=>?_
    simp -dsimp
    refine iU (nP (ds:=ds) (.inr ⟨_,rfl,by simp⟩) (by omega) hds) ?_
    rintro _ _ ⟨t0,rfl,htl,htok,T2,rfl⟩
    simp -dsimp
    rw[rG]
    have htl0:t0.length≤4830:=by
      have:ds.length*805≤6*805:=Nat.mul_le_mul hdl (Nat.le_refl _)
      omega
    generalize T++O.lst ds::T2=T3
    refine ak d3 (by omega) (by omega) fun m o4 d4 m0 m1=>?_
    by_cases hm:m=0
    · simp -dsimp [hm]
      refine ak d4 (by omega) (by omega) fun q o5 d5 q0 q1=>?_
      obtain ⟨r,hr,hrm⟩:=gh (S:=o5::T3) oddT q0 (by simpa [oddT] using q1)
      have hrt:=sz r (List.mem_of_getElem? hrm)
      rw[←hOD] at hr
      simp -dsimp [hr]
      exact oR d5 hrt.1 hrt.2
    · simp -dsimp [hm]
      exact oR d4 htl0 htok
  · rintro env S' ⟨o2,T,e3,e4,e5,d2,rfl,rfl⟩
    simp -dsimp
end DL
namespace DL
open PySem PySem.Spec PyProof.Rows L2 LamX
theorem hFx {K:PySem.W.Frag} {w:World} {h:Heap} {mg:Str→Option Value} (X:K.In h) (G:h.Ns mainGlobals mg) (c:He.SaysX hAll hFn nS hTf hEx w h K):Fx K mg where
  d_AirError:=He.glo_ok X G (c.t.d.fact 0 (f:=.glo "AirError") rfl)
  d_BadChain:=He.glo_ok X G (c.t.d.fact 1 (f:=.glo "BadChain") rfl)
  d_BadClasses:=He.glo_ok X G (c.t.d.fact 2 (f:=.glo "BadClasses") rfl)
  d_BadCount:=He.glo_ok X G (c.t.d.fact 3 (f:=.glo "BadCount") rfl)
  d_BadDay:=He.glo_ok X G (c.t.d.fact 4 (f:=.glo "BadDay") rfl)
  d_BadDeed:=He.glo_ok X G (c.t.d.fact 5 (f:=.glo "BadDeed") rfl)
  d_BadFleet:=He.glo_ok X G (c.t.d.fact 6 (f:=.glo "BadFleet") rfl)
  d_BadName:=He.glo_ok X G (c.t.d.fact 7 (f:=.glo "BadName") rfl)
  d_BadNet:=He.glo_ok X G (c.t.d.fact 8 (f:=.glo "BadNet") rfl)
  d_BadPlace:=He.glo_ok X G (c.t.d.fact 9 (f:=.glo "BadPlace") rfl)
  d_BadText:=He.glo_ok X G (c.t.d.fact 10 (f:=.glo "BadText") rfl)
  d_BadTime:=He.glo_ok X G (c.t.d.fact 11 (f:=.glo "BadTime") rfl)
  d_CannotFly:=He.glo_ok X G (c.t.d.fact 12 (f:=.glo "CannotFly") rfl)
  d_DEEDS:=He.glo_ok X G (c.t.d.fact 13 (f:=.glo "DEEDS") rfl)
  d_Left:=He.glo_ok X G (c.t.d.fact 14 (f:=.glo "Left") rfl)
  d_NoBooking:=He.glo_ok X G (c.t.d.fact 15 (f:=.glo "NoBooking") rfl)
  d_NoClass:=He.glo_ok X G (c.t.d.fact 16 (f:=.glo "NoClass") rfl)
  d_NoDuty:=He.glo_ok X G (c.t.d.fact 17 (f:=.glo "NoDuty") rfl)
  d_NoKind:=He.glo_ok X G (c.t.d.fact 18 (f:=.glo "NoKind") rfl)
  d_NoLeg:=He.glo_ok X G (c.t.d.fact 19 (f:=.glo "NoLeg") rfl)
  d_NoPlane:=He.glo_ok X G (c.t.d.fact 20 (f:=.glo "NoPlane") rfl)
  d_NoSeat:=He.glo_ok X G (c.t.d.fact 21 (f:=.glo "NoSeat") rfl)
  d_NoWay:=He.glo_ok X G (c.t.d.fact 22 (f:=.glo "NoWay") rfl)
  d_SHAPES:=He.glo_ok X G (c.t.d.fact 23 (f:=.glo "SHAPES") rfl)
  d_Taken:=He.glo_ok X G (c.t.d.fact 24 (f:=.glo "Taken") rfl)
  d_Unmended:=He.glo_ok X G (c.t.d.fact 25 (f:=.glo "Unmended") rfl)
  d__law_deeds:=He.glo_ok X G (c.t.d.fact 26 (f:=.glo "_law_deeds") rfl)
  d__law_drawn:=He.glo_ok X G (c.t.d.fact 27 (f:=.glo "_law_drawn") rfl)
  d__law_due:=He.glo_ok X G (c.t.d.fact 28 (f:=.glo "_law_due") rfl)
  d__law_kind:=He.glo_ok X G (c.t.d.fact 29 (f:=.glo "_law_kind") rfl)
  d__law_number:=He.glo_ok X G (c.t.d.fact 30 (f:=.glo "_law_number") rfl)
  d__law_part:=He.glo_ok X G (c.t.d.fact 31 (f:=.glo "_law_part") rfl)
  d__law_ride:=He.glo_ok X G (c.t.d.fact 32 (f:=.glo "_law_ride") rfl)
  d__law_same:=He.glo_ok X G (c.t.d.fact 33 (f:=.glo "_law_same") rfl)
  d__law_spoilt:=He.glo_ok X G (c.t.d.fact 34 (f:=.glo "_law_spoilt") rfl)
  d__law_start:=He.glo_ok X G (c.t.d.fact 35 (f:=.glo "_law_start") rfl)
  d_deed_of:=He.glo_ok X G (c.t.d.fact 36 (f:=.glo "deed_of") rfl)
  d_is_number:=He.glo_ok X G (c.t.d.fact 37 (f:=.glo "is_number") rfl)
  d_is_part:=He.glo_ok X G (c.t.d.fact 38 (f:=.glo "is_part") rfl)
  d_is_ride:=He.glo_ok X G (c.t.d.fact 39 (f:=.glo "is_ride") rfl)
  d_need_deeds:=He.glo_ok X G (c.t.d.fact 40 (f:=.glo "need_deeds") rfl)
  d_number_of:=He.glo_ok X G (c.t.d.fact 41 (f:=.glo "number_of") rfl)
  d_part_of:=He.glo_ok X G (c.t.d.fact 42 (f:=.glo "part_of") rfl)
  d_part_word:=He.glo_ok X G (c.t.d.fact 43 (f:=.glo "part_word") rfl)
  d_read:=He.glo_ok X G (c.t.d.fact 44 (f:=.glo "read") rfl)
  d_shape_of:=He.glo_ok X G (c.t.d.fact 45 (f:=.glo "shape_of") rfl)
  d_written:=He.glo_ok X G (c.t.d.fact 46 (f:=.glo "written") rfl)
  i_MOST_DAY:=He.int_ok X G (c.t.d.fact 47 (f:=.int "MOST_DAY" 60) rfl)
  i_MOST_FIGURES:=He.int_ok X G (c.t.d.fact 48 (f:=.int "MOST_FIGURES" 6) rfl)
  i_MOST_NUMBER:=He.int_ok X G (c.t.d.fact 49 (f:=.int "MOST_NUMBER" 9999) rfl)
  n_ValueError:=He.free_ok X G (c.t.d.fact 50 (f:=.free "ValueError") rfl)
  n_all:=He.free_ok X G (c.t.d.fact 51 (f:=.free "all") rfl)
  n_bool:=He.free_ok X G (c.t.d.fact 52 (f:=.free "bool") rfl)
  n_enumerate:=He.free_ok X G (c.t.d.fact 53 (f:=.free "enumerate") rfl)
  n_int:=He.free_ok X G (c.t.d.fact 54 (f:=.free "int") rfl)
  n_isinstance:=He.free_ok X G (c.t.d.fact 55 (f:=.free "isinstance") rfl)
  n_len:=He.free_ok X G (c.t.d.fact 56 (f:=.free "len") rfl)
  n_list:=He.free_ok X G (c.t.d.fact 57 (f:=.free "list") rfl)
  n_range:=He.free_ok X G (c.t.d.fact 58 (f:=.free "range") rfl)
  n_str:=He.free_ok X G (c.t.d.fact 59 (f:=.free "str") rfl)
  n_tuple:=He.free_ok X G (c.t.d.fact 60 (f:=.free "tuple") rfl)
  n_zip:=He.free_ok X G (c.t.d.fact 61 (f:=.free "zip") rfl)
  s_FIGURES:=He.str_ok X G (c.t.d.fact 62 (f:=.str "FIGURES" "0123456789") rfl)
  s_LETTERS:=He.str_ok X G (c.t.d.fact 63 (f:=.str "LETTERS" "abcdefghijklmnopqrstuvwxyz") rfl)
  s_MEND:=He.str_ok X G (c.t.d.fact 64 (f:=.str "MEND" "n") rfl)
  e_BadDeed:=le (He.ba (He.ba c.more).2).1
  e_BadText:=le (He.ba (He.ba (He.ba c.more).2).2).1
theorem hGx {P:Program} {K:PySem.W.Frag} {w:World} {h base:Heap} {mg:Str→Option Value} (X:K.In h) (G:h.Ns mainGlobals mg) (c:He.SaysX hAll hFn nS hTf hEx w h K) (tb:∀p∈hTf.map (He.cT K),TabB base mg p.1 p.2):Gx P w K mg base where
  fx:=hFx X G c
  t_DEEDS:=kdF_of (c.t.tab 0 (t:=(fun K=>He.ga K "DEEDS",["fly","sell","back","away","late","off","kind","turn","mend"])) rfl) (He.ba (He.ba (He.ba (He.ba c.more).2).2).2).1
  s_SHAPES:=kdS_of (c.t.tab 1 (t:=(fun K=>He.ga K "SHAPES",["fly","sell","back","away","late","off","kind","turn"])) rfl) (He.ba (He.ba (He.ba (He.ba (He.ba c.more).2).2).2).2).1
  kx:=oZ X G (He.ba (He.ba c.more).1).1 (fun y hy=>c.t.d.facts (List.mem_append_right _ (List.mem_append_left _ (List.mem_append_left _ (List.mem_map.mpr ⟨y,hy,rfl⟩)))))
    (c.t.d.facts (List.mem_append_right _ (List.mem_append_left _ (List.mem_append_right _ (List.mem_singleton.mpr rfl))))) (fun C hC=>c.t.d.facts (List.mem_append_right _ (List.mem_append_right _ (List.mem_map.mpr ⟨C,hC,rfl⟩))))
  tb:=fun p hp=>tb _ (List.mem_map.mpr ⟨p.1,List.mem_map.mpr ⟨p,hp,rfl⟩,rfl⟩)
  tm:=(jn (He.ba (He.ba c.more).1).2).1
  tu:=(jn (He.ba (He.ba c.more).1).2).2
  f_BadText_init__:=c.t.d.def_ 0 (d:=df) rfl
  f_shape_of:=c.t.d.def_ 1 (d:=d_shape_of) rfl
  f_is_number:=c.t.d.def_ 2 (d:=d_is_number) rfl
  f_is_ride:=c.t.d.def_ 3 (d:=d_is_ride) rfl
  f_is_part:=c.t.d.def_ 4 (d:=d_is_part) rfl
  f_number_of:=c.t.d.def_ 5 (d:=d_number_of) rfl
  f_part_of:=c.t.d.def_ 6 (d:=d_part_of) rfl
  f_deed_of:=c.t.d.def_ 7 (d:=d_deed_of) rfl
  f_read:=c.t.d.def_ 8 (d:=d_read) rfl
  f_law_number:=c.t.d.def_ 9 (d:=fw) rfl
  f_law_ride:=c.t.d.def_ 10 (d:=iX) rfl
  f_law_part:=c.t.d.def_ 11 (d:=iY) rfl
  f_law_due:=c.t.d.def_ 12 (d:=jb) rfl
  f_law_kind:=c.t.d.def_ 13 (d:=iZ) rfl
  f_law_same:=c.t.d.def_ 14 (d:=ic) rfl
  f_law_drawn:=c.t.d.def_ 15 (d:=g5) rfl
  f_law_spoilt:=c.t.d.def_ 16 (d:=fz) rfl
  f_law_deeds:=c.t.d.def_ 17 (d:=g6) rfl
  f_part_word:=c.t.d.def_ 18 (d:=d_part_word) rfl
  f_BadDeed_init__:=c.t.d.def_ 19 (d:=dg) rfl
  f_need_deeds:=c.t.d.def_ 20 (d:=d_need_deeds) rfl
  f_written:=c.t.d.def_ 21 (d:=d_written) rfl
  f_law_start:=c.t.d.def_ 22 (d:=g7) rfl
  f_law:=c.t.d.def_ 23 (d:=pK) rfl
/-- THE ROW,from what the law's mirror gives at each script -/
theorem row_of (hLaw:∀ns:List Int,ns.length≤63→(∀z∈ns,Builtin.Int.intBits z≤1048576)→∃S,l7 [.ro (ns.map .int)] []=.ok (.bool true) S):PySem.Challenge.rw_airhouse_k20_texts_refused.Holds:=by
  w_on; o_law
  refine HandSHeadRun.head_any (r:=PySem.W.OpenLaw.row PySem.Challenge.rw_airhouse_k20_texts_refused) (q:=PySem.W.view (PySem.W.OpenLaw.row PySem.Challenge.rw_airhouse_k20_texts_refused).prog [58]) (H:=hHk) (ob:=hOb) (M:=20000) (loose:=eK) (d:=HandSHeadRun.topDef (PySem.W.OpenLaw.row PySem.Challenge.rw_airhouse_k20_texts_refused).prog 58) (kwd:=[]) hOb_eq
    (by kernel_rfl) (fun s=>by kernel_rfl) hRun (by kernel_rfl) (by kernel_rfl) (by kernel_rfl) (by rfl) (by first|assumption|decide +kernel) (by decide +kernel) ⟨rfl,rfl,rfl,rfl,rfl,by decide +kernel⟩ ?hw ?hc
  case hw=>w_witness2
  case hc=>
    refine LamX.walk_ofTsE (l:=PySem.Challenge.rw_airhouse_k20_texts_refused) (n:=63) (k:=16) (x:="_law_script") (CX:=fun w=>L2N.CX PySem.Challenge.rw_airhouse_k20_texts_refused.prog w) rfl (by decide) (by kernel_rfl) ⟨rfl,by decide,by decide⟩ ?F (fun _ _ _ _ _ z=>pq z)
    intro w mg fa h Y G hmg0
    obtain ⟨K,KX,c⟩:=Y
    have hmg:mg ("law":PySem.Str)=some (.ref fa):=by
      have e:(HandSHeadRun.topDef (PySem.W.OpenLaw.row PySem.Challenge.rw_airhouse_k20_texts_refused).prog 58).name=("law":PySem.Str):=by kernel_rfl
      rw[←e]
      exact hmg0
    obtain ⟨fd,F⟩:=c.t.d.def_ 23 (d:=pK) rfl
    have e:=hmg.symm.trans (He.glo_ok KX G (c.t.d.fact 65 (f:=.glo "law") rfl))
    cases e
    have b:=FunD.bindsA (ps:=["_law_script"]) F fun _ _ _ _ _ _ us hl=>match us,hl with|[_],_=>rfl
    refine ⟨K,KX,fd,hTf.map (He.cT K),spD K mg 1 l7,fun p hp=>?_,fun p hp=>?_,fun p hp=>?_,fun s v=>b s [v] rfl,fun H a ns hl hbits hH hS=>?_,fun base KB GB TB=>(ok_law (hGx KX G c TB) F).ok⟩
    · obtain ⟨q,hq,rfl⟩:=List.mem_map.mp hp
      exact c.empty q hq
    · obtain ⟨q,hq,rfl⟩:=List.mem_map.mp hp
      exact c.out q hq
    · obtain ⟨q,hq,rfl⟩:=List.mem_map.mp hp
      exact PySem.W.codeHd_of_K KX (c.hd q hq)
    · refine pz hS (fun p hp=>?_) (hLaw ns hl hbits)
      obtain ⟨q,hq,rfl⟩:=List.mem_map.mp hp
      exact hH (He.cT K q.1) (List.mem_map.mpr ⟨q.1,List.mem_map.mpr ⟨q,hq,rfl⟩,rfl⟩)
end DL
namespace DL
open PySem PySem.Spec PyProof.Rows L2 LamX
theorem rH {α:Type} {r:Res α} {v:α} (h:Res.wp r (fun a _=>a=v) NoE):∃S,r=.ok v S:=by
  cases r with
  | ok a S=>rw[dt] at h; exact ⟨S,by rw[h]⟩
  | exc e S=>simp at h
  | stuck=>simp at h
end DL
open DL in
theorem PySem.Challenge.cw_airhouse_k20_texts_refused_holds : PySem.Challenge.rw_airhouse_k20_texts_refused.Holds := by
  exact row_of fun ns _ _ => rH (pH ns)
