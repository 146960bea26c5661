import PyProof.Rows.All
import Wide.All
import OpenK.AllK
import Wide.FinOn
import HandS.Lambda
import HandS.HeadHook4
import HandS.Words
import KE.KStateDown
import HandS.Head0
import HandS.Head1
import HandS.Head2
import HandS.HeadEnd
import HandS.HeadWalk
import HandS.ForMost
import HandS.ForExc
import HandS.TupAny
import HandS.Flow
import HandS.Deep
import HandS.Zip
import KE.GoesEnum
import HandS.ExcCtx
import HandS.ExcInit
import HandS.CallSlots
import HandS.IsInst
import KE.SortData
import HandS.Small
import HandS.Style
import HandS.DictComp
import KE.KDictPairs
import HandS.SortInts
import HandS.ExcOwn
import HandS.ExcIs
import HandS.ExcField
import OpenK.KDescr
import HandS.Defaults
import KE.SortKeyHeap
import HandS.SortKw
import HandS.Iter
import HandS.Comp
import HandS.RaiseMore
import HandS.SetKeys
import HandS.MakeKwOnly
import KE.DataMinMax
import KE.KLam
import HandS.Exc
import HandS.ClsMeth
import PyProof.MaxThree
import HandS.Flt
import HandS.ListItems
import HandS.DictTup
import HandS.Strs
import HandS.TryOnly
import HandS.More
import PyProof.Rows.StrMeet
import HandS.Finally
import HandS.SuiteRaise
import HandS.HotCalls
import HandS.Hot
import PyProof.CollectIter
import HandS.HeadHook3
import KE.KDictCopyH
import PyProof.NeKinds
import HandS.NoneIn
import HandS.ListEq
import HandS.DeepEq
import KE.GoesZip
import KE.GoesMore
import KE.KDictZip
import HandS.ExcValue
import HandS.FStr
import HandS.Text
import KE.IntTextLaws
import PyProof.Rows.StrSplitAre
import PyProof.Rows.StrSplitJoin
import KE.KIntText
import KE.KxText
import PyProof.FitsReplace
import PyProof.StrLaws
import PyProof.StrLawsJoin
import PySem.Challenge.RW_airhouse_k19_deeds_written_and_read
set_option Elab.async false
set_option linter.all false
namespace DL
open PySem PySem.Spec PyProof.Rows L2
def lamDefs:List ((Str × Option Str) × Str):=[(("law",none),"law.<locals>.<lambda>")]
/-- their tables of code objects -/
def tbs (K:PySem.W.Frag):List (Addr × Str):=lamDefs.map fun p=>(He.tabOf K (He.codeOf K p.1),p.2)
end DL
set_option maxRecDepth 100000
namespace DL
open PySem PySem.Spec PyProof.Rows L2 LamX
def kinds:List Str:=["BadNet","BadFleet","BadClasses","BadDay","BadPlace","BadTime","BadCount","BadChain","NoDuty","NoLeg","NoPlane","NoKind","Taken","CannotFly","NoWay","NoSeat","NoClass","BadName","NoBooking","Left","Unmended","BadDeed","BadText"]
/-- the fields of the errors that have some,the last one first -/
def dX (C:Str):List Str:=
  if C="BadNet"∨C="BadFleet" then ["number","part"] else if C="BadClasses"∨C="BadDeed" then ["number"] else if C="BadText" then ["row"] else []
/-- the classes' facts,looked at -/
def excB (K:PySem.W.Frag) (D:Addr):Bool:=He.eqO (PySem.W.findIn K (.ref D) "__getattribute__") (some (some (.builtin "BaseException.__getattribute__")))&&He.eqO (PySem.W.findIn K (.ref D) "__getattr__") (some none) &&
  decide (PySem.W.subIn K (.ref D) (.type "BaseException")=some true)&&PySem.W.hasDictIn K D&&He.eqO (PySem.W.findIn K (.ref D) "__class__") (some (some (.builtin "object.__class__"))) &&
  He.eqO (PySem.W.specialIn K (.builtin "object.__class__") "__get__") (some (some (.builtin "getset_descriptor.__get__")))&&decide (PySem.W.takesIn K (.builtin "object.__class__")=some true)&&decide (PySem.W.mroIn K D (.type "object")=some true)
def lq (K:PySem.W.Frag) (cs:List Str):Bool:=(cs.all fun C=>kinds.contains C&&(kinds.all fun y=>decide (PySem.W.kitOne K (.ref (He.ga K C)) (.ref (He.ga K y))=some (decide (y=C))))&&decide (PySem.W.kitOne K (.ref (He.ga K C)) (.type "ValueError")=some true)&&excB K (He.ga K C)&&(dX C).all fun n=>He.eqO (PySem.W.findIn K (.ref (He.ga K C)) n) (some none))
def oR (K:PySem.W.Frag):Bool:=lamDefs.all fun p=>(tbs K).all fun r=>!(decide (r.1=(He.cT K p.1).2))||decide (r.2=p.2)
def clVB (K:PySem.W.Frag) (A:Addr) (m:Str) (v:Value):Bool:=PySem.W.readsIn K A (.type "type")&&He.eqO (PySem.W.specialIn K (.ref A) "__getattribute__") (some (some (.builtin "type.__getattribute__"))) &&
  (match PySem.W.findCls K (.ref A) (.type "type") m with
  | some (.val u)=>decide (u=v)
  | _=>false)
def oexB (K:PySem.W.Frag) (C:Addr):Bool:=(match K.lookup C with
  | some ⟨.type "type",_,.cls cd,sl⟩=>(match cd.mro,sl.toList with
    | .ref C'::bm,[_,_,_,_,some (.builtin n),_]=>C' == C&&n == "ValueError.__new__"&&!cd.hasDel&&cd.hasDict&&PySem.HandSPX.refsVE bm
    | _,_=>false)
  | _=>false)&&He.eqO (PySem.W.findIn K (.ref C) "__setattr__") (some (some (.builtin "object.__setattr__")))&&decide (PySem.W.subIn K (.ref C) (.type "BaseException")=some true)&&decide (PySem.W.typeIn K (.ref C)=some (.type "type"))&&PySem.W.keepIn K (.ref C)
def pX (K:PySem.W.Frag) (C fI A:Addr) (ns:List Str):Bool:=oexB K C&&He.eqO (PySem.W.findIn K (.ref C) "__init__") (some (some (.ref fI)))&&decide (PySem.W.typeIn K (.ref fI)=some (.type "function")) &&
  (ns.all fun n=>He.eqO (PySem.W.findIn K (.ref C) n) (some none))&&clVB K A "__init__" (.builtin "ValueError.__init__")
def kvOf (e:DictEntry):Option (Str × Int):=match e.key,e.val with
  | .str x _,.int i _=>some (x,i)
  | _,_=>none
def kdVB (K:PySem.W.Frag) (a:Addr) (tbl:List (Str × Int)):Bool:=match K.lookup a with
  | some ⟨_,_,.dict es _,_⟩=>decide (es.toList.map kvOf=tbl.map some)
  | _=>false
end DL
namespace DL
open PySem
def kvS (e:DictEntry):Option (Str × Str):=match e.key,e.val with
  | .str x _,.str y _=>some (x,y)
  | _,_=>none
def kdSB (K:PySem.W.Frag) (a:Addr) (tbl:List (Str × Str)):Bool:=match K.lookup a with
  | some ⟨_,_,.dict es _,_⟩=>decide (es.toList.map kvS=tbl.map some)
  | _=>false
end DL
namespace DL
open PySem PySem.Spec PyProof.Rows L2 He
def valsF (g:Addr→Option Obj) (n:Addr):List Addr:=match g n with
  | some ⟨_,_,.dict es _,_⟩=>es.toList.flatMap fun e=>refV e.val
  | _=>[]
def nsF (g:Addr→Option Obj) (a:Addr):List Addr:=match g a with
  | some ⟨_,_,.cls cd,_⟩=>[cd.ns]
  | _=>[]
def cdF (g:Addr→Option Obj) (a:Addr):List Addr:=match g a with
  | some ⟨_,_,.func fd,_⟩=>refV fd.code++(refV fd.kwdefaults++refV fd.defaults)
  | _=>[]
def asF (g:Addr→Option Obj):List Addr:=
  (fun gl=>(fun ns=>(fun ms=>mainGlobals::cStatics::(gl++(ns++(ms++(gl++ms).flatMap (cdF g))))) (ns.flatMap (valsF g))) (gl.flatMap (nsF g))) (valsF g mainGlobals)
def obsF (fa:List Fa) (fn:List DefD) (ts:List Tab) (tf:List Defn) (ex:PySem.W.Frag→Bool) (g:Addr→Option Obj):AlX:=(fun K=>(obsT fa fn ts K,ex K&&tabsB g tf K)) (frT g (asF g))
theorem rJ {fa:List Fa} {fn:List DefD} {ts:List Tab} {tf:List Defn} {ex:PySem.W.Frag→Bool} {w:World} {h:Heap} (e:obsF fa fn ts tf ex h.get?=valX fn ts w):SaysX fa fn ts tf ex w h (frT h.get? (asF h.get?)):=by
  have e1:obsT fa fn ts (frT h.get? (asF h.get?))=valT fn ts w:=congrArg (fun z:AlX=>z.1) e
  have e2:(ex (frT h.get? (asF h.get?))&&tabsB h.get? tf (frT h.get? (asF h.get?)))=true:=congrArg (fun z:AlX=>z.2) e
  obtain ⟨h1,h2⟩:=ba e2
  have key:∀p∈tf,PySem.W.codeHdIn (frT h.get? (asF h.get?)) (cT (frT h.get? (asF h.get?)) p).1 (cT (frT h.get? (asF h.get?)) p).2=true∧∃o,h.get? (cT (frT h.get? (asF h.get?)) p).2=some o∧emptyTab o=true:=fun p hp=>by
    obtain ⟨h3,h4⟩:=ba (List.all_eq_true.mp h2 p hp)
    refine ⟨h3,?_⟩
    cases q:h.get? (cT (frT h.get? (asF h.get?)) p).2 with
    | none=>
      rw[q] at h4
      cases h4
    | some o=>
      rw[q] at h4
      exact ⟨o,rfl,h4⟩
  exact ⟨e1,h1,fun p hp=>(key p hp).1,fun p hp=>by
    obtain ⟨_,o,q,z⟩:=key p hp
    exact frT_none q z,fun p hp=>by
    obtain ⟨_,o,q,z⟩:=key p hp
    rw[q,emptyTab_eq z]⟩
def hookF (fa:List Fa) (fn:List DefD) (ts:List Tab) (tf:List Defn) (ex:PySem.W.Frag→Bool):PySem.W.Hook where
  α:=AlX
  obs:=fun s=>obsF fa fn ts tf ex s.heap.get?
  val:=fun w=>valX fn ts w
  says:=fun w h=>∃K:PySem.W.Frag,K.In h∧SaysX fa fn ts tf ex w h K
  of:=fun _ _ e=>⟨_,frT_in,rJ e⟩
  keeps:=fun _ _ _ ⟨K,hK,c⟩ k=>⟨K,PySem.W.Frag.In.keeps hK k,⟨c.t,c.more,c.hd,c.out,fun p hp=>k _ _ (c.empty p hp)⟩⟩
theorem t5 {fa:List Fa} {fn:List DefD} {ts:List Tab} {tf:List Defn} {ex:PySem.W.Frag→Bool} {g:Addr→Option Obj} {s:Shared} (h:∀a,g a=s.heap.get? a):obsF fa fn ts tf ex g=(hookF fa fn ts tf ex).obs s:=by
  have e:g=s.heap.get?:=funext h
  rw[e]<;>rfl
end DL
namespace DL
open PySem PySem.Spec PyProof.Rows L2 LamX
abbrev top (i:Nat):Stmt:=PySem.Challenge.pw_airhouse_k19_deeds_written_and_read.main.body.getD i (.Pass ⟨0,0,0,0⟩)
/-- the errors that are raised -/
def kindsHere:List Str:=["BadDeed","BadText"]
end DL
set_option maxHeartbeats 0
namespace DL
open PySem PySem.Spec PyProof.Rows L2 LamX
def d_part_word:He.DefD:=⟨("part_word",none),"part_word","part_word",defArgs (top 41),defBody (top 41),defScope (top 41),[],[]⟩
def d_is_number:He.DefD:=⟨("is_number",none),"is_number","is_number",defArgs (top 29),defBody (top 29),defScope (top 29),[],[]⟩
def d_is_ride:He.DefD:=⟨("is_ride",none),"is_ride","is_ride",defArgs (top 39),defBody (top 39),defScope (top 39),[],[]⟩
def d_is_part:He.DefD:=⟨("is_part",none),"is_part","is_part",defArgs (top 40),defBody (top 40),defScope (top 40),[],[]⟩
def eu:He.DefD:=⟨("BadDeed",some "__init__"),"__init__","BadDeed.__init__",defArgs (inClass (top 23) 0),defBody (inClass (top 23) 0),defScope (inClass (top 23) 0),[],[]⟩
def d_shape_of:He.DefD:=⟨("shape_of",none),"shape_of","shape_of",defArgs (top 38),defBody (top 38),defScope (top 38),[],[]⟩
def d_need_deeds:He.DefD:=⟨("need_deeds",none),"need_deeds","need_deeds",defArgs (top 32),defBody (top 32),defScope (top 32),[],[]⟩
def d_written:He.DefD:=⟨("written",none),"written","written",defArgs (top 42),defBody (top 42),defScope (top 42),[],[]⟩
def jl:He.DefD:=⟨("_law_kind",none),"_law_kind","_law_kind",defArgs (top 51),defBody (top 51),defScope (top 51),[],[]⟩
def jm:He.DefD:=⟨("_law_same",none),"_law_same","_law_same",defArgs (top 50),defBody (top 50),defScope (top 50),[],[]⟩
def jn:He.DefD:=⟨("_law_text",none),"_law_text","_law_text",defArgs (top 53),defBody (top 53),defScope (top 53),[],[]⟩
def m5:He.DefD:=⟨("_law_is",none),"_law_is","_law_is",defArgs (top 54),defBody (top 54),defScope (top 54),[],[]⟩
def gm:He.DefD:=⟨("_law_is_ride",none),"_law_is_ride","_law_is_ride",defArgs (top 55),defBody (top 55),defScope (top 55),[],[]⟩
def jo:He.DefD:=⟨("_law_fits",none),"_law_fits","_law_fits",defArgs (top 56),defBody (top 56),defScope (top 56),[],[]⟩
def k6:He.DefD:=⟨("_law_bad",none),"_law_bad","_law_bad",defArgs (top 57),defBody (top 57),defScope (top 57),[],[]⟩
def i9:He.DefD:=⟨("_law_drawn",none),"_law_drawn","_law_drawn",defArgs (top 49),defBody (top 49),defScope (top 49),[],[]⟩
def jA:He.DefD:=⟨("_law_other",none),"_law_other","_law_other",defArgs (top 58),defBody (top 58),defScope (top 58),[],[]⟩
def e9:He.DefD:=⟨("BadText",some "__init__"),"__init__","BadText.__init__",defArgs (inClass (top 24) 0),defBody (inClass (top 24) 0),defScope (inClass (top 24) 0),[],[]⟩
def d_number_of:He.DefD:=⟨("number_of",none),"number_of","number_of",defArgs (top 43),defBody (top 43),defScope (top 43),[],[]⟩
def d_part_of:He.DefD:=⟨("part_of",none),"part_of","part_of",defArgs (top 44),defBody (top 44),defScope (top 44),[],[]⟩
def d_deed_of:He.DefD:=⟨("deed_of",none),"deed_of","deed_of",defArgs (top 45),defBody (top 45),defScope (top 45),[],[]⟩
def d_read:He.DefD:=⟨("read",none),"read","read",defArgs (top 46),defBody (top 46),defScope (top 46),[],[]⟩
def jB:He.DefD:=⟨("_law_deeds",none),"_law_deeds","_law_deeds",defArgs (top 52),defBody (top 52),defScope (top 52),[],[]⟩
def jC:He.DefD:=⟨("_law_start",none),"_law_start","_law_start",defArgs (top 48),defBody (top 48),defScope (top 48),[],[]⟩
def rK:He.DefD:=⟨("law",none),"law","law",defArgs (top 59),defBody (top 59),defScope (top 59),[],[]⟩
def hFn0:List He.DefD:=[d_part_word,d_is_number,d_is_ride,d_is_part,eu,d_shape_of,d_need_deeds,d_written,jl,jm,jn,m5,gm,jo,k6,i9,jA,e9,d_number_of,d_part_of,d_deed_of,d_read,jB,jC,rK]
def hFn:List He.DefD:=hFn0
def hFa0:List He.Fa:=[.glo "AirError",.glo "BadChain",.glo "BadClasses",.glo "BadCount",.glo "BadDay",.glo "BadDeed",.glo "BadFleet",.glo "BadName",.glo "BadNet",.glo "BadPlace",.glo "BadText",.glo "BadTime",.glo "CannotFly",.glo "DEEDS",.glo "Left",.glo "NoBooking",.glo "NoClass",.glo "NoDuty",.glo "NoKind",.glo "NoLeg",.glo "NoPlane",.glo "NoSeat",.glo "NoWay",.glo "SHAPES",.glo "Taken",.glo "Unmended",.glo "_law_bad",.glo "_law_deeds",.glo "_law_drawn",.glo "_law_fits"]
def hFa1:List He.Fa:=[.glo "_law_is",.glo "_law_is_ride",.glo "_law_kind",.glo "_law_other",.glo "_law_same",.glo "_law_start",.glo "_law_text",.glo "deed_of",.glo "is_number",.glo "is_part",.glo "is_ride",.glo "need_deeds",.glo "number_of",.glo "part_of",.glo "part_word",.glo "read",.glo "shape_of",.glo "written",.int "MOST_DAY" 60,.int "MOST_FIGURES" 6,.int "MOST_NUMBER" 9999,.free "ValueError",.free "all",.free "bool",.free "enumerate",.free "int",.free "isinstance",.free "len",.free "list",.free "range"]
def hFa2:List He.Fa:=[.free "str",.free "tuple",.free "zip",.str "FIGURES" "0123456789",.str "LETTERS" "abcdefghijklmnopqrstuvwxyz",.str "MEND" "n",.glo "law"]
def hFa:List He.Fa:=hFa0++hFa1++hFa2
def hKinds:List He.Fa:=kinds.map .glo++[.glo "AirError"]++kindsHere.map fun C=>.exm C "AirError" true
def hAll:List He.Fa:=hFa++hKinds
def t6:List Str:=["__name__","AirError","BadNet","BadFleet","BadClasses","BadDay","BadPlace","BadTime","BadCount","BadChain","NoDuty","NoLeg","NoPlane","NoKind","Taken","CannotFly","NoWay","NoSeat","NoClass","BadName","NoBooking","Left","Unmended","BadDeed","BadText","MOST_DAY","MOST_NUMBER","LETTERS","is_number","DEEDS"]
def t7:List Str:=["need_deeds","FIGURES","MOST_FIGURES","SHAPES","MEND","shape_of","is_ride","is_part","part_word","written","number_of","part_of","deed_of","read","_law_start","_law_drawn","_law_same","_law_kind","_law_deeds","_law_text","_law_is","_law_is_ride","_law_fits","_law_bad","_law_other"]
def fS:List Str:=t6++t7
def hTf:List He.Defn:=lamDefs.map (·.1)
def pY:List He.Tab:=[(fun K=>He.ga K "DEEDS",["fly","sell","back","away","late","off","kind","turn","mend"]),(fun K=>He.ga K "SHAPES",["fly","sell","back","away","late","off","kind","turn"])]
def hOwn (K:PySem.W.Frag):Bool:=pX K (He.ga K "BadDeed") (He.ma K (He.ga K "BadDeed") "__init__") (He.ga K "AirError") ["number"]&&(pX K (He.ga K "BadText") (He.ma K (He.ga K "BadText") "__init__") (He.ga K "AirError") ["row"]&&(kdVB K (He.ga K "DEEDS") [("fly",2),("sell",3),("back",1),("away",1),("late",2),("off",1),("kind",2),("turn",1),("mend",1)]&&(kdSB K (He.ga K "SHAPES") [("fly","rw"),("sell","wvw"),("back","n"),("away","n"),("late","rn"),("off","r"),("kind","ww"),("turn","n")]&&true)))
def hEx (K:PySem.W.Frag):Bool:=(lq K kindsHere&&oR K)&&hOwn K
abbrev hR:PySem.W.OpenRow:=PySem.W.OpenLaw.row PySem.Challenge.rw_airhouse_k19_deeds_written_and_read
abbrev hHk:PySem.W.Hook:=hookF hAll hFn pY hTf hEx
def hOb (s:PySem.W.SharedT):He.AlX:=obsF hAll hFn pY hTf hEx (HandSHeadRun.getT s)
theorem hOb_eq (s:PySem.W.SharedT):hOb s=hHk.obs s.abs:=t5 (HandSHeadRun.getT_eq s)
theorem rL {σ α β γ:Type} {o:Option σ} {f:σ→α} {g:σ→β} {k:σ→γ} {a:α} {b:β} {c:γ} (h1:o.map (fun s=>(f s,g s))=some (a,b)) (h3:o.map k=some c):o.map (fun s=>(f s,g s,k s))=some (a,b,c):=by
  cases o with
  | none=>cases h1
  | some s=>cases h1; cases h3; rfl
theorem hPair {σ α β:Type} {o:Option σ} {f:σ→α × β} {v:α × β} (h1:o.map (fun s=>(f s).1)=some v.1) (h2:o.map (fun s=>(f s).2)=some v.2):o.map (fun s=>f s)=some v:=by
  cases o with
  | none=>cases h1
  | some s=>exact congrArg some (Prod.ext (Option.some.inj h1) (Option.some.inj h2))
open HandSHeadRun PySem.W in
theorem hRunA0 (w:World) (os:OsState):(endF (stepQ (denQ tabQ) hR.prog (w.withFollow "special-get-raises" false)) 20000 hR.prog (w.withFollow "special-get-raises" false) os).map (fun s=>(looksF hR.prog (boot_heap (w.withFollow "special-get-raises" false).params) s.abs,seenQ (PySem.W.view hR.prog [59]) fS (importedModules hR.prog.main.body) (fun s=>xlAt (PySem.W.view hR.prog [59]) [] s&&recOk hR.toRowW.records s) s.abs))=some (true,openGood (PySem.W.view hR.prog [59]) fS):=by
  kernel_rfl
open HandSHeadRun PySem.W in
theorem hRunB0 (w:World) (os:OsState):(endF (stepQ (denQ tabQ) hR.prog (w.withFollow "special-get-raises" false)) 20000 hR.prog (w.withFollow "special-get-raises" false) os).map (fun s=>(hOb s).1)=some ((hHk.val (w.withFollow "special-get-raises" false)).1):=by
  kernel_rfl
open HandSHeadRun PySem.W in
theorem hRunD0 (w:World) (os:OsState):(endF (stepQ (denQ tabQ) hR.prog (w.withFollow "special-get-raises" false)) 20000 hR.prog (w.withFollow "special-get-raises" false) os).map (fun s=>(hOb s).2)=some ((hHk.val (w.withFollow "special-get-raises" false)).2):=by
  kernel_rfl
open HandSHeadRun PySem.W in
theorem hRunC0 (w:World) (os:OsState):(endF (stepQ (denQ tabQ) hR.prog (w.withFollow "special-get-raises" false)) 20000 hR.prog (w.withFollow "special-get-raises" false) os).map (fun s=>hOb s)=some (hHk.val (w.withFollow "special-get-raises" false)):=hPair (hRunB0 w os) (hRunD0 w os)
theorem hRun0 (w:World):HandSHeadRun.RunEq hR (PySem.W.view hR.prog [59]) hHk hOb 20000 fS (w.withFollow "special-get-raises" false):=fun os=>rL (hRunA0 w os) (hRunC0 w os)
open HandSHeadRun PySem.W in
theorem hRunA1 (w:World) (os:OsState):(endF (stepQ (denQ tabQ) hR.prog (w.withFollow "special-get-raises" true)) 20000 hR.prog (w.withFollow "special-get-raises" true) os).map (fun s=>(looksF hR.prog (boot_heap (w.withFollow "special-get-raises" true).params) s.abs,seenQ (PySem.W.view hR.prog [59]) fS (importedModules hR.prog.main.body) (fun s=>xlAt (PySem.W.view hR.prog [59]) [] s&&recOk hR.toRowW.records s) s.abs))=some (true,openGood (PySem.W.view hR.prog [59]) fS):=by
  kernel_rfl
open HandSHeadRun PySem.W in
theorem hRunB1 (w:World) (os:OsState):(endF (stepQ (denQ tabQ) hR.prog (w.withFollow "special-get-raises" true)) 20000 hR.prog (w.withFollow "special-get-raises" true) os).map (fun s=>(hOb s).1)=some ((hHk.val (w.withFollow "special-get-raises" true)).1):=by
  kernel_rfl
open HandSHeadRun PySem.W in
theorem hRunD1 (w:World) (os:OsState):(endF (stepQ (denQ tabQ) hR.prog (w.withFollow "special-get-raises" true)) 20000 hR.prog (w.withFollow "special-get-raises" true) os).map (fun s=>(hOb s).2)=some ((hHk.val (w.withFollow "special-get-raises" true)).2):=by
  kernel_rfl
open HandSHeadRun PySem.W in
theorem hRunC1 (w:World) (os:OsState):(endF (stepQ (denQ tabQ) hR.prog (w.withFollow "special-get-raises" true)) 20000 hR.prog (w.withFollow "special-get-raises" true) os).map (fun s=>hOb s)=some (hHk.val (w.withFollow "special-get-raises" true)):=hPair (hRunB1 w os) (hRunD1 w os)
theorem hRun1 (w:World):HandSHeadRun.RunEq hR (PySem.W.view hR.prog [59]) hHk hOb 20000 fS (w.withFollow "special-get-raises" true):=fun os=>rL (hRunA1 w os) (hRunC1 w os)
theorem hRun (w:World):HandSHeadRun.RunEq hR (PySem.W.view hR.prog [59]) hHk hOb 20000 fS w:=
  PySem.W.byRow2 "special-get-raises" (P:=fun w=>HandSHeadRun.RunEq hR (PySem.W.view hR.prog [59]) hHk hOb 20000 fS w) hRun0 hRun1 w
end DL
namespace DL
open PySem PySem.Spec PyProof.Rows L2
inductive D where
  | none|bool (b:Bool)|int (i:Int)|str (x:Str)|ty (n:String)
  | tup (xs:List D)|lst (xs:List D)|ro (xs:List D)|loc (l:Nat)|glo (x:Str)|adr (a:Addr)|tpn (xs:List D)
  | clo (k:Nat) (b:Bool) (q:Str) (F:Value→Addr→Value→Value→Obj)
  | exn (a dd:Addr) (ns:List Str) (xs:List D)
  deriving Inhabited
inductive O where
  | lst (xs:List D)|dct (t:Bool) (kvs:List (D × D))|ins (C:Str) (fs:List (Str × D))|fdc (t:Bool) (kvs:List (D × D))
  deriving Inhabited
abbrev Sto:=List O
abbrev En:=List (Option D)
structure XV where
  cls:Str
  fs:List (Str × D)
def cy:Key→D
  | .inl i=>.int i
  | .inr x=>.str x
def fA (ks:List Key):D:=.tup (ks.map cy)
/-- where what changes stands: what is named by its place,and what is being made -/
structure Mu where
  l:List Addr
  h:List Addr
instance:Membership Addr Mu:=⟨fun μ a=>a∈μ.l∨a∈μ.h⟩
def Mu.push (μ:Mu) (p:Addr):Mu:=⟨μ.l++[p],μ.h⟩
def Mu.hide (μ:Mu) (p:Addr):Mu:=⟨μ.l,p::μ.h⟩
theorem Mu.mem {μ:Mu} {a:Addr}:a∈μ↔a∈μ.l∨a∈μ.h:=Iff.rfl
/-- the function object o stands at f -/
def FunO (f:Addr) (o:Obj):HO:=.ext fun h=>h.get? f=some o
/-- the defaults of a lambda: none,or the one number 0 -/
def DfO (b:Bool) (H:Hp) (μ:Mu) (dv:Value):Prop:=b=true→∃T,dv=.ref T∧H T=some (.tup [.int 0])∧T∉μ
section
variable (K:PySem.W.Frag) (mg:Str→Option Value)
def SeqL (μ:Mu) (H:Hp) (a:Addr) (vs:List V):Prop:=(Rd H a (.lst vs)∧a∉μ)∨SqL K (fun _=>none) a vs
mutual
def Rep (μ:Mu) (H:Hp):D→V→Prop
  | .none,v=>v=.non
  | .bool b,v=>v=.bl b
  | .int i,v=>v=.int i
  | .str x,v=>v=.str x
  | .ty n,v=>v=.ty n
  | .tup ds,v=>∃a vs,v=.ref a∧H a=some (.tup vs)∧a∉μ∧RepAll μ H ds vs
  | .lst ds,v=>∃a vs,v=.ref a∧H a=some (.lst vs)∧a∉μ∧RepAll μ H ds vs
  | .ro ds,v=>∃a vs,v=.ref a∧SeqL K μ H a vs∧RepAll μ H ds vs
  | .loc l,v=>∃a,v=.ref a∧μ.l[l]?=some a
  | .glo x,v=>∃a,v=.ref a∧mg x=some (.ref a)
  | .adr a,v=>v=.ref a
  | .tpn ds,v=>∃a vs o,v=.ref a∧(H a=some (.frz o (.tup vs))∧o.dict=none)∧a∉μ∧RepAll μ H ds vs
  | .exn a dd ns ds,v=>∃vs,v=.ref a∧H dd=some (.xd (ns.zip vs))∧dd∉μ∧RepAll μ H ds vs
  | .clo _ b q F,v=>∃f c' pm ctv dv,v=.ref f∧(H f=some (FunO f (F pm c' ctv dv))∧f∉μ)∧(H c'=some (LamX.CodeO c' q)∧c'∉μ)∧DfO b H μ dv
def RepAll (μ:Mu) (H:Hp):List D→List V→Prop
  | [],vs=>vs=[]
  | d::ds,vs=>∃v r,vs=v::r∧Rep μ H d v∧RepAll μ H ds r
end
def RepO (μ:Mu) (H:Hp):O→Addr→Prop
  | .lst ds,a=>∃vs,H a=some (.lst vs)∧RepAll K mg μ H ds vs
  | .dct false kvs,a=>∃vs,∃ks:List Key,(H a=some (.dK (ks.zip vs))∧kvs.map (·.1)=ks.map cy)∧RepAll K mg μ H (kvs.map (·.2)) vs
  | .dct true kvs,a=>∃vs,∃ks:List (List Key),(H a=some (.dT (ks.zip vs))∧kvs.map (·.1)=ks.map fA)∧RepAll K mg μ H (kvs.map (·.2)) vs
  | .ins C fs,a=>∃Ca dx vs,mg C=some (.ref Ca)∧H a=some (.ins Ca dx ((fs.map (·.1)).zip vs))∧RepAll K mg μ H (fs.map (·.2)) vs
  | .fdc false kvs,a=>∃vs,∃ks:List Key,((∃od,H a=some (.frz od (.dK (ks.zip vs))))∧kvs.map (·.1)=ks.map cy)∧RepAll K mg μ H (kvs.map (·.2)) vs
  | .fdc true kvs,a=>∃vs,∃ks:List (List Key),((∃od,H a=some (.frz od (.dT (ks.zip vs))))∧kvs.map (·.1)=ks.map fA)∧RepAll K mg μ H (kvs.map (·.2)) vs
/-- no table of code objects -/
def NTb (o:HO):Prop:=∀ps,o≠.tbl ps
/-- what may be hidden -/
def Hdn (o:HO):Prop:=(∃xs,o=.lst xs)∨(∃kvs,o=.dK kvs)∨∃kvs,o=.dT kvs
theorem Hdn.ntb {o:HO} (h:Hdn o) (ps:Array Value):o≠.tbl ps:=by
  rcases h with ⟨_,rfl⟩|⟨_,rfl⟩|⟨_,rfl⟩<;>exact nofun
theorem Hdn.nc {o:HO} (h:Hdn o) (c:Addr) (q:Str):o≠LamX.CodeO c q:=by
  unfold LamX.CodeO
  rcases h with ⟨_,rfl⟩|⟨_,rfl⟩|⟨_,rfl⟩<;>exact nofun
structure RelS (μ:Mu) (H:Hp) (S:Sto):Prop where
  len:S.length=μ.l.length
  nd:μ.l.Nodup
  dis:∀a∈μ.l,a∉μ.h
  hid:∀a∈μ.h,∃u,H a=some u∧Hdn u
  at_:∀(l:Nat) (o:O),S[l]?=some o→∃a,μ.l[l]?=some a∧RepO K mg μ H o a
  tab:LamX.Tabs (tbs K) H
structure RelE (μ:Mu) (H:Hp) (env:En) (σ:L2.St):Prop where
  len:env.length=σ.length
  at_:∀(i:Nat) (d:D),env[i]?=some (some d)→∃v,σ[i]?=some (some v)∧Rep K mg μ H d v
structure Rl (μ:Mu) (H:Hp) (env:En) (σ:L2.St) (S:Sto):Prop where
  env:RelE K mg μ H env σ
  sto:RelS K mg μ H S
def RepX (μ:Mu) (H:Hp) (e:XV) (cls:Value) (dd:Option Addr):Prop:=
  ∃C,mg e.cls=some (.ref C)∧cls=.ref C∧((e.fs=[]∧dd=none)∨e.fs≠[]∧∃d vs,dd=some d∧H d=some (.xd ((e.fs.map (·.1)).zip vs))∧RepAll K mg μ H (e.fs.map (·.2)) vs)
end
/-- what stays as code runs -/
structure StpW (μ:Mu) (H:Hp) (μ':Mu) (H':Hp):Prop where
  pre:∃t,μ'.l=μ.l++t
  new:∀a∈μ',a∈μ∨∀o,H a=some o→¬NTb o
  keep':∀a o,H a=some o→a∉μ→NTb o→H' a=some o
/-- .. what is locked among it -/
structure Stp (μ:Mu) (H:Hp) (μ':Mu) (H':Hp):Prop extends StpW μ H μ' H' where
  kf:∀a od u,H a=some (.frz od u)→H' a=some (.frz od u)
structure Step (μ:Mu) (H:Hp) (μ':Mu) (H':Hp):Prop extends Stp μ H μ' H' where
  hid:μ'.h=μ.h
  hk':∀a u,a∈μ.h→H a=some u→NTb u→H' a=some u
instance {μ μ':Mu} {H H':Hp}:Coe (Stp μ H μ' H') (StpW μ H μ' H'):=⟨Stp.toStpW⟩
theorem StpW.keep {μ μ':Mu} {H H':Hp} (s:StpW μ H μ' H') (a:Addr) (o:HO) (h:H a=some o) (n:a∉μ) (t:NTb o:=by exact fun _ z=>nomatch z):H' a=some o:=s.keep' a o h n t
theorem Step.hk {μ μ':Mu} {H H':Hp} (s:Step μ H μ' H') (a:Addr) (u:HO) (h:a∈μ.h) (e:H a=some u) (t:NTb u:=by exact fun _ z=>nomatch z):H' a=some u:=s.hk' a u h e t
def Sm (H H':Hp):Prop:=∀b o,H b=some o→H' b=some o
theorem Sm.rfl {H:Hp}:Sm H H:=fun _ _ h=>h
theorem Sm.trans {H H1 H2:Hp} (a:Sm H H1) (b:Sm H1 H2):Sm H H2:=fun c o h=>b c o (a c o h)
theorem Sm.upd {H:Hp} {p:Addr} {o:HO} (h:H p=none):Sm H (upd H p o):=fun b u e=>by
  rw[upd_ne (ne_of_none e h)]; exact e
section
variable {μ μ' μ2:Mu} {H H' H2:Hp}
theorem Stp.refl:Stp μ H μ H:=⟨⟨⟨[],by simp⟩,fun _ h=>.inl h,fun _ _ h _ _=>h⟩,fun _ _ _ h=>h⟩
theorem Step.refl:Step μ H μ H:=⟨.refl,rfl,fun _ _ _ h _=>h⟩
theorem Step.of_sm (s:Sm H H'):Step μ H μ H':=⟨⟨⟨⟨[],by simp⟩,fun _ h=>.inl h,fun a o h _ _=>s a o h⟩,fun a _ _ h=>s a _ h⟩,rfl,fun a u _ h _=>s a u h⟩
theorem StpW.notin (s:StpW μ H μ' H') {a:Addr} {o:HO} (h:H a=some o) (n:a∉μ) (t:NTb o:=by exact fun _ z=>nomatch z):a∉μ':=fun z=>by
  rcases s.new a z with e|e
  · exact n e
  · exact e o h t
theorem Step.notin (s:Step μ H μ' H') {a:Addr} {o:HO} (h:H a=some o) (n:a∉μ) (t:NTb o:=by exact fun _ z=>nomatch z):a∉μ':=s.toStp.notin h n t
theorem Stp.trans (s:Stp μ H μ' H') (t:Stp μ' H' μ2 H2):Stp μ H μ2 H2:=by
  obtain ⟨x,hx⟩:=s.pre
  obtain ⟨y,hy⟩:=t.pre
  refine ⟨⟨⟨x++y,by rw[hy,hx,List.append_assoc]⟩,fun a ha=>?_,fun a o h n nt=>t.keep a o (s.keep a o h n nt) (s.notin h n nt) nt⟩,fun a od u h=>t.kf a od u (s.kf a od u h)⟩
  rcases t.new a ha with e|e
  · exact s.new a e
  · by_cases h:a∈μ
    · exact .inl h
    · exact .inr fun o q nt=>e o (s.keep a o q h nt) nt
theorem Step.trans (s:Step μ H μ' H') (t:Step μ' H' μ2 H2):Step μ H μ2 H2:=⟨s.toStp.trans t.toStp,t.hid.trans s.hid,fun a u ha h nt=>t.hk a u (by rw[s.hid]; exact ha) (s.hk a u ha h nt) nt⟩
theorem StpW.get (s:StpW μ H μ' H') {l:Nat} {a:Addr} (h:μ.l[l]?=some a):μ'.l[l]?=some a:=by
  obtain ⟨t,e⟩:=s.pre
  have hl:l<μ.l.length:=(List.getElem?_eq_some_iff.mp h).1
  rw[e,List.getElem?_append_left hl]; exact h
theorem Step.get (s:Step μ H μ' H') {l:Nat} {a:Addr} (h:μ.l[l]?=some a):μ'.l[l]?=some a:=s.toStp.get h
/-- a new one at p -/
theorem Step.new_loc {p:Addr} {o:HO} (h:H p=none):Step μ H (μ.push p) (upd H p o):=
  ⟨⟨⟨⟨[p],rfl⟩,fun a ha=>by
    rcases ha with ha|ha
    · rcases List.mem_append.mp ha with e|e
      · exact .inl (.inl e)
      · have:a=p:=by simpa using e
        subst this; exact .inr fun o q=>by rw[h] at q; cases q
    · exact .inl (.inr ha),fun a u e _ _=>(by rw[upd_ne (ne_of_none e h)]; exact e)⟩,fun a _ _ e=>(by rw[upd_ne (ne_of_none e h)]; exact e)⟩,rfl,fun a u _ e _=>by rw[upd_ne (ne_of_none e h)]; exact e⟩
theorem Stp.new_hid {p:Addr} {o:HO} (h:H p=none):Stp μ H (μ.hide p) (upd H p o):=
  ⟨⟨⟨[],by simp[Mu.hide]⟩,fun a ha=>by
    rcases ha with ha|ha
    · exact .inl (.inl ha)
    · rcases List.mem_cons.mp ha with e|e
      · subst e; exact .inr fun o q=>by rw[h] at q; cases q
      · exact .inl (.inr e),fun a u e _ _=>(by rw[upd_ne (ne_of_none e h)]; exact e)⟩,fun a _ _ e=>(by rw[upd_ne (ne_of_none e h)]; exact e)⟩
/-- not locked -/
def NF (H:Hp) (p:Addr):Prop:=∀od u,H p≠some (.frz od u)
theorem NF.of {H:Hp} {p:Addr} {w:HO} (h:H p=some w) (hw:∀od u,w≠.frz od u:=by exact fun _ _ z=>nomatch z):NF H p:=fun od u z=>by
  rw[h] at z; exact hw od u (Option.some.inj z)
theorem NF.ne {H:Hp} {p b:Addr} {od:Obj} {u:HO} (n:NF H p) (e:H b=some (.frz od u)):b≠p:=fun z=>n od u (z▸e)
theorem Hdn.nf {H:Hp} {p:Addr} {u:HO} (e:H p=some u) (h:Hdn u):NF H p:=.of e (by rcases h with ⟨_,rfl⟩|⟨_,rfl⟩|⟨_,rfl⟩<;>exact fun _ _ z=>nomatch z)
theorem Stp.write_hid {p:Addr} {o:HO} (h:p∈μ.h) (nf:NF H p):Stp μ H μ (upd H p o):=
  ⟨⟨⟨[],by simp⟩,fun _ h=>.inl h,fun b u e n _=>(by
    have:b≠p:=fun z=>n (z▸.inr h)
    rw[upd_ne this]; exact e)⟩,fun b _ _ e=>(by rw[upd_ne (nf.ne e)]; exact e)⟩
theorem Step.write' {l:Nat} {a:Addr} {o:HO} (h:μ.l[l]?=some a) (hd:a∉μ.h) (nf:NF H a):Step μ H μ (upd H a o):=
  ⟨⟨⟨⟨[],by simp⟩,fun _ h=>.inl h,fun b u e n _=>(by
    have:b≠a:=fun z=>n (z▸.inl (List.mem_of_getElem? h))
    rw[upd_ne this]; exact e)⟩,fun b _ _ e=>(by rw[upd_ne (nf.ne e)]; exact e)⟩,rfl,fun b u hb e _=>by
    have:b≠a:=fun z=>hd (z▸hb)
    rw[upd_ne this]; exact e⟩
variable {K:PySem.W.Frag} {mg:Str→Option Value}
theorem SeqL.sq {a:Addr} {vs:List V} (h:SeqL K μ H a vs):SqL K H a vs:=by
  rcases h with h|h|h
  · exact .inl h.1
  · rcases h with z|⟨o,z⟩<;>cases z
  · exact .inr h
theorem m6 (s:StpW μ H μ' H') {a:Addr} {u:HO} (h:Rd H a u) (n:a∉μ) (t:NTb u:=by exact fun _ z=>nomatch z):Rd H' a u∧a∉μ':=by
  rcases h with h|⟨o,h⟩
  · exact ⟨.inl (s.keep _ _ h n t),s.notin h n t⟩
  · exact ⟨.inr ⟨o,s.keep _ _ h n⟩,s.notin h n⟩
theorem SeqL.stpW (s:StpW μ H μ' H') {a:Addr} {vs:List V} (h:SeqL K μ H a vs):SeqL K μ' H' a vs:=by
  rcases h with h|h
  · exact .inl (m6 s h.1 h.2)
  · exact .inr h
mutual
theorem Rep.stpW (s:StpW μ H μ' H'):∀(d:D) (v:V),Rep K mg μ H d v→Rep K mg μ' H' d v
  | .none,_,h=>by unfold Rep at *; exact h
  | .bool _,_,h=>by unfold Rep at *; exact h
  | .int _,_,h=>by unfold Rep at *; exact h
  | .str _,_,h=>by unfold Rep at *; exact h
  | .ty _,_,h=>by unfold Rep at *; exact h
  | .tup ds,_,h=>by
    unfold Rep at *
    obtain ⟨a,vs,e,h1,n,h2⟩:=h
    exact ⟨a,vs,e,s.keep _ _ h1 n,s.notin h1 n,RepAll.stpW s ds vs h2⟩
  | .lst ds,_,h=>by
    unfold Rep at *
    obtain ⟨a,vs,e,h1,n,h2⟩:=h
    exact ⟨a,vs,e,s.keep _ _ h1 n,s.notin h1 n,RepAll.stpW s ds vs h2⟩
  | .ro ds,_,h=>by
    unfold Rep at *
    obtain ⟨a,vs,e,h1,h2⟩:=h
    exact ⟨a,vs,e,h1.stpW s,RepAll.stpW s ds vs h2⟩
  | .loc l,_,h=>by
    unfold Rep at *
    obtain ⟨a,e,h1⟩:=h
    exact ⟨a,e,s.get h1⟩
  | .glo _,_,h=>by unfold Rep at *; exact h
  | .adr _,_,h=>by unfold Rep at *; exact h
  | .exn a dd ns ds,_,h=>by
    unfold Rep at *
    obtain ⟨vs,e,h1,n,h2⟩:=h
    exact ⟨vs,e,s.keep _ _ h1 n,s.notin h1 n,RepAll.stpW s ds vs h2⟩
  | .clo _ b q F,_,h=>by
    unfold Rep at *
    obtain ⟨f,c',pm,ctv,dv,e,⟨h1,n1⟩,⟨h2,n2⟩,h3⟩:=h
    have t1:NTb (FunO f (F pm c' ctv dv)):=fun _ z=>by unfold FunO at z; cases z
    have t2:NTb (LamX.CodeO c' q):=fun _ z=>by unfold LamX.CodeO at z; cases z
    refine ⟨f,c',pm,ctv,dv,e,⟨s.keep _ _ h1 n1 t1,s.notin h1 n1 t1⟩,⟨s.keep _ _ h2 n2 t2,s.notin h2 n2 t2⟩,fun hb=>?_⟩
    obtain ⟨T,h3,h4,h5⟩:=h3 hb
    exact ⟨T,h3,s.keep _ _ h4 h5,s.notin h4 h5⟩
  | .tpn ds,_,h=>by
    unfold Rep at *
    obtain ⟨a,vs,o,e,⟨h1,hd⟩,n,h2⟩:=h
    exact ⟨a,vs,o,e,⟨s.keep _ _ h1 n,hd⟩,s.notin h1 n,RepAll.stpW s ds vs h2⟩
theorem RepAll.stpW (s:StpW μ H μ' H'):∀(ds:List D) (vs:List V),RepAll K mg μ H ds vs→RepAll K mg μ' H' ds vs
  | [],_,h=>by unfold RepAll at *; exact h
  | d::ds,_,h=>by
    unfold RepAll at *
    obtain ⟨v,r,e,h1,h2⟩:=h
    exact ⟨v,r,e,Rep.stpW s d v h1,RepAll.stpW s ds r h2⟩
end
theorem di (s:Stp μ H μ' H') {a:Addr} {u:HO} (h:Rd H a u) (n:a∉μ) (t:NTb u:=by exact fun _ z=>nomatch z):Rd H' a u∧a∉μ':=m6 s.toStpW h n t
theorem SeqL.stp (s:Stp μ H μ' H') {a:Addr} {vs:List V} (h:SeqL K μ H a vs):SeqL K μ' H' a vs:=h.stpW s.toStpW
theorem Rep.stp (s:Stp μ H μ' H') (d:D) (v:V) (h:Rep K mg μ H d v):Rep K mg μ' H' d v:=Rep.stpW s.toStpW d v h
theorem RepAll.stp (s:Stp μ H μ' H') (ds:List D) (vs:List V) (h:RepAll K mg μ H ds vs):RepAll K mg μ' H' ds vs:=RepAll.stpW s.toStpW ds vs h
theorem Rep.step (s:Step μ H μ' H') (d:D) (v:V) (h:Rep K mg μ H d v):Rep K mg μ' H' d v:=Rep.stp s.toStp d v h
theorem RepAll.step (s:Step μ H μ' H') (d:List D) (v:List V) (h:RepAll K mg μ H d v):RepAll K mg μ' H' d v:=RepAll.stp s.toStp d v h
theorem SeqL.step (s:Step μ H μ' H') {a:Addr} {vs:List V} (h:SeqL K μ H a vs):SeqL K μ' H' a vs:=h.stp s.toStp
theorem RepAll.length:∀ {ds:List D} {vs:List V},RepAll K mg μ H ds vs→ds.length=vs.length
  | [],_,h=>by unfold RepAll at h; subst h; rfl
  | d::ds,_,h=>by
    unfold RepAll at h
    obtain ⟨v,r,rfl,_,h2⟩:=h
    simp[RepAll.length h2]
theorem RepAll.get:∀ {ds:List D} {vs:List V} {i:Nat} {d:D},RepAll K mg μ H ds vs→ds[i]?=some d→∃v,vs[i]?=some v∧Rep K mg μ H d v
  | [],_,_,_,_,e=>by simp at e
  | d::ds,_,0,_,h,e=>by
    unfold RepAll at h
    obtain ⟨v,r,rfl,h1,_⟩:=h
    simp at e; subst e
    exact ⟨v,rfl,h1⟩
  | d::ds,_,i+1,_,h,e=>by
    unfold RepAll at h
    obtain ⟨v,r,rfl,_,h2⟩:=h
    obtain ⟨u,e1,e2⟩:=RepAll.get (i:=i) h2 (by simpa using e)
    exact ⟨u,by simpa using e1,e2⟩
theorem RepAll.nil:RepAll K mg μ H [] []:=by unfold RepAll; rfl
theorem RepAll.cons {d:D} {ds:List D} {v:V} {vs:List V} (h:Rep K mg μ H d v) (t:RepAll K mg μ H ds vs):RepAll K mg μ H (d::ds) (v::vs):=by
  unfold RepAll; exact ⟨v,vs,rfl,h,t⟩
theorem RepAll.append:∀ {ds es:List D} {vs us:List V},RepAll K mg μ H ds vs→RepAll K mg μ H es us→RepAll K mg μ H (ds++es) (vs++us)
  | [],_,_,_,h,t=>by unfold RepAll at h; subst h; exact t
  | d::ds,_,_,_,h,t=>by
    unfold RepAll at h
    obtain ⟨v,r,rfl,h1,h2⟩:=h
    exact .cons h1 (RepAll.append h2 t)
theorem RepAll.take:∀ {ds:List D} {vs:List V} (n:Nat),RepAll K mg μ H ds vs→RepAll K mg μ H (ds.take n) (vs.take n)
  | _,_,0,_=>by simp only[List.take_zero]; exact .nil
  | [],_,n+1,h=>by unfold RepAll at h; subst h; simp only[List.take_nil]; exact .nil
  | d::ds,_,n+1,h=>by
    unfold RepAll at h
    obtain ⟨v,r,rfl,h1,h2⟩:=h
    exact .cons h1 (RepAll.take n h2)
theorem RepAll.drop:∀ {ds:List D} {vs:List V} (n:Nat),RepAll K mg μ H ds vs→RepAll K mg μ H (ds.drop n) (vs.drop n)
  | _,_,0,h=>h
  | [],_,n+1,h=>by unfold RepAll at h; subst h; simp only[List.drop_nil]; exact .nil
  | d::ds,_,n+1,h=>by
    unfold RepAll at h
    obtain ⟨v,r,rfl,h1,h2⟩:=h
    exact RepAll.drop n h2
theorem RepAll.set {d:D} {v:V} (r:Rep K mg μ H d v):∀ {ds:List D} {vs:List V} (i:Nat),RepAll K mg μ H ds vs→RepAll K mg μ H (ds.set i d) (vs.set i v)
  | [],_,i,h=>by unfold RepAll at h; subst h; exact .nil
  | e::ds,_,0,h=>by
    unfold RepAll at h
    obtain ⟨w,q,rfl,h1,h2⟩:=h
    exact .cons r h2
  | e::ds,_,i+1,h=>by
    unfold RepAll at h
    obtain ⟨w,q,rfl,h1,h2⟩:=h
    exact .cons h1 (RepAll.set r i h2)
theorem RepO.step_sm (s:Sm H H') {o:O} {a:Addr} (h:RepO K mg μ H o a):RepO K mg μ H' o a:=by
  have st:Step μ H μ H':=.of_sm s
  cases o with
  | lst ds=>obtain ⟨vs,h1,h2⟩:=h; exact ⟨vs,s _ _ h1,RepAll.step st _ _ h2⟩
  | dct t kvs=>
    cases t<;>(obtain ⟨vs,ks,⟨e,k⟩,h2⟩:=h; exact ⟨vs,ks,⟨s _ _ e,k⟩,RepAll.step st _ _ h2⟩)
  | ins C fs=>obtain ⟨Ca,dx,vs,g,h1,h2⟩:=h; exact ⟨Ca,dx,vs,g,s _ _ h1,RepAll.step st _ _ h2⟩
  | fdc t kvs=>
    cases t<;>(obtain ⟨vs,ks,⟨⟨od,e⟩,k⟩,h2⟩:=h; exact ⟨vs,ks,⟨⟨od,s _ _ e⟩,k⟩,RepAll.step st _ _ h2⟩)
/-- its own object stays -/
theorem RepO.stepW (st:StpW μ H μ' H') {o:O} {a:Addr} (e:∀u,H a=some u→H' a=some u) (h:RepO K mg μ H o a):RepO K mg μ' H' o a:=by
  cases o with
  | lst ds=>obtain ⟨vs,h1,h2⟩:=h; exact ⟨vs,e _ h1,RepAll.stpW st _ _ h2⟩
  | dct t kvs=>
    cases t<;>(obtain ⟨vs,ks,⟨q,k⟩,h2⟩:=h; exact ⟨vs,ks,⟨e _ q,k⟩,RepAll.stpW st _ _ h2⟩)
  | ins C fs=>obtain ⟨Ca,dx,vs,g,h1,h2⟩:=h; exact ⟨Ca,dx,vs,g,e _ h1,RepAll.stpW st _ _ h2⟩
  | fdc t kvs=>
    cases t<;>(obtain ⟨vs,ks,⟨⟨od,q⟩,k⟩,h2⟩:=h; exact ⟨vs,ks,⟨⟨od,e _ q⟩,k⟩,RepAll.stpW st _ _ h2⟩)
theorem RepO.step (st:Stp μ H μ' H') {o:O} {a:Addr} (e:∀u,H a=Option.some u→H' a=Option.some u) (h:RepO K mg μ H o a):RepO K mg μ' H' o a:=h.stepW st.toStpW e
theorem RepO.some {o:O} {a:Addr} (h:RepO K mg μ H o a):∃u,H a=some u:=by
  cases o with
  | lst ds=>obtain ⟨vs,h1,h2⟩:=h; exact ⟨_,h1⟩
  | dct t kvs=>
    cases t<;>(obtain ⟨vs,ks,⟨q,k⟩,h2⟩:=h; exact ⟨_,q⟩)
  | ins C fs=>obtain ⟨Ca,dx,vs,g,h1,h2⟩:=h; exact ⟨_,h1⟩
  | fdc t kvs=>
    cases t<;>(obtain ⟨vs,ks,⟨⟨od,q⟩,k⟩,h2⟩:=h; exact ⟨_,q⟩)
theorem RepO.nt {o:O} {a:Addr} (h:RepO K mg μ H o a) {ps:Array Value} (e:H a=Option.some (HO.tbl ps)):False:=by
  cases o with
  | lst ds=>obtain ⟨vs,h1,h2⟩:=h; rw[e] at h1; cases h1
  | dct t kvs=>
    cases t<;>(obtain ⟨vs,ks,⟨q,k⟩,h2⟩:=h; rw[e] at q; cases q)
  | ins C fs=>obtain ⟨Ca,dx,vs,g,h1,h2⟩:=h; rw[e] at h1; cases h1
  | fdc t kvs=>
    cases t<;>(obtain ⟨vs,ks,⟨⟨od,q⟩,k⟩,h2⟩:=h; rw[e] at q; cases q)
variable {S:Sto} {env:En} {σ:L2.St}
theorem RelS.sm (s:Sm H H') (h:RelS K mg μ H S):RelS K mg μ H' S:=
  ⟨h.len,h.nd,h.dis,fun a ha=>let ⟨u,e,t⟩:=h.hid a ha; ⟨u,s a u e,t⟩,fun l o e=>let ⟨a,h1,h2⟩:=h.at_ l o e; ⟨a,h1,h2.step_sm s⟩,h.tab.ext s⟩
theorem RelE.stpW (s:StpW μ H μ' H') (h:RelE K mg μ H env σ):RelE K mg μ' H' env σ:=
  ⟨h.len,fun i d e=>let ⟨v,h1,h2⟩:=h.at_ i d e; ⟨v,h1,Rep.stpW s _ _ h2⟩⟩
theorem RelE.stp (s:Stp μ H μ' H') (h:RelE K mg μ H env σ):RelE K mg μ' H' env σ:=h.stpW s.toStpW
theorem RelE.step (s:Step μ H μ' H') (h:RelE K mg μ H env σ):RelE K mg μ' H' env σ:=h.stp s.toStp
theorem RelE.set (h:RelE K mg μ H env σ) {i:Nat} {d:D} {v:V} (r:Rep K mg μ H d v):RelE K mg μ H (env.set i (some d)) (σ.set i (some v)):=by
  refine ⟨by simp[h.len],fun j e q=>?_⟩
  by_cases hj:j=i
  · subst hj
    have hl:j<env.length:=by
      have:=(List.getElem?_eq_some_iff.mp q).1; simpa using this
    rw[List.getElem?_set_self hl] at q
    cases q
    exact ⟨v,by rw[List.getElem?_set_self (by rw[←h.len]; exact hl)],r⟩
  · rw[List.getElem?_set_ne (Ne.symm hj)] at q
    rw[List.getElem?_set_ne (Ne.symm hj)]
    exact h.at_ j e q
theorem Rl.sm (s:Sm H H') (h:Rl K mg μ H env σ S):Rl K mg μ H' env σ S:=⟨h.env.step (.of_sm s),h.sto.sm s⟩
theorem RelS.notin (rs:RelS K mg μ H S) {p:Addr} (hp:H p=none):p∉μ.l:=fun z=>by
  obtain ⟨l,hl,e⟩:=List.getElem_of_mem z
  obtain ⟨a',h1,h2⟩:=rs.at_ l (S[l]'(by rw[rs.len]; exact hl)) (List.getElem?_eq_getElem (by rw[rs.len]; exact hl))
  rw[List.getElem?_eq_getElem hl,e] at h1; cases h1
  obtain ⟨u,hu⟩:=h2.some
  rw[hp] at hu; cases hu
theorem RelS.notinH (rs:RelS K mg μ H S) {p:Addr} (hp:H p=none):p∉μ.h:=fun z=>by
  obtain ⟨u,e,_⟩:=rs.hid p z
  rw[hp] at e; cases e
theorem RelS.fresh (rs:RelS K mg μ H S) {p:Addr} (hp:H p=none):p∉μ:=fun z=>z.elim (rs.notin hp) (rs.notinH hp)
theorem RelS.ntab (rs:RelS K mg μ H S) {l:Nat} {a:Addr} (hl:μ.l[l]?=some a) {ps:Array Value} (e:H a=Option.some (HO.tbl ps)):False:=by
  have hl2:l<S.length:=by rw[rs.len]; exact (List.getElem?_eq_some_iff.mp hl).1
  obtain ⟨a',h1,h2⟩:=rs.at_ l _ (List.getElem?_eq_getElem hl2)
  rw[hl] at h1; cases h1
  exact h2.nt e
theorem m8 {T:List (Addr × Str)} {p:Addr} {ho:HO} (h:LamX.Tabs T H) (n:∀ps,H p≠some (.tbl ps)) (nc:∀c q,H p≠some (LamX.CodeO c q)):LamX.Tabs T (upd H p ho):=fun q hq=>by
  obtain ⟨ps,h1,h2,h3⟩:=h q hq
  refine ⟨ps,by rw[upd_ne fun z=>n ps (by rw[←z]; exact h1)]; exact h1,h2,fun pos cv e=>?_⟩
  obtain ⟨c,e1,e2⟩:=h3 pos cv e
  exact ⟨c,e1,by rw[upd_ne fun z=>nc c q.2 (by rw[←z]; exact e2)]; exact e2⟩
theorem RepO.nc {o:O} {a c:Addr} {q:Str} (h:RepO K mg μ H o a) (e:H a=Option.some (LamX.CodeO c q)):False:=by
  unfold LamX.CodeO at e
  cases o with
  | lst ds=>obtain ⟨vs,h1,h2⟩:=h; rw[e] at h1; cases h1
  | dct t kvs=>
    cases t<;>(obtain ⟨vs,ks,⟨q,k⟩,h2⟩:=h; rw[e] at q; cases q)
  | ins C fs=>obtain ⟨Ca,dx,vs,g,h1,h2⟩:=h; rw[e] at h1; cases h1
  | fdc t kvs=>
    cases t<;>(obtain ⟨vs,ks,⟨⟨od,q⟩,k⟩,h2⟩:=h; rw[e] at q; cases q)
theorem RelS.ncode (rs:RelS K mg μ H S) {l:Nat} {a c:Addr} {q:Str} (hl:μ.l[l]?=some a) (e:H a=Option.some (LamX.CodeO c q)):False:=by
  have hl2:l<S.length:=by rw[rs.len]; exact (List.getElem?_eq_some_iff.mp hl).1
  obtain ⟨a',h1,h2⟩:=rs.at_ l _ (List.getElem?_eq_getElem hl2)
  rw[hl] at h1; cases h1
  exact h2.nc e
/-- a new object -/
theorem RelS.push (h:RelS K mg μ H S) {p:Addr} {ho:HO} {o:O} (hp:H p=none) (r:RepO K mg (μ.push p) (upd H p ho) o p):RelS K mg (μ.push p) (upd H p ho) (S++[o]):=by
  have st:Step μ H (μ.push p) (upd H p ho):=.new_loc hp
  have np:p∉μ.l:=h.notin hp
  have hh:p∉μ.h:=h.notinH hp
  refine ⟨by simp[h.len,Mu.push],List.nodup_append.mpr ⟨h.nd,by simp,fun a ha b hb=>?_⟩,fun a ha=>?_,fun a ha=>?_,fun l u e=>?_,h.tab.ext (Sm.upd hp)⟩
  · have:b=p:=by simpa using hb
    subst this
    exact fun z=>np (z▸ha)
  · rcases List.mem_append.mp ha with e|e
    · exact h.dis a e
    · have:a=p:=by simpa using e
      subst this; exact hh
  · obtain ⟨u,e,t⟩:=h.hid a ha
    exact ⟨u,by rw[upd_ne (ne_of_none e hp)]; exact e,t⟩
  · by_cases hl:l<S.length
    · rw[List.getElem?_append_left hl] at e
      obtain ⟨a,h1,h2⟩:=h.at_ l u e
      exact ⟨a,st.get h1,h2.step st.toStp fun w q=>by rw[upd_ne (ne_of_none q hp)]; exact q⟩
    · rw[List.getElem?_append_right (by omega)] at e
      have hl2:l - S.length=0:=by
        have:=(List.getElem?_eq_some_iff.mp e).1
        simp at this; omega
      rw[hl2] at e
      simp at e
      subst e
      have:l=S.length:=by omega
      subst this
      exact ⟨p,by rw[h.len]; simp[Mu.push],r⟩
/-- an object written -/
theorem RelS.write (h:RelS K mg μ H S) {l:Nat} {p:Addr} {ho:HO} {o:O} (hp:μ.l[l]?=some p) (nf:NF H p) (r:RepO K mg μ (upd H p ho) o p):RelS K mg μ (upd H p ho) (S.set l o):=by
  have st:Step μ H μ (upd H p ho):=.write' hp (h.dis p (List.mem_of_getElem? hp)) nf
  refine ⟨by simp[h.len],h.nd,h.dis,fun a ha=>?_,fun j u e=>?_,m8 h.tab (fun ps z=>h.ntab hp z) fun c q z=>h.ncode hp z⟩
  · obtain ⟨u,e,t⟩:=h.hid a ha
    by_cases hap:a=p
    · subst hap
      exact absurd ha (h.dis a (List.mem_of_getElem? hp))
    · exact ⟨u,by rw[upd_ne hap]; exact e,t⟩
  by_cases hj:j=l
  · subst hj
    have hl:j<S.length:=by
      have:=(List.getElem?_eq_some_iff.mp e).1; simpa using this
    rw[List.getElem?_set_self hl] at e
    cases e
    exact ⟨p,hp,r⟩
  · rw[List.getElem?_set_ne (Ne.symm hj)] at e
    obtain ⟨a,h1,h2⟩:=h.at_ j u e
    have na:a≠p:=fun z=>by
      subst z
      have e1:=List.getElem?_eq_some_iff.mp h1
      have e2:=List.getElem?_eq_some_iff.mp hp
      exact hj ((List.getElem_inj h.nd).mp (e1.2.trans e2.2.symm))
    exact ⟨a,h1,h2.step st.toStp fun w q=>by rw[upd_ne na]; exact q⟩
theorem Step.write (h:RelS K mg μ H S) {l:Nat} {a:Addr} {o:HO} (hp:μ.l[l]?=some a) (nf:NF H a):Step μ H μ (upd H a o):=.write' hp (h.dis a (List.mem_of_getElem? hp)) nf
/-- something hidden is made,is written -/
theorem RelS.hide (h:RelS K mg μ H S) {p:Addr} {ho:HO} (hp:H p=none) (ht:Hdn ho:=by first|exact .inl ⟨_,rfl⟩|exact .inr (.inl ⟨_,rfl⟩)|exact .inr (.inr ⟨_,rfl⟩)):RelS K mg (μ.hide p) (upd H p ho) S:=by
  have st:Stp μ H (μ.hide p) (upd H p ho):=.new_hid hp
  have np:=h.notin hp
  refine ⟨h.len,h.nd,fun a ha=>?_,fun a ha=>?_,fun l o e=>?_,h.tab.ext (Sm.upd hp)⟩
  · intro z
    rcases List.mem_cons.mp z with e|e
    · subst e; exact np ha
    · exact h.dis a ha e
  · rcases List.mem_cons.mp ha with e|e
    · subst e; exact ⟨_,upd_same,ht⟩
    · obtain ⟨u,e,t⟩:=h.hid a e
      exact ⟨u,by rw[upd_ne (ne_of_none e hp)]; exact e,t⟩
  · obtain ⟨a,h1,h2⟩:=h.at_ l o e
    exact ⟨a,h1,h2.step st fun u q=>by rw[upd_ne (ne_of_none q hp)]; exact q⟩
theorem RelS.write_hid (h:RelS K mg μ H S) {p:Addr} {ho:HO} (hp:p∈μ.h) (ht:Hdn ho:=by first|exact .inl ⟨_,rfl⟩|exact .inr (.inl ⟨_,rfl⟩)|exact .inr (.inr ⟨_,rfl⟩)):RelS K mg μ (upd H p ho) S:=by
  have st:Stp μ H μ (upd H p ho):=.write_hid hp (by obtain ⟨u,e,t⟩:=h.hid p hp; exact Hdn.nf e t)
  refine ⟨h.len,h.nd,h.dis,fun a ha=>?_,fun l o e=>?_,m8 h.tab (fun ps z=>?_) fun c q z=>?_⟩
  · obtain ⟨u,e,t⟩:=h.hid a ha
    by_cases hap:a=p
    · exact ⟨_,by rw[hap]; exact upd_same,ht⟩
    · exact ⟨u,by rw[upd_ne hap]; exact e,t⟩
  rotate_left
  · obtain ⟨u,e,t⟩:=h.hid p hp
    rw[z] at e; cases e
    exact t.ntb ps rfl
  · obtain ⟨u,e,t⟩:=h.hid p hp
    rw[z] at e; cases e
    exact t.nc c q rfl
  obtain ⟨a,h1,h2⟩:=h.at_ l o e
  have na:a≠p:=fun z=>h.dis a (List.mem_of_getElem? h1) (z▸hp)
  exact ⟨a,h1,h2.step st fun u q=>by rw[upd_ne na]; exact q⟩
/-- less is hidden -/
theorem Stp.unhide {h':List Addr} (hs:∀a∈h',a∈μ.h):Stp μ H ⟨μ.l,h'⟩ H:=⟨⟨⟨[],by simp⟩,fun a ha=>.inl (ha.elim .inl fun z=>.inr (hs a z)),fun _ _ e _ _=>e⟩,fun _ _ _ e=>e⟩
theorem RelS.unhide {h':List Addr} (hs:∀a∈h',a∈μ.h) (h:RelS K mg μ H S):RelS K mg ⟨μ.l,h'⟩ H S:=
  ⟨h.len,h.nd,fun a ha z=>h.dis a ha (hs a z),fun a ha=>h.hid a (hs a ha),fun l o e=>let ⟨a,h1,h2⟩:=h.at_ l o e; ⟨a,h1,h2.step (.unhide hs) fun _ q=>q⟩,h.tab⟩
end
end DL
namespace DL
open PySem PySem.Spec PyProof.Rows L2
inductive Res (α:Type) where
  | ok (a:α) (S:Sto)|exc (e:XV) (S:Sto)|stuck
abbrev ME:=En→Sto→Res D
abbrev MA:=En→Sto→Res (List D)
abbrev MT:=En→Sto→Res Bool
def Res.bind {α β:Type}:Res α→(α→Sto→Res β)→Res β
  | .ok a S,f=>f a S
  | .exc e S,_=>.exc e S
  | .stuck,_=>.stuck
def ofO {α:Type} (S:Sto):Option α→Res α
  | some a=>.ok a S
  | none=>.stuck
section
variable (K:PySem.W.Frag) (mg:Str→Option Value)
def Out {α β:Type} (W:WX) (σ:L2.St) (μ:Mu) (H:Hp) (R:Mu→Hp→α→β→Prop) (Q:β→Hp→Prop):Res α→Prop
  | .ok a S=>∀μ' H' b,Step μ H μ' H'→RelS K mg μ' H' S→R μ' H' a b→Q b H'
  | .exc e S=>∀μ' H' cls dd,Step μ H μ' H'→RelS K mg μ' H' S→RepX K mg μ' H' e cls dd→W cls dd σ H'
  | .stuck=>False
end
section
variable {K:PySem.W.Frag} {mg:Str→Option Value} {α α' β β':Type} {W:WX} {σ:L2.St} {μ μ1:Mu} {H H1:Hp} {R:Mu→Hp→α→β→Prop} {R':Mu→Hp→α'→β'→Prop}
theorem Out.of_step {Q:β→Hp→Prop} {r:Res α} (st:Step μ H μ1 H1) (o:Out K mg W σ μ H R Q r):Out K mg W σ μ1 H1 R Q r:=by
  cases r with
  | ok a S=>exact fun μ' H' b s=>o μ' H' b (st.trans s)
  | exc e S=>exact fun μ' H' c d s=>o μ' H' c d (st.trans s)
  | stuck=>exact o
theorem Out.mono {Q Q':β→Hp→Prop} {r:Res α} (o:Out K mg W σ μ H R Q r) (h:∀b H',Q b H'→Q' b H'):Out K mg W σ μ H R Q' r:=by
  cases r with
  | ok a S=>exact fun μ' H' b s t u=>h _ _ (o μ' H' b s t u)
  | exc e S=>exact o
  | stuck=>exact o
theorem Out.bind {Q:β'→Hp→Prop} {r:Res α} {f:α→Sto→Res α'} (o:Out K mg W σ μ H R' Q (r.bind f)) :
    Out K mg W σ μ H R (fun b H1=>∃μ1 S1 a,Step μ H μ1 H1∧RelS K mg μ1 H1 S1∧R μ1 H1 a b∧Out K mg W σ μ1 H1 R' Q (f a S1)) r:=by
  cases r with
  | ok a S=>exact fun μ' H' b s t u=>⟨μ',S,a,s,t,u,Out.of_step s o⟩
  | exc e S=>exact o
  | stuck=>exact o
end
/-- the reading of a computation -/
def tM (X:Cx) {α β:Type} (R:Mu→Hp→α→β→Prop) (W:WX) (m:En→Sto→Res α):L2.St→Hp→(β→Hp→Prop)→Prop:=fun σ H Q=>
  ∃env S μ,Rl X.K X.mg μ H env σ S∧Out X.K X.mg W σ μ H R Q (m env S)
abbrev tE (X:Cx) (W:WX) (m:ME):TE:=tM X (fun μ H a b=>Rep X.K X.mg μ H a b) W m
abbrev tAs (X:Cx) (W:WX) (m:MA):TA:=tM X (fun μ H a b=>RepAll X.K X.mg μ H a b) W m
abbrev tT (X:Cx) (W:WX) (m:MT):TT:=tM X (fun _ _ a b=>b=a) W m
theorem cB {X:Cx} {e:Expr} {t t':TE} (h:PE X e t) (i:∀σ H Q,t' σ H Q→t σ H Q):PE X e t':=⟨fun pins s σ H Q I w=>h.run pins s σ H Q I (i σ H Q w)⟩
theorem k7 {X:Cx} {e:Expr} {t t':TT} (h:PT X e t) (i:∀σ H Q,t' σ H Q→t σ H Q):PT X e t':=⟨fun pins s σ H Q I w=>h.run pins s σ H Q I (i σ H Q w)⟩
theorem pw_to {X:Cx} {e:Expr} {t t':TT} (h:PW X e t) (i:∀σ H Q,t' σ H Q→t σ H Q):PW X e t':=⟨fun wh pins s σ H Q I w=>h.run wh pins s σ H Q I (i σ H Q w)⟩
theorem pa_to {X:Cx} {e:List Expr} {t t':TA} (h:PA X e t) (i:∀σ H Q,t' σ H Q→t σ H Q):PA X e t':=⟨fun p pins s σ H Q I w=>h.run p pins s σ H Q I (i σ H Q w)⟩
def vt:D→D
  | .tpn xs=>.tup xs
  | d=>d
def view0 (S:Sto):D→D
  | .loc l=>match S[l]? with
    | some (.lst xs)=>.lst xs
    | _=>.loc l
  | d=>d
def view (S:Sto) (d:D):D:=vt (view0 S d)
section
variable (K:PySem.W.Frag) (mg:Str→Option Value)
def RepV (μ:Mu) (H:Hp):D→V→Prop
  | .lst ds,v=>∃a vs,v=.ref a∧H a=some (.lst vs)∧RepAll K mg μ H ds vs
  | d,v=>Rep K mg μ H d v
def RepW (μ:Mu) (H:Hp):D→V→Prop
  | .lst ds,v=>∃a vs,v=.ref a∧H a=some (.lst vs)∧RepAll K mg μ H ds vs
  | .tup ds,v=>∃a vs,v=.ref a∧Rd H a (.tup vs)∧RepAll K mg μ H ds vs∧a∉μ
  | d,v=>Rep K mg μ H d v
end
section
variable {K:PySem.W.Frag} {mg:Str→Option Value} {μ μ1:Mu} {H H1:Hp} {S:Sto}
theorem Rep.wv {d:D} {v:V} (h:Rep K mg μ H d v):RepV K mg μ H d v:=by
  cases d with
  | lst ds=>
    unfold Rep at h
    obtain ⟨a,vs,e,h1,_,h2⟩:=h
    exact ⟨a,vs,e,h1,h2⟩
  | _=>exact h
theorem RepV.vt {d:D} {v:V} (h:RepV K mg μ H d v):RepW K mg μ H (vt d) v:=by
  cases d with
  | lst ds=>exact h
  | tup ds=>
    have h:Rep K mg μ H (.tup ds) v:=h
    unfold Rep at h
    obtain ⟨a,vs,e,h1,n,h2⟩:=h
    exact ⟨a,vs,e,.of h1,h2,n⟩
  | tpn ds=>
    have h:Rep K mg μ H (.tpn ds) v:=h
    unfold Rep at h
    obtain ⟨a,vs,o,e,⟨h1,_⟩,n,h2⟩:=h
    exact ⟨a,vs,e,.inr ⟨o,h1⟩,h2,n⟩
  | _=>exact h
theorem Rep.w {d:D} {v:V} (h:Rep K mg μ H d v):RepW K mg μ H d v:=by
  cases d with
  | lst ds=>exact h.wv
  | tup ds=>exact h.wv.vt
  | _=>exact h
theorem RelS.view0 (rs:RelS K mg μ H S) {d:D} {v:V} (h:Rep K mg μ H d v):RepV K mg μ H (view0 S d) v:=by
  cases d with
  | loc l=>
    show RepV K mg μ H (match S[l]? with|some (.lst xs)=>.lst xs|_=>.loc l) v
    split
    · rename_i xs e
      unfold Rep at h
      obtain ⟨a,ev,ha⟩:=h
      obtain ⟨a',h1,vs,h2,h3⟩:=rs.at_ l _ e
      rw[ha] at h1; cases h1
      exact ⟨a,vs,ev,h2,h3⟩
    · exact h.wv
  | _=>exact h.wv
theorem RelS.view (rs:RelS K mg μ H S) {d:D} {v:V} (h:Rep K mg μ H d v):RepW K mg μ H (view S d) v:=(rs.view0 h).vt
end
def rS (K:PySem.W.Frag) (mg:Str→Option Value) (f:Sto→D→D→Option D):R2:=fun x y H Q=>
  ∃μ S a b d,RelS K mg μ H S∧Rep K mg μ H a x∧Rep K mg μ H b y∧f S a b=some d∧∀H' v,Sm H H'→Rep K mg μ H' d v→Q v H'
def lv (f:D→D→Option D):Sto→D→D→Option D:=fun S a b=>f (view S a) (view S b)
def lv0 (f:D→D→Option D):Sto→D→D→Option D:=fun S a b=>f (view0 S a) (view0 S b)
abbrev rP (K:PySem.W.Frag) (mg:Str→Option Value) (f:D→D→Option D):R2:=rS K mg (lv f)
def aJ (f:Sto→D→D→Option D) (ma mb:ME):ME:=fun env S=>(ma env S).bind fun a S=>(mb env S).bind fun b S=>ofO S (f S a b)
section
variable {X:Cx} {W:WX} {a b:Expr} {pos:Pos} {ma mb:ME}
theorem pZ {f:Sto→D→D→Option D} {σ:L2.St} {H:Hp} {Q:VK} (h:tE X W (aJ f ma mb) σ H Q):tOp (rS X.K X.mg f) (tE X W ma) (tE X W mb) σ H Q:=by
  obtain ⟨env,S,μ,rl,o⟩:=h
  refine ⟨env,S,μ,rl,(Out.bind o).mono fun x H1 ⟨μ1,S1,da,st,rs,ra,o1⟩=>?_⟩
  refine ⟨env,S1,μ1,⟨rl.env.step st,rs⟩,(Out.bind o1).mono fun y H2 ⟨μ2,S2,db,st2,rs2,rb,o2⟩=>?_⟩
  cases e:f S2 da db with
  | none=>rw[e] at o2; exact o2.elim
  | some d=>
    rw[e] at o2
    exact ⟨μ2,S2,_,_,d,rs2,Rep.step st2 _ _ ra,rb,e,fun H' v sm r=>o2 μ2 H' v (.of_sm sm) (rs2.sm sm) r⟩
theorem aR {op:Operator} {f:Sto→D→D→Option D} (ho:OpR X (binaryOp op) (rS X.K X.mg f)) (ha:PE X a (tE X W ma)) (hb:PE X b (tE X W mb)):PE X (.BinOp a op b pos) (tE X W (aJ f ma mb)):=
  cB (pe_op ho ha hb) fun _ _ _ h=>pZ h
theorem dz {op:CmpOp} {f:Sto→D→D→Option D} (ho:OpR X (compareOp op) (rS X.K X.mg f)) (ha:PE X a (tE X W ma)) (hb:PE X b (tE X W mb)) (hm:behindInMarks op b=false):PE X (.Compare a [op] [b] pos) (tE X W (aJ f ma mb)):=
  cB (pe_cmpR ho ha hb hm) fun _ _ _ h=>pZ h
/-- a computation whose value is a bool,as a test -/
def tOf (m:ME):MT:=fun env S=>(m env S).bind fun d S=>match d with
  | .bool b=>.ok b S
  | _=>.stuck
theorem t_of {m:ME} {σ:L2.St} {H:Hp} {Q:Bool→Hp→Prop} (h:tT X W (tOf m) σ H Q):tTest (tE X W m) σ H Q:=by
  obtain ⟨env,S,μ,rl,o⟩:=h
  refine ⟨env,S,μ,rl,(Out.bind o).mono fun x H1 ⟨μ1,S1,d,st,rs,r,o1⟩=>?_⟩
  cases d with
  | bool b=>unfold Rep at r; exact ⟨b,r,o1 μ1 H1 b .refl rs rfl⟩
  | _=>exact o1.elim
theorem aX {op:CmpOp} {f:Sto→D→D→Option D} (ho:OpR X (compareOp op) (rS X.K X.mg f)) (ha:PE X a (tE X W ma)) (hb:PE X b (tE X W mb)) (hm:behindInMarks op b=false):PT X (.Compare a [op] [b] pos) (tT X W (tOf (aJ f ma mb))):=
  k7 (pt_cmpR ho ha hb hm) fun σ H Q h=>by
    obtain h:=t_of h
    obtain ⟨env,S,μ,rl,o⟩:=h
    exact pZ ⟨env,S,μ,rl,o⟩
end
def oI (g:Int→Int→Int):D→D→Option D
  | .int i,.int j=>some (.int (g i j))
  | _,_=>none
def oIC (C:Int→Int→Bool) (g:Int→Int→Int):D→D→Option D
  | .int i,.int j=>if C i j then some (.int (g i j)) else none
  | _,_=>none
def oIB (g:Int→Int→Bool):D→D→Option D
  | .int i,.int j=>some (.bool (g i j))
  | _,_=>none
theorem RepW.int {K:PySem.W.Frag} {mg:Str→Option Value} {μ:Mu} {H:Hp} {i:Int} {v:V} (h:RepW K mg μ H (.int i) v):v=.int i:=by
  have h:Rep K mg μ H (.int i) v:=h
  unfold Rep at h; exact h
theorem RepW.str {K:PySem.W.Frag} {mg:Str→Option Value} {μ:Mu} {H:Hp} {i:Str} {v:V} (h:RepW K mg μ H (.str i) v):v=.str i:=by
  have h:Rep K mg μ H (.str i) v:=h
  unfold Rep at h; exact h
theorem RepW.tup {K:PySem.W.Frag} {mg:Str→Option Value} {μ:Mu} {H:Hp} {ds:List D} {v:V} (h:RepW K mg μ H (.tup ds) v):∃a vs,v=.ref a∧Rd H a (.tup vs)∧RepAll K mg μ H ds vs∧a∉μ:=h
section
variable {X:Cx}
theorem bA {K:PySem.W.Frag} {mg:Str→Option Value} {μ:Mu} {H:Hp} (i:Int):Rep K mg μ H (.int i) (.int i):=by unfold Rep; rfl
theorem bJ {K:PySem.W.Frag} {mg:Str→Option Value} {μ:Mu} {H:Hp} (i:Bool):Rep K mg μ H (.bool i) (.bl i):=by unfold Rep; rfl
theorem bV {K:PySem.W.Frag} {mg:Str→Option Value} {μ:Mu} {H:Hp} (i:Str):Rep K mg μ H (.str i) (.str i):=by unfold Rep; rfl
theorem jp {K:PySem.W.Frag} {mg:Str→Option Value} {μ:Mu} {H:Hp}:Rep K mg μ H .none .non:=by unfold Rep; rfl
theorem t8 {f:Value→Value→Sem Value} {r r':R2} (h:OpR X f r) (i:∀x y H Q,r' x y H Q→r x y H Q):OpR X f r':=fun pins s σ H x y v u Q I rx ry w=>h pins s σ H x y v u Q I rx ry (i _ _ _ _ w)
/-- an operator over views -/
theorem jq {f:Value→Value→Sem Value} {g:D→D→Option D} {r:R2} (h:OpR X f r)
    (i:∀μ x y H Q a b d,RepW X.K X.mg μ H a x→RepW X.K X.mg μ H b y→g a b=some d→(∀H' v,Sm H H'→Rep X.K X.mg μ H' d v→Q v H')→r x y H Q):OpR X f (rP X.K X.mg g):=
  t8 h fun x y H Q ⟨μ,S,a,b,d,rs,ra,rb,e,q⟩=>i μ x y H Q _ _ d (rs.view ra) (rs.view rb) e q
theorem opI_D {f:Value→Value→Sem Value} {g:Int→Int→Int} (h:OpR X f (rI0 fun i j=>.int (g i j))):OpR X f (rP X.K X.mg (oI g)):=jq h fun μ x y H Q a b d ra rb e q=>by
  unfold oI at e
  split at e
  · cases e
    exact ⟨_,_,ra.int,rb.int,q H _ .rfl (bA _)⟩
  · cases e
theorem lu {f:Value→Value→Sem Value} {C:Int→Int→Prop} {Cb:Int→Int→Bool} {g:Int→Int→Int} (hC:∀i j,Cb i j=true→C i j) (h:OpR X f (rI C fun i j=>.int (g i j))):OpR X f (rP X.K X.mg (oIC Cb g)):=jq h fun μ x y H Q a b d ra rb e q=>by
  unfold oIC at e
  split at e
  · split at e
    · rename_i hc
      cases e
      exact ⟨_,_,ra.int,rb.int,hC _ _ hc,q H _ .rfl (bA _)⟩
    · cases e
  · cases e
theorem oS {f:Value→Value→Sem Value} {g:Int→Int→Bool} (h:OpR X f (rI0 fun i j=>.bl (g i j))):OpR X f (rP X.K X.mg (oIB g)):=jq h fun μ x y H Q a b d ra rb e q=>by
  unfold oIB at e
  split at e
  · cases e
    exact ⟨_,_,ra.int,rb.int,q H _ .rfl (bJ _)⟩
  · cases e
def bP (i j:Int):Bool:=(decide (-(2 ^ 64)<i)&&decide (i<2 ^ 64))||(decide (-(2 ^ 64)<j)&&decide (j<2 ^ 64))
def gj (_ j:Int):Bool:=decide (0<j)&&decide (j<1073741824)
def eh (_ j:Int):Bool:=decide (0<j)
def cPow (i j:Int):Bool:=decide (0≤j)&&decide (j≤1000000)&&decide (i.natAbs<2 ^ 64)
abbrev dSub:=oI (fun i j=>i - j)
abbrev rN:=oIC bP (fun i j=>i*j)
abbrev dDiv:=oIC gj (fun i j=>i / j)
abbrev dMod:=oIC eh (fun i j=>i % j)
abbrev dPow:=oIC cPow (fun i j=>i ^ j.toNat)
abbrev dLe:=oIB (fun i j=>decide (i≤j))
abbrev dGt:=oIB (fun i j=>decide (j<i))
abbrev dGe:=oIB (fun i j=>decide (j≤i))
theorem rO:OpR X (binaryOp .Sub) (rP X.K X.mg dSub):=opI_D op_sub
theorem rQ:OpR X (binaryOp .Mult) (rP X.K X.mg rN):=lu (fun i j h=>by
  simp only[bP,Bool.or_eq_true,Bool.and_eq_true,decide_eq_true_eq] at h; exact h) op_mul
theorem rR:OpR X (binaryOp .FloorDiv) (rP X.K X.mg dDiv):=lu (fun i j h=>by
  simp only[gj,Bool.and_eq_true,decide_eq_true_eq] at h; exact h) op_fdiv
theorem m9:OpR X (binaryOp .Mod) (rP X.K X.mg dMod):=lu (C:=fun _ j=>0<j) (fun i j h=>by
  simp only[eh,decide_eq_true_eq] at h; exact h) op_mod
theorem o_pow:OpR X (binaryOp .Pow) (rP X.K X.mg dPow):=lu (fun i j h=>by
  simp only[cPow,Bool.and_eq_true,decide_eq_true_eq] at h; exact ⟨h.1.1,h.1.2,h.2⟩) op_pow
theorem oU:OpR X (compareOp .LtE) (rP X.K X.mg dLe):=oS op_le
theorem o_gt:OpR X (compareOp .Gt) (rP X.K X.mg dGt):=oS op_gt
theorem o_ge:OpR X (compareOp .GtE) (rP X.K X.mg dGe):=oS op_ge
def am:D→D→Option D
  | .int i,.int j=>some (.int (i+j))
  | .str x,.str y=>if x.length+y.length≤1000000 then some (.str (x++y)) else none
  | .tup xs,.tup ys=>if xs.length+ys.length≤1000000 then some (.tup (xs++ys)) else none
  | .lst xs,.lst ys=>if xs.length+ys.length≤1000000 then some (.lst (xs++ys)) else none
  | .tpn xs,.tup ys=>if xs.length+ys.length≤1000000 then some (if xs=[] then .tup ys else if ys=[] then .tpn xs else .tup (xs++ys)) else none
  | .tup xs,.tpn ys=>if xs.length+ys.length≤1000000 then some (if xs=[] then .tpn ys else .tup (xs++ys)) else none
  | .tpn xs,.tpn ys=>if xs.length+ys.length≤1000000 then some (if xs=[] then .tpn ys else if ys=[] then .tpn xs else .tup (xs++ys)) else none
  | _,_=>none
theorem cH {n:Nat} (h:n≤1000000):n≤sizeLine:=by rw[sizeLine_eq]; omega
end
end DL
namespace DL
open PySem PySem.Spec PyProof.Rows L2
theorem bO {K:PySem.W.Frag} {mg:Str→Option Value} {μ:Mu} {H:Hp} {S:Sto} (rs:RelS K mg μ H S) {p:Addr} (hp:H p=none) {ds:List D} {vs:List V} (l:RepAll K mg μ H ds vs) :
    Rep K mg μ (upd H p (.tup vs)) (.tup ds) (.ref p):=by
  unfold Rep
  exact ⟨p,vs,rfl,upd_same,rs.fresh hp,RepAll.step (.of_sm (.upd hp)) _ _ l⟩
theorem bu {K:PySem.W.Frag} {mg:Str→Option Value} {μ:Mu} {H:Hp} {S:Sto} (rs:RelS K mg μ H S) {p:Addr} (hp:H p=none) {ds:List D} {vs:List V} (l:RepAll K mg μ H ds vs) :
    Rep K mg μ (upd H p (.lst vs)) (.lst ds) (.ref p):=by
  unfold Rep
  exact ⟨p,vs,rfl,upd_same,rs.fresh hp,RepAll.step (.of_sm (.upd hp)) _ _ l⟩
section
variable {X:Cx}
theorem RepV.int {K:PySem.W.Frag} {mg:Str→Option Value} {μ:Mu} {H:Hp} {i:Int} {v:V} (h:RepV K mg μ H (.int i) v):v=.int i:=RepW.int h
theorem RepV.str {K:PySem.W.Frag} {mg:Str→Option Value} {μ:Mu} {H:Hp} {i:Str} {v:V} (h:RepV K mg μ H (.str i) v):v=.str i:=RepW.str h
theorem hY {pins:List (Addr × Obj)} {s:Shared} {σ:L2.St} {H:Hp} {x y:V} {v u:Value} {Q:VK} {μ:Mu} {S:Sto} {a b d:D} {xs ys:List D} (I:L2.Inv X pins σ H s) (rx:L2.RelV x v) (ry:L2.RelV y u) (rs:RelS X.K X.mg μ H S)
    (ra:RepV X.K X.mg μ H a x) (rb:RepV X.K X.mg μ H b y) (va:vt a=.tup xs) (vb:vt b=.tup ys) (hz:xs.length+ys.length≤1000000)
    (h1:xs=[]→d=b) (h2:xs≠[]→ys=[]→d=a) (h3:xs≠[]→ys≠[]→d=.tup (xs++ys)) (q:∀H' v,Sm H H'→Rep X.K X.mg μ H' d v→Q v H') :
    wpAny (model X.prog X.w) X.A (binaryOp .Add v u) (EP X pins σ Q) X.xe s:=by
  have wa:=ra.vt
  have wb:=rb.vt
  rw[va] at wa
  rw[vb] at wb
  have ra':Rep X.K X.mg μ H a x:=by
    cases a with
    | tup z=>exact ra
    | tpn z=>exact ra
    | _=>cases va
  have rb':Rep X.K X.mg μ H b y:=by
    cases b with
    | tup z=>exact rb
    | tpn z=>exact rb
    | _=>cases vb
  obtain ⟨p,vs,rfl,ha,la,sa⟩:=wa
  obtain ⟨p',us,rfl,hb,lb,sb⟩:=wb
  refine op_catA pins s σ H _ _ v u Q I rx ry ⟨p,p',vs,us,rfl,rfl,.inl ha,.inl hb,?_,fun h=>q H _ .rfl ?_,fun h0 h=>q H _ .rfl ?_,fun h0 h p hp=>q _ _ (.upd hp) ?_⟩
  · rw[←la.length,←lb.length]; exact cH hz
  · subst h
    have:xs=[]:=List.length_eq_zero_iff.mp la.length
    rw[h1 this]; exact rb'
  · subst h
    have e2:ys=[]:=List.length_eq_zero_iff.mp lb.length
    have e1:xs≠[]:=fun z=>h0 (by subst z; exact List.length_eq_zero_iff.mp la.length.symm)
    rw[h2 e1 e2]; exact ra'
  · have e1:xs≠[]:=fun z=>h0 (by subst z; exact List.length_eq_zero_iff.mp la.length.symm)
    have e2:ys≠[]:=fun z=>h (by subst z; exact List.length_eq_zero_iff.mp lb.length.symm)
    rw[h3 e1 e2]
    exact bO rs hp (la.append lb)
theorem a9:OpR X (binaryOp .Add) (rS X.K X.mg (lv0 am)):=by
  intro pins s σ H x y v u Q I rx ry ⟨μ,S,a,b,d,rs,ra,rb,e,q⟩
  have ra:=rs.view0 ra
  have rb:=rs.view0 rb
  simp only[lv0] at e
  generalize view0 S a=a at *
  generalize view0 S b=b at *
  unfold am at e
  split at e
  · cases e
    exact op_add pins s σ H x y v u Q I rx ry ⟨_,_,ra.int,rb.int,q H _ .rfl (bA _)⟩
  · split at e
    · rename_i hz
      cases e
      exact op_add_str pins s σ H x y v u Q I rx ry ⟨_,_,ra.str,rb.str,cH hz,q H _ .rfl (bV _)⟩
    · cases e
  · split at e
    · rename_i xs ys hz
      cases e
      exact hY I rx ry rs ra rb rfl rfl hz (fun h=>by subst h; rfl) (fun _ h=>by subst h; rw[List.append_nil]) (fun _ _=>rfl) q
    · cases e
  · split at e
    · rename_i xs ys hz
      cases e
      obtain ⟨a,vs,ea,ha,la⟩:=ra
      obtain ⟨b,us,eb,hb,lb⟩:=rb
      refine op_cat pins s σ H x y v u Q I rx ry ⟨a,b,vs,us,ea,eb,ha,hb,by rw[←la.length,←lb.length]; exact cH hz,fun p hp=>q _ _ (.upd hp) ?_⟩
      exact bu rs hp (la.append lb)
    · cases e
  · split at e
    · rename_i xs ys hz
      cases e
      exact hY I rx ry rs ra rb rfl rfl hz (fun h=>by rw[if_pos h]) (fun h h'=>by rw[if_neg h,if_pos h']) (fun h h'=>by rw[if_neg h,if_neg h']) q
    · cases e
  · split at e
    · rename_i xs ys hz
      cases e
      exact hY I rx ry rs ra rb rfl rfl hz (fun h=>by rw[if_pos h]) (fun h h'=>by rw[if_neg h,h',List.append_nil]) (fun h h'=>by rw[if_neg h]) q
    · cases e
  · split at e
    · rename_i xs ys hz
      cases e
      exact hY I rx ry rs ra rb rfl rfl hz (fun h=>by rw[if_pos h]) (fun h h'=>by rw[if_neg h,if_pos h']) (fun h h'=>by rw[if_neg h,if_neg h']) q
    · cases e
  · cases e
end
def dok:Nat→D→Bool
  | _,.none=>true
  | _,.bool _=>true
  | _,.int _=>true
  | _,.str x=>PyData.strOk x
  | n+1,.tup xs=>xs.all (dok n)
  | n+1,.lst xs=>xs.all (dok n)
  | n+1,.tpn xs=>xs.all (dok n)
  | _,_=>false
mutual
def pdF:D→PyData
  | .none=>.none
  | .bool b=>.bool b
  | .int i=>.int i
  | .str x=>.str x
  | .tup xs=>.tuple (pdFs xs)
  | .lst xs=>.list (pdFs xs)
  | .tpn xs=>.tuple (pdFs xs)
  | .ro _=>.none
  | .ty _=>.none
  | .loc _=>.none
  | .glo _=>.none
  | .adr _=>.none
  | .clo _ _ _ _=>.none
  | .exn _ _ _ _=>.none
def pdFs:List D→List PyData
  | []=>[]
  | d::ds=>pdF d::pdFs ds
end
theorem jb:∀(ds:List D) (n:Nat),(∀d∈ds,(pdF d).canLay0=true∧(pdF d).depth≤n)→PyData.canLayAll0 (pdFs ds)=true∧PyData.depthAll (pdFs ds)≤n
  | [],n,_=>⟨by unfold pdFs PyData.canLayAll0; rfl,by unfold pdFs PyData.depthAll; omega⟩
  | d::ds,n,h=>by
    obtain ⟨a,b⟩:=h d List.mem_cons_self
    obtain ⟨c,e⟩:=jb ds n fun x hx=>h x (List.mem_cons_of_mem _ hx)
    unfold pdFs PyData.canLayAll0 PyData.depthAll
    exact ⟨by rw[a,c]; rfl,by omega⟩
theorem fT:∀(n:Nat) (d:D),dok n d=true→(pdF d).canLay0=true∧(pdF d).depth≤n
  | n,.none,_=>by unfold pdF PyData.canLay0 PyData.depth; exact ⟨rfl,Nat.zero_le _⟩
  | n,.bool _,_=>by unfold pdF PyData.canLay0 PyData.depth; exact ⟨rfl,Nat.zero_le _⟩
  | n,.int _,_=>by unfold pdF PyData.canLay0 PyData.depth; exact ⟨rfl,Nat.zero_le _⟩
  | n,.str x,h=>by
    have h:PyData.strOk x=true:=by cases n<;>exact h
    unfold pdF PyData.canLay0 PyData.depth; exact ⟨h,Nat.zero_le _⟩
  | 0,.tup _,h=>by cases h
  | 0,.lst _,h=>by cases h
  | 0,.tpn _,h=>by cases h
  | n+1,.tpn xs,h=>by
    have h:xs.all (dok n)=true:=h
    have q:=jb xs n fun d hd=>fT n d (List.all_eq_true.mp h d hd)
    unfold pdF PyData.canLay0 PyData.depth
    exact ⟨q.1,by omega⟩
  | n+1,.tup xs,h=>by
    have h:xs.all (dok n)=true:=h
    have q:=jb xs n fun d hd=>fT n d (List.all_eq_true.mp h d hd)
    unfold pdF PyData.canLay0 PyData.depth
    exact ⟨q.1,by omega⟩
  | n+1,.lst xs,h=>by
    have h:xs.all (dok n)=true:=h
    have q:=jb xs n fun d hd=>fT n d (List.all_eq_true.mp h d hd)
    unfold pdF PyData.canLay0 PyData.depth
    exact ⟨q.1,by omega⟩
  | n,.ro _,h=>by cases n<;>cases h
  | n,.ty _,h=>by cases n<;>cases h
  | n,.loc _,h=>by cases n<;>cases h
  | n,.glo _,h=>by cases n<;>cases h
  | n,.adr _,h=>by cases n<;>cases h
  | n,.clo _ _ _ _,h=>by cases n<;>cases h
  | n,.exn _ _ _ _,h=>by cases n<;>cases h
theorem ce {d:D} (h:dok 60 d=true):SeqAt.shaped (pdF d)=true:=by
  obtain ⟨a,b⟩:=fT 60 d h
  unfold SeqAt.shaped
  rw[a,Bool.true_and]
  exact decide_eq_true (by omega)
section
variable {K:PySem.W.Frag} {mg:Str→Option Value} {μ:Mu} {H:Hp}
mutual
theorem fo:∀(n:Nat) (d:D) (v:V),dok n d=true→RepW K mg μ H d v→Dp K H v (pdF d)
  | n,.none,v,_,r=>by
    have r:Rep K mg μ H .none v:=r
    unfold Rep at r; subst r; unfold pdF; exact .non
  | n,.bool _,v,_,r=>by
    have r:Rep K mg μ H (.bool _) v:=r
    unfold Rep at r; subst r; unfold pdF; exact .bl _
  | n,.int _,v,_,r=>by rw[r.int]; unfold pdF; exact .int _
  | n,.str _,v,_,r=>by rw[r.str]; unfold pdF; exact .str _
  | 0,.tup _,_,h,_=>by cases h
  | 0,.lst _,_,h,_=>by cases h
  | n+1,.tup xs,v,h,r=>by
    obtain ⟨a,vs,e,h1,h2,_⟩:=r.tup
    subst e; unfold pdF
    exact .tup (.inl h1) (dps_of n xs vs h h2)
  | 0,.tpn _,_,h,_=>by cases h
  | n+1,.tpn xs,v,h,r=>by
    have r:Rep K mg μ H (.tpn xs) v:=r
    unfold Rep at r
    obtain ⟨a,vs,o,e,⟨h1,_⟩,nn,h2⟩:=r
    subst e; unfold pdF
    exact .tup (.inl (.inr ⟨o,h1⟩)) (dps_of n xs vs h h2)
  | n+1,.lst xs,v,h,r=>by
    obtain ⟨a,vs,e,h1,h2⟩:=r
    subst e; unfold pdF
    exact .lst (.of h1) (dps_of n xs vs h h2)
  | n,.ro _,_,h,_=>by cases n<;>cases h
  | n,.ty _,_,h,_=>by cases n<;>cases h
  | n,.loc _,_,h,_=>by cases n<;>cases h
  | n,.glo _,_,h,_=>by cases n<;>cases h
  | n,.adr _,_,h,_=>by cases n<;>cases h
  | n,.clo _ _ _ _,_,h,_=>by cases n<;>cases h
  | n,.exn _ _ _ _,_,h,_=>by cases n<;>cases h
theorem dps_of:∀(n:Nat) (ds:List D) (vs:List V),ds.all (dok n)=true→RepAll K mg μ H ds vs→DpAll K H vs (pdFs ds)
  | n,[],vs,_,r=>by unfold RepAll at r; subst r; unfold pdFs; exact .nil
  | n,d::ds,vs,h,r=>by
    unfold RepAll at r
    obtain ⟨v,q,rfl,h1,h2⟩:=r
    rw[List.all_cons,Bool.and_eq_true] at h
    unfold pdFs
    exact .cons (fo n d v h.1 h1.w) (dps_of n ds q h.2 h2)
end
end
/-- == -/
def peq (a b:D):Bool:=PyData.eqv (pdF a) (pdF b)
def dEq:D→D→Option D:=fun a b=>if dok 60 a&&dok 60 b then some (.bool (peq a b)) else none
def dNe:D→D→Option D:=fun a b=>if dok 60 a&&dok 60 b then some (.bool (!peq a b)) else none
section
variable {X:Cx}
theorem dG (hu:X.A.units+64<cLine):OpR X (compareOp .Eq) (rP X.K X.mg dEq):=jq (op_eqD hu) fun μ x y H Q a b d ra rb e q=>by
  unfold dEq at e
  split at e
  · rename_i h
    cases e
    rw[Bool.and_eq_true] at h
    exact ⟨_,_,fo 60 a x h.1 ra,fo 60 b y h.2 rb,ce h.1,ce h.2,q H _ .rfl (bJ _)⟩
  · cases e
theorem gp (hu:X.A.units+64<cLine):OpR X (compareOp .NotEq) (rP X.K X.mg dNe):=jq (op_neD hu) fun μ x y H Q a b d ra rb e q=>by
  unfold dNe at e
  split at e
  · rename_i h
    cases e
    rw[Bool.and_eq_true] at h
    exact ⟨_,_,fo 60 a x h.1 ra,fo 60 b y h.2 rb,ce h.1,ce h.2,q H _ .rfl (bJ _)⟩
  · cases e
/-- is None -/
def isN:D→Bool
  | .none=>true
  | _=>false
def dIsN:D→D→Option D
  | a,.none=>some (.bool (isN a))
  | _,_=>none
def fq:D→D→Option D
  | a,.none=>some (.bool (!isN a))
  | _,_=>none
theorem nA {K:PySem.W.Frag} {mg:Str→Option Value} {μ:Mu} {H:Hp} {a:D} {x:V} (r:RepW K mg μ H a x):decide (x=V.non)=isN a:=by
  cases a with
  | none=>have r:Rep K mg μ H .none x:=r; unfold Rep at r; subst r; rfl
  | bool b=>have r:Rep K mg μ H (.bool b) x:=r; unfold Rep at r; subst r; rfl
  | int i=>rw[r.int]; rfl
  | str i=>rw[r.str]; rfl
  | ty n=>have r:Rep K mg μ H (.ty n) x:=r; unfold Rep at r; subst r; rfl
  | tup ds=>obtain ⟨a,vs,e,_⟩:=r.tup; subst e; rfl
  | lst ds=>obtain ⟨a,vs,e,_⟩:=r; subst e; rfl
  | ro ds=>have r:Rep K mg μ H (.ro ds) x:=r; unfold Rep at r; obtain ⟨a,vs,e,_⟩:=r; subst e; rfl
  | loc l=>have r:Rep K mg μ H (.loc l) x:=r; unfold Rep at r; obtain ⟨a,e,_⟩:=r; subst e; rfl
  | glo l=>have r:Rep K mg μ H (.glo l) x:=r; unfold Rep at r; obtain ⟨a,e,_⟩:=r; subst e; rfl
  | adr l=>have r:Rep K mg μ H (.adr l) x:=r; unfold Rep at r; subst r; rfl
  | clo k b q F=>have r:Rep K mg μ H (.clo k b q F) x:=r; unfold Rep at r; obtain ⟨a,_,_,_,_,e,_⟩:=r; subst e; rfl
  | exn a dd ns ds=>have r:Rep K mg μ H (.exn a dd ns ds) x:=r; unfold Rep at r; obtain ⟨vs,e,_⟩:=r; subst e; rfl
  | tpn ds=>have r:Rep K mg μ H (.tpn ds) x:=r; unfold Rep at r; obtain ⟨a,vs,o,e,_⟩:=r; subst e; rfl
theorem o_is:OpR X (compareOp .Is) (rP X.K X.mg dIsN):=jq op_isN fun μ x y H Q a b d ra rb e q=>by
  unfold dIsN at e
  split at e
  · cases e
    have rb:Rep X.K X.mg μ H .none y:=rb
    unfold Rep at rb
    refine ⟨rb,?_⟩
    rw[nA ra]
    exact q H _ .rfl (bJ _)
  · cases e
theorem o_isnt:OpR X (compareOp .IsNot) (rP X.K X.mg fq):=jq op_notN fun μ x y H Q a b d ra rb e q=>by
  unfold fq at e
  split at e
  · cases e
    have rb:Rep X.K X.mg μ H .none y:=rb
    unfold Rep at rb
    refine ⟨rb,?_⟩
    rw[nA ra]
    exact q H _ .rfl (bJ _)
  · cases e
end
def fh:D→Option Key
  | .int i=>some (.inl i)
  | .str x=>some (.inr x)
  | _=>none
def gq:List D→Option (List Key)
  | []=>some []
  | d::ds=>match fh d,gq ds with
    | some k,some ks=>some (k::ks)
    | _,_=>none
def fr:D→Option (List Key)
  | .tup ds=>gq ds
  | _=>none
theorem jr {d:D} {k:Key} (h:fh d=some k):d=cy k:=by
  cases d<;>simp[fh] at h<;>subst h<;>rfl
theorem jD:∀ {ds:List D} {ks:List Key},gq ds=some ks→ds=ks.map cy
  | [],ks,h=>by simp[gq] at h; subst h; rfl
  | d::ds,ks,h=>by
    unfold gq at h
    split at h
    · rename_i k ks' h1 h2
      cases h
      rw[jr h1,jD h2]; rfl
    · cases h
theorem nB {d:D} {k:List Key} (h:fr d=some k):d=fA k:=by
  cases d<;>simp[fr] at h
  rw[jD h]; rfl
theorem gr (k:Key):fh (cy k)=some k:=by cases k<;>rfl
theorem js:∀ks:List Key,gq (ks.map cy)=some ks
  | []=>rfl
  | k::ks=>by
    show (match fh (cy k),gq (ks.map cy) with|some k,some ks=>some (k::ks)|_,_=>none)=_
    rw[gr,js ks]
theorem h9 (k:List Key):fr (fA k)=some k:=js k
end DL
namespace DL
open PySem PySem.Spec PyProof.Rows L2
def bh (t:Bool) (k:D):Bool:=if t then (fr k).isSome else (fh k).isSome
/-- two keys alike -/
def keq:Bool→D→D→Bool
  | false,a,b=>decide (fh a=fh b)
  | true,a,b=>decide (fr a=fr b)
def df (t:Bool) (kvs:List (D × D)) (k:D):Option D:=(kvs.find? fun p=>keq t p.1 k).map (·.2)
section
variable {K:PySem.W.Frag} {mg:Str→Option Value} {μ:Mu} {H:Hp}
theorem iA {k:Key} {y:V} (h:Rep K mg μ H (cy k) y):y=kV k:=by
  cases k<;>(unfold cy Rep at h; exact h)
theorem nC:∀ {ks:List Key} {ys:List V},RepAll K mg μ H (ks.map cy) ys→ys=ks.map kV
  | [],ys,h=>by
    have h:RepAll K mg μ H [] ys:=h
    unfold RepAll at h; exact h
  | k::ks,ys,h=>by
    have h:RepAll K mg μ H (cy k::ks.map cy) ys:=h
    unfold RepAll at h
    obtain ⟨v,r,rfl,h1,h2⟩:=h
    rw[iA h1,nC h2]; rfl
theorem jt {k:List Key} {y:V} (h:Rep K mg μ H (fA k) y):∃b,y=.ref b∧H b=some (.tup (k.map kV)):=by
  unfold fA Rep at h
  obtain ⟨a,vs,e,h1,_,h2⟩:=h
  rw[nC h2] at h1
  exact ⟨a,e,h1⟩
/-- what is looked up in rows and in values alike -/
theorem fu {κ:Type} [DecidableEq κ] {f:κ→D} {g:D→D→Bool} (hg:∀a b,g (f a) (f b)=decide (a=b)) (k:κ):∀ {kvs:List (D × D)} {ks:List κ} {vs:List V},kvs.map (·.1)=ks.map f→RepAll K mg μ H (kvs.map (·.2)) vs→
    match (kvs.find? fun p=>g p.1 (f k)).map (·.2) with
    | some d=>∃v,valV (ks.zip vs) k=some v∧Rep K mg μ H d v
    | none=>valV (ks.zip vs) k=none
  | [],ks,vs,h,_=>by
    have:ks=[]:=by cases ks with|nil=>rfl|cons a b=>cases h
    subst this; rfl
  | (a,d)::kvs,[],vs,h,_=>by cases h
  | (a,d)::kvs,k'::ks,vs,h,r=>by
    have r:RepAll K mg μ H (d::kvs.map (·.2)) vs:=r
    unfold RepAll at r
    obtain ⟨v,q,rfl,r1,r2⟩:=r
    injection h with h1 h2
    have h1:a=f k':=h1
    subst h1
    have ih:=fu hg k h2 r2
    rw[List.find?_cons]
    by_cases e:k'=k
    · subst e
      have:g (f k') (f k')=true:=by rw[hg]; simp
      simp only[this]
      exact ⟨v,by rw[List.zip_cons_cons]; exact valV_pos rfl,r1⟩
    · have:g (f k') (f k)=false:=by rw[hg]; simp[e]
      simp only[this]
      rw[List.zip_cons_cons]
      rw[valV_neg e]
      exact ih
theorem pc (a b:Key):keq false (cy a) (cy b)=decide (a=b):=by
  show decide (fh (cy a)=fh (cy b))=_
  rw[gr,gr]
  by_cases h:a=b
  · subst h; simp
  · simp[h]
theorem rT (a b:List Key):keq true (fA a) (fA b)=decide (a=b):=by
  show decide (fr (fA a)=fr (fA b))=_
  rw[h9,h9]
  by_cases h:a=b
  · subst h; simp
  · simp[h]
theorem pe {k:D} (h:bh false k=true):∃kk,k=cy kk:=by
  unfold bh at h
  obtain ⟨kk,e⟩:=Option.isSome_iff_exists.mp h
  exact ⟨kk,jr e⟩
theorem rU {k:D} (h:bh true k=true):∃kk,k=fA kk:=by
  unfold bh at h
  obtain ⟨kk,e⟩:=Option.isSome_iff_exists.mp h
  exact ⟨kk,nB e⟩
/-- what a dict holds,locked or not -/
def b9:Option O→Option (Bool × List (D × D))
  | some (.dct t kvs)=>some (t,kvs)
  | some (.fdc t kvs)=>some (t,kvs)
  | _=>none
theorem ju {x:Option O} {t:Bool} {kvs:List (D × D)} (h:b9 x=some (t,kvs)):x=some (.dct t kvs)∨x=some (.fdc t kvs):=by
  unfold b9 at h
  split at h
  · cases h; exact .inl rfl
  · cases h; exact .inr rfl
  · cases h
theorem t9 {t:Bool} {kvs:List (D × D)} {a:Addr} {k:D} {y:V} (h:RepO K mg μ H (.dct t kvs) a) (hk:bh t k=true) (r:Rep K mg μ H k y) :
    ∃o,DGet H a y o∧match df t kvs k with
      | some d=>∃v,o=some v∧Rep K mg μ H d v
      | none=>o=none:=by
  cases t with
  | false=>
    obtain ⟨vs,ks,⟨e,q⟩,rs⟩:=h
    obtain ⟨kk,rfl⟩:=pe hk
    rw[iA r]
    exact ⟨_,.k e,fu pc kk q rs⟩
  | true=>
    obtain ⟨vs,ks,⟨e,q⟩,rs⟩:=h
    obtain ⟨kk,rfl⟩:=rU hk
    obtain ⟨b,rfl,hb⟩:=jt r
    exact ⟨_,.t e hb,fu rT kk q rs⟩
theorem rV {t:Bool} {kvs:List (D × D)} {a:Addr} {k:D} {y:V} (h:RepO K mg μ H (.fdc t kvs) a) (hk:bh t k=true) (r:Rep K mg μ H k y) :
    ∃o,DGet H a y o∧match df t kvs k with
      | some d=>∃v,o=some v∧Rep K mg μ H d v
      | none=>o=none:=by
  cases t with
  | false=>
    obtain ⟨vs,ks,⟨⟨od,e⟩,q⟩,rs⟩:=h
    obtain ⟨kk,rfl⟩:=pe hk
    rw[iA r]
    exact ⟨_,.inl ⟨_,kk,.inr ⟨od,e⟩,rfl,rfl⟩,fu pc kk q rs⟩
  | true=>
    obtain ⟨vs,ks,⟨⟨od,e⟩,q⟩,rs⟩:=h
    obtain ⟨kk,rfl⟩:=rU hk
    obtain ⟨b,rfl,hb⟩:=jt r
    exact ⟨_,.inr ⟨_,kk,b,.inr ⟨od,e⟩,rfl,hb,rfl⟩,fu rT kk q rs⟩
theorem nD {S:Sto} {l:Nat} {t:Bool} {kvs:List (D × D)} {a:Addr} {k:D} {y:V} (rs:RelS K mg μ H S) (hμ:μ.l[l]?=some a) (es:b9 S[l]?=some (t,kvs)) (hk:bh t k=true) (r:Rep K mg μ H k y) :
    ∃o,DGet H a y o∧match df t kvs k with
      | some d=>∃v,o=some v∧Rep K mg μ H d v
      | none=>o=none:=by
  rcases ju es with es|es
  · obtain ⟨ad',h1,ro⟩:=rs.at_ l _ es
    rw[hμ] at h1; cases h1
    exact t9 ro hk r
  · obtain ⟨ad',h1,ro⟩:=rs.at_ l _ es
    rw[hμ] at h1; cases h1
    exact rV ro hk r
end
/-- whether a is in b -/
def dIn (S:Sto) (a b:D):Option Bool:=match view S b with
  | .lst xs=>if dok 60 a&&dok 60 (.lst xs) then some (xs.any fun z=>peq z a) else none
  | .tup xs=>if dok 60 a&&dok 60 (.tup xs) then some (xs.any fun z=>peq z a) else match view0 S a with
    | .lst ys=>if dok 60 (.lst ys)&&dok 60 (.tup xs) then some (xs.any fun z=>peq z (.lst ys)) else none
    | _=>none
  | .str z=>match a with
    | .str x=>if x.cps.size=1 then some (decide (x.cps.getD 0 0∈z.cps.toList)) else none
    | _=>none
  | .loc l=>match b9 S[l]? with
    | some (t,kvs)=>if bh t a then some (df t kvs a).isSome else none
    | none=>none
  | _=>none
def fIn:Sto→D→D→Option D:=fun S a b=>(dIn S a b).map .bool
def fU:Sto→D→D→Option D:=fun S a b=>(dIn S a b).map fun c=>.bool (!c)
theorem nE {x:Str} (h:x.cps.size=1):x=⟨#[x.cps.getD 0 0]⟩:=by
  obtain ⟨⟨l⟩⟩:=x
  match l,h with
  | [c],_=>rfl
theorem gt (a:D):∀xs:List D,((pdFs xs).any fun z=>PyData.eqv z (pdF a))=xs.any fun z=>peq z a
  | []=>by unfold pdFs; rfl
  | x::xs=>by unfold pdFs; rw[List.any_cons,List.any_cons,gt a xs]; rfl
section
variable {X:Cx}
theorem pf (hu:X.A.units+65<cLine) {pins:List (Addr × Obj)} {s:Shared} {σ:L2.St} {H:Hp} {x y:V} {v u:Value} {Q:Bool→Hp→Prop} {μ:Mu} {S:Sto} {a b:D} {c:Bool} (I:L2.Inv X pins σ H s) (rx:L2.RelV x v) (ry:L2.RelV y u)
    (rs:RelS X.K X.mg μ H S) (ra:Rep X.K X.mg μ H a x) (rb:Rep X.K X.mg μ H b y) (e:dIn S a b=some c) (q:Q c H) (neg:Bool) :
    wpAny (model X.prog X.w) X.A (compareOp (if neg then .NotIn else .In) v u) (fun r s'=>∃H',L2.Inv X pins σ H' s'∧r=.bool (if neg then !c else c)∧Q c H') X.xe s:=by
  unfold dIn at e
  have rw0:=rs.view rb
  split at e
  · rename_i xs ev
    rw[ev] at rw0
    split at e
    · rename_i h
      rw[Bool.and_eq_true] at h
      cases e
      have dy:=fo 60 _ y h.2 rw0
      have dx:=fo 60 a x h.1 ra.w
      obtain ⟨as,r1⟩:=Dp.reads I _ x v dx rx
      obtain ⟨bs,r2⟩:=Dp.reads I _ y u dy ry
      unfold pdF at r2
      have hl:=(fT 60 _ h.2).1
      unfold pdF at hl
      have sd:=ce h.1
      cases neg
      · exact SeqAt.in_list_reads r2 r1 hl (SeqAt.canLay_of_shaped sd) (room_in_shaped sd hu) ⟨H,I,by rw[gt]; rfl,q⟩
      · exact SeqAt.notIn_list_reads r2 r1 hl (SeqAt.canLay_of_shaped sd) (room_in_shaped sd hu) ⟨H,I,by rw[gt]; rfl,q⟩
    · cases e
  · rename_i xs ev
    rw[ev] at rw0
    split at e
    · rename_i h
      rw[Bool.and_eq_true] at h
      cases e
      have dy:=fo 60 _ y h.2 rw0
      have dx:=fo 60 a x h.1 ra.w
      obtain ⟨as,r1⟩:=Dp.reads I _ x v dx rx
      obtain ⟨bs,r2⟩:=Dp.reads I _ y u dy ry
      unfold pdF at r2
      have hl:=(fT 60 _ h.2).1
      unfold pdF at hl
      have sd:=ce h.1
      cases neg
      · exact SeqAt.in_tuple_reads r2 r1 hl (SeqAt.canLay_of_shaped sd) (room_in_shaped sd hu) ⟨H,I,by rw[gt]; rfl,q⟩
      · exact SeqAt.notIn_tuple_reads r2 r1 hl (SeqAt.canLay_of_shaped sd) (room_in_shaped sd hu) ⟨H,I,by rw[gt]; rfl,q⟩
    · have ra0:=rs.view0 ra
      split at e
      · rename_i ys eva
        rw[eva] at ra0
        split at e
        · rename_i h
          rw[Bool.and_eq_true] at h
          cases e
          have dy:=fo 60 _ y h.2 rw0
          have dx:=fo 60 (.lst ys) x h.1 (RepV.vt ra0)
          obtain ⟨as,r1⟩:=Dp.reads I _ x v dx rx
          obtain ⟨bs,r2⟩:=Dp.reads I _ y u dy ry
          unfold pdF at r2
          have hl:=(fT 60 _ h.2).1
          unfold pdF at hl
          have sd:=ce h.1
          cases neg
          · exact SeqAt.in_tuple_reads r2 r1 hl (SeqAt.canLay_of_shaped sd) (room_in_shaped sd hu) ⟨H,I,by rw[gt]; rfl,q⟩
          · exact SeqAt.notIn_tuple_reads r2 r1 hl (SeqAt.canLay_of_shaped sd) (room_in_shaped sd hu) ⟨H,I,by rw[gt]; rfl,q⟩
        · cases e
      · cases e
  · rename_i z ev
    rw[ev] at rw0
    split at e
    · rename_i x'
      split at e
      · rename_i h
        cases e
        have ex:x=.str x':=ra.w.str
        have ey:=rw0.str
        rw[nE h] at ex
        cases neg
        · refine thn (op_in_sign pins s σ H x y v u (fun w H'=>w=.bl (decide (x'.cps.getD 0 0∈z.cps.toList))∧H'=H) I rx ry ⟨_,z,ex,ey,rfl,rfl⟩) fun r s' ⟨w,H',I',rr,ew,eH⟩=>?_
          subst ew eH
          exact ⟨_,I',rr,q⟩
        · refine thn (op_notIn_sign pins s σ H x y v u (fun w H'=>w=.bl (!decide (x'.cps.getD 0 0∈z.cps.toList))∧H'=H) I rx ry ⟨_,z,ex,ey,rfl,rfl⟩) fun r s' ⟨w,H',I',rr,ew,eH⟩=>?_
          subst ew eH
          exact ⟨_,I',rr,q⟩
      · cases e
    · cases e
  · rename_i l ev
    rw[ev] at rw0
    have rw1:Rep X.K X.mg μ H (.loc l) y:=rw0
    unfold Rep at rw1
    obtain ⟨ad,rfl,hμ⟩:=rw1
    split at e
    · rename_i t kvs es
      split at e
      · rename_i hk
        cases e
        obtain ⟨o,g,m⟩:=nD rs hμ es hk ra
        obtain rfl:u=Value.ref ad:=ry
        have ho:o.isSome=(df t kvs a).isSome:=by
          cases el:df t kvs a with
          | some d=>rw[el] at m; obtain ⟨v',e',_⟩:=m; rw[e']; rfl
          | none=>rw[el] at m; rw[show o=none from m]; rfl
        cases neg
        · exact d_in (by omega) I g rx fun s' I'=>⟨H,I',by rw[ho]; rfl,q⟩
        · exact d_notIn (by omega) I g rx fun s' I'=>⟨H,I',by rw[ho]; rfl,q⟩
      · cases e
    · cases e
  · cases e
theorem o_in (hu:X.A.units+65<cLine):OpR X (compareOp .In) (rS X.K X.mg fIn):=by
  intro pins s σ H x y v u Q I rx ry ⟨μ,S,a,b,d,rs,ra,rb,e,q⟩
  unfold fIn at e
  obtain ⟨c,e1,e2⟩:=Option.map_eq_some_iff.mp e
  subst e2
  exact thn (pf hu (Q:=fun c' H'=>c'=c∧H'=H) I rx ry rs ra rb e1 ⟨rfl,rfl⟩ false) fun r s' ⟨H',I',er,_,eH⟩=>by
    subst er eH
    exact ⟨.bl c,_,I',rfl,q _ _ .rfl (bJ _)⟩
theorem ph (hu:X.A.units+65<cLine):OpR X (compareOp .NotIn) (rS X.K X.mg fU):=by
  intro pins s σ H x y v u Q I rx ry ⟨μ,S,a,b,d,rs,ra,rb,e,q⟩
  unfold fU at e
  obtain ⟨c,e1,e2⟩:=Option.map_eq_some_iff.mp e
  subst e2
  exact thn (pf hu (Q:=fun c' H'=>c'=c∧H'=H) I rx ry rs ra rb e1 ⟨rfl,rfl⟩ true) fun r s' ⟨H',I',er,_,eH⟩=>by
    subst er eH
    exact ⟨.bl (!c),_,I',rfl,q _ _ .rfl (bJ _)⟩
end
def fIx (S:Sto) (a k:D):Option D:=match view S a with
  | .lst xs=>match k with
    | .int i=>atI xs i
    | _=>none
  | .tup xs=>match k with
    | .int i=>atI xs i
    | _=>none
  | .ro xs=>match k with
    | .int i=>atI xs i
    | _=>none
  | .str z=>match k with
    | .int i=>if z.length≤1000000 then (atI z.cps.toList i).map fun c=>.str ⟨#[c]⟩ else none
    | _=>none
  | .loc l=>match b9 S[l]? with
    | some (t,kvs)=>if bh t k then df t kvs k else none
    | none=>none
  | _=>none
theorem RepAll.atI {K:PySem.W.Frag} {mg:Str→Option Value} {μ:Mu} {H:Hp} {xs:List D} {vs:List V} {i:Int} {d:D} (r:RepAll K mg μ H xs vs) (h:L2.atI xs i=some d):∃v,L2.atI vs i=some v∧Rep K mg μ H d v:=by
  unfold L2.atI at *
  rw[←r.length]
  obtain ⟨j,h1,h2⟩:=Option.bind_eq_some_iff.mp h
  obtain ⟨v,e1,e2⟩:=r.get h2
  exact ⟨v,by rw[h1]; exact e1,e2⟩
section
variable {X:Cx} {W:WX} {a b:Expr} {pos:Pos} {ma mb:ME}
theorem ix_any (hu:X.A.units+1<cLine):IxR X (rS X.K X.mg fIx):=by
  intro value slice pins s σ H x y v u Q I rx ry ⟨μ,S,a,k,d,rs,ra,rb,e,q⟩ hs
  unfold fIx at e
  have rw0:=rs.view ra
  split at e
  · rename_i xs ev
    rw[ev] at rw0
    split at e
    · obtain ⟨p,vs,ep,hp,l⟩:=rw0
      obtain ⟨w,h1,h2⟩:=l.atI e
      exact ix_list value slice pins s σ H x y v u Q I rx ry ⟨p,vs,_,w,ep,rb.w.int,.of hp,h1,q H w .rfl h2⟩ hs
    · cases e
  · rename_i xs ev
    rw[ev] at rw0
    split at e
    · obtain ⟨p,vs,ep,hp,l,_⟩:=rw0.tup
      obtain ⟨w,h1,h2⟩:=l.atI e
      exact ix_tup value slice pins s σ H x y v u Q I rx ry ⟨p,vs,_,w,ep,rb.w.int,.inl hp,h1,q H w .rfl h2⟩ hs
    · cases e
  · rename_i xs ev
    rw[ev] at rw0
    split at e
    · have rw0:Rep X.K X.mg μ H (.ro xs) x:=rw0
      unfold Rep at rw0
      obtain ⟨p,vs,ep,hp,l⟩:=rw0
      obtain ⟨w,h1,h2⟩:=l.atI e
      exact ix_list value slice pins s σ H x y v u Q I rx ry ⟨p,vs,_,w,ep,rb.w.int,hp.sq,h1,q H w .rfl h2⟩ hs
    · cases e
  · rename_i z ev
    rw[ev] at rw0
    split at e
    · split at e
      · rename_i hz
        obtain ⟨c,h1,h2⟩:=Option.map_eq_some_iff.mp e
        subst h2
        exact ix_str value slice pins s σ H x y v u Q I rx ry ⟨z,_,c,rw0.str,rb.w.int,cH hz,h1,q H _ .rfl (bV _)⟩ hs
      · cases e
    · cases e
  · rename_i l ev
    rw[ev] at rw0
    have rw1:Rep X.K X.mg μ H (.loc l) x:=rw0
    unfold Rep at rw1
    obtain ⟨ad,rfl,hμ⟩:=rw1
    split at e
    · rename_i t kvs es
      split at e
      · rename_i hk
        obtain ⟨o,g,m⟩:=nD rs hμ es hk rb
        rw[e] at m
        obtain ⟨w,eo,rw'⟩:=m
        subst eo
        obtain rfl:v=Value.ref ad:=rx
        have hT:=dict_typeIs I g
        unfold subscriptTail
        refine wpAny_bind ?_
        rw[getitemInPython_of_ne hT.not_modules]
        refine wpAny_bind (wpAny_specialOf hT PySem.F.slot_dict_getitem.lookup ?_)
        have fin:wpAny (model X.prog X.w) X.A (subscripted slice false (.ref ad) u) (fun r s₃=>wpAny (model X.prog X.w) X.A (letTemporaryGo value (.ref ad) r >>= fun _=>pure r) (EP X pins σ Q) X.xe s₃) X.xe s:=by
          rw[hs]
          exact wpAny_operating (thn (d_getItem hu I g ry fun w' s3 I3 rw2=>(⟨w,H,I3,rw2,q H w .rfl rw'⟩:EP X pins σ Q w' s3)) fun r s₃ h₃=>wpAny_bind (wpAny_letTemporaryGo (wpAny_pure h₃)))
        first
          | exact wpAny_pure (wpAny_bind fin)
          | exact wpAny_bind (wpAny_pure (wpAny_bind fin))
          | exact wpAny_bind fin
      · cases e
    · cases e
  · cases e
theorem ak (hu:X.A.units+1<cLine) (ha:PE X a (tE X W ma)) (hb:PE X b (tE X W mb)) (hs:PlainIx b:=by exact fun _ _=>rfl):PE X (.Subscript a b pos) (tE X W (aJ fIx ma mb)):=
  cB (pe_ix (ix_any hu) ha hb hs) fun _ _ _ h=>pZ h
end
def bc {α:Type} (xs:List α) (lo hi:Option Int):List α:=(xs.drop (HT.sIx xs.length 0 lo)).take (HT.sIx xs.length xs.length hi - HT.sIx xs.length 0 lo)
def jV (d:D) (lo hi:Option Int):Option D:=match d with
  | .lst xs=>some (.lst (bc xs lo hi))
  | .tup xs=>some (.tup (bc xs lo hi))
  | .tpn xs=>some (if HT.sIx xs.length 0 lo=0∧HT.sIx xs.length xs.length hi=xs.length then .tpn xs else .tup (bc xs lo hi))
  | .str z=>if z.length≤1000000 then some (.str (cutS z lo hi)) else none
  | _=>none
abbrev MP:=En→Sto→Res (Option Int)
def pNo:MP:=fun _ S=>.ok none S
def cR (m:ME):MP:=fun env S=>(m env S).bind fun d S=>match d with
  | .int i=>.ok (some i) S
  | _=>.stuck
def fm (m:ME) (ml mh:MP):ME:=fun env S=>(m env S).bind fun d S=>(ml env S).bind fun lo S=>(mh env S).bind fun hi S=>ofO S (jV (view0 S d) lo hi)
section
variable {X:Cx} {W:WX} {e:Expr} {pos p2:Pos} {m:ME} {ml mh:MP} {lo hi:Option Expr}
abbrev tP (X:Cx) (W:WX) (m:MP):L2.St→Hp→(Option Int→Hp→Prop)→Prop:=tM X (fun _ _ a b=>b=a) W m
def PO' (X:Cx) (W:WX) (o:Option Expr) (m:MP):Prop:=PO X o (tP X W m)
theorem jE:PO' X W none pNo:=⟨fun pins s σ H Q I h=>po_none.run pins s σ H Q I (by
  obtain ⟨env,S,μ,rl,o⟩:=h
  exact o μ H none .refl rl.sto rfl)⟩
theorem dC (h:PE X e (tE X W m)):PO' X W (some e) (cR m):=⟨fun pins s σ H Q I w=>(po_some h).run pins s σ H Q I (by
  obtain ⟨env,S,μ,rl,o⟩:=w
  refine ⟨env,S,μ,rl,(Out.bind o).mono fun x H1 ⟨μ1,S1,d,st,rs,r,o1⟩=>?_⟩
  cases d with
  | int i=>unfold Rep at r; exact ⟨i,r,o1 μ1 H1 _ .refl rs rfl⟩
  | _=>exact o1.elim)⟩
theorem sl_any:SlR X (fun x lo hi H Q=>∃μ S d d',RelS X.K X.mg μ H S∧RepV X.K X.mg μ H d x∧jV d lo hi=some d'∧∀H' v,Sm H H'→Rep X.K X.mg μ H' d' v→Q v H'):=by
  intro pins s σ H x v vl vu lo hi sl Q I rx hs pl pu ⟨μ,S,d,d',rs,r,e,q⟩
  unfold jV at e
  split at e
  · cases e
    obtain ⟨a,vs,ea,ha,l⟩:=r
    refine sl_list pins s σ H x v vl vu lo hi sl Q I rx hs pl pu ⟨a,vs,ea,.of ha,fun p hp=>q _ _ (.upd hp) ?_⟩
    refine bu rs hp ?_
    unfold bc cutV
    rw[←l.length]
    exact (l.drop _).take _
  · rename_i xs
    cases e
    have r':Rep X.K X.mg μ H (.tup xs) x:=r
    obtain ⟨a,vs,ea,ha,l,na⟩:=r.vt
    subst ea
    have el:cutV vs lo hi=(vs.drop (HT.sIx xs.length 0 lo)).take (HT.sIx xs.length xs.length hi - HT.sIx xs.length 0 lo):=by unfold cutV; rw[←l.length]
    refine sl_tupA pins s σ H _ v vl vu lo hi sl Q I rx hs pl pu ⟨a,vs,rfl,.inl ha,fun hw=>q H _ .rfl ?_,fun _ p hp=>q _ _ (.upd hp) ?_⟩
    · have:bc xs lo hi=xs:=by
        unfold bc
        rw[←l.length] at hw
        rw[hw.1,hw.2]; simp
      rw[this]
      exact r'
    · refine bO rs hp ?_
      rw[el]
      unfold bc
      exact (l.drop _).take _
  · rename_i xs
    cases e
    have r':Rep X.K X.mg μ H (.tpn xs) x:=r
    obtain ⟨a,vs,ea,ha,l,na⟩:=r.vt
    subst ea
    have el:cutV vs lo hi=(vs.drop (HT.sIx xs.length 0 lo)).take (HT.sIx xs.length xs.length hi - HT.sIx xs.length 0 lo):=by unfold cutV; rw[←l.length]
    refine sl_tupA pins s σ H _ v vl vu lo hi sl Q I rx hs pl pu ⟨a,vs,rfl,.inl ha,fun hw=>q H _ .rfl ?_,fun hw p hp=>q _ _ (.upd hp) ?_⟩
    · rw[←l.length] at hw
      rw[if_pos hw]
      exact r'
    · rw[←l.length] at hw
      rw[if_neg hw]
      refine bO rs hp ?_
      rw[el]
      unfold bc
      exact (l.drop _).take _
  · split at e
    · rename_i hz
      cases e
      exact sl_str pins s σ H x v vl vu lo hi sl Q I rx hs pl pu ⟨_,RepV.str r,cH hz,q H _ .rfl (bV _)⟩
    · cases e
  · cases e
theorem fV (he:PE X e (tE X W m)) (hl:PO' X W lo ml) (hh:PO' X W hi mh):PE X (.Subscript e (.Slice lo hi none p2) pos) (tE X W (fm m ml mh)):=
  cB (pe_slice sl_any he hl hh) fun σ H Q ⟨env,S,μ,rl,o⟩=>by
    refine ⟨env,S,μ,rl,(Out.bind o).mono fun x H1 ⟨μ1,S1,d,st,rs,r,o1⟩=>?_⟩
    refine ⟨env,S1,μ1,⟨rl.env.step st,rs⟩,(Out.bind o1).mono fun lo' H2 ⟨μ2,S2,dl,st2,rs2,rl2,o2⟩=>?_⟩
    subst rl2
    refine ⟨env,S2,μ2,⟨(rl.env.step st).step st2,rs2⟩,(Out.bind o2).mono fun hi' H3 ⟨μ3,S3,dh,st3,rs3,rh3,o3⟩=>?_⟩
    subst rh3
    cases e:jV (view0 S3 d) lo' hi' with
    | none=>rw[e] at o3; exact o3.elim
    | some d'=>
      rw[e] at o3
      exact ⟨μ3,S3,_,d',rs3,rs3.view0 (Rep.step st3 _ _ (Rep.step st2 _ _ r)),e,fun H' v sm rr=>o3 μ3 H' v (.of_sm sm) (rs3.sm sm) rr⟩
end
end DL
namespace DL
open PySem PySem.Spec PyProof.Rows L2
def eC (d:D):ME:=fun _ S=>.ok d S
def eV (i:Nat):ME:=fun env S=>match env[i]? with
  | some (some d)=>.ok d S
  | _=>.stuck
section
variable {X:Cx} {W:WX} {a b c e:Expr} {pos:Pos} {m ma mb mc:ME} {ta tb tc:MT} {rest:List Expr}
theorem nF {te:TE} {d:D} (h:PE X e te) (i:∀σ H Q μ S,RelS X.K X.mg μ H S→(∀v,Rep X.K X.mg μ H d v→Q v H)→te σ H Q):PE X e (tE X W (eC d)):=
  cB h fun σ H Q ⟨env,S,μ,rl,o⟩=>i σ H Q μ S rl.sto fun v r=>o μ H v .refl rl.sto r
theorem aH {i j}:PE X (.Constant (.int i) j pos) (tE X W (eC (.int i))):=nF pe_int fun _ _ _ _ _ _ q=>q _ (bA _)
theorem cY {i j}:PE X (.Constant (.bool i) j pos) (tE X W (eC (.bool i))):=nF pe_bl fun _ _ _ _ _ _ q=>q _ (bJ _)
theorem cN {j}:PE X (.Constant .none j pos) (tE X W (eC .none)):=nF pe_non fun _ _ _ _ _ _ q=>q _ jp
theorem aL {i j}:PE X (.Constant (.str i) j pos) (tE X W (eC (.str i))):=nF pe_str fun _ _ _ _ _ _ q=>q _ (bV _)
theorem aC (i:Nat) {x:Str} (hN:X.N[i]?=some x:=by rfl) (hv:Vis X.env.scope x:=by first|exact Or.inl rfl|exact Or.inr (Or.inl rfl)|exact Or.inr (Or.inr rfl)) (hd:(x == ("__debug__":Str))=false:=by decide)
    (hcd:(x == ("__classdict__":Str))=false:=by decide):PE X (.Name x pos) (tE X W (eV i)):=
  cB (pe_var hN hv hd hcd) fun σ H Q ⟨env,S,μ,rl,o⟩=>by
    unfold eV at o
    cases e:env[i]? with
    | none=>simp only[e] at o; exact o.elim
    | some w=>
      cases w with
      | none=>simp only[e] at o; exact o.elim
      | some d=>
        simp only[e] at o
        obtain ⟨v,h1,h2⟩:=rl.env.at_ i d e
        exact ⟨v,h1,o μ H v .refl rl.sto h2⟩
theorem uA {x:Str} {i:Int} {t} (hg:Gl X x) (hm:X.mg x=some (.int i t)) (hd:(x == ("__debug__":Str))=false:=by decide):PE X (.Name x pos) (tE X W (eC (.int i))):=
  nF (pe_glob (v:=.int i) hg hm ⟨_,rfl⟩ hd) fun _ _ _ _ _ _ q=>q _ (bA _)
theorem uB {x:Str} {i:Str} {t} (hg:Gl X x) (hm:X.mg x=some (.str i t)) (hd:(x == ("__debug__":Str))=false:=by decide):PE X (.Name x pos) (tE X W (eC (.str i))):=
  nF (pe_glob (v:=.str i) hg hm ⟨_,rfl⟩ hd) fun _ _ _ _ _ _ q=>q _ (bV _)
theorem bX {x:Str} {n:String} (hg:Gl X x) (hm:X.mg x=none) (hv:bootBuiltins x=some (.type n)) (hn:x≠"__name__":=by decide) (hd:(x == ("__debug__":Str))=false:=by decide):PE X (.Name x pos) (tE X W (eC (.ty n))):=
  nF (pe_bltn (v:=.ty n) hg hm hv rfl hn hd) fun _ _ _ _ _ _ q=>q _ (by unfold Rep; rfl)
theorem bC {x:Str} {a:Addr} (hg:Gl X x) (hm:X.mg x=some (.ref a)) (hd:(x == ("__debug__":Str))=false:=by decide):PE X (.Name x pos) (tE X W (eC (.glo x))):=
  nF (pe_glob (v:=.ref a) hg hm rfl hd) fun _ _ _ _ _ _ q=>q _ (by unfold Rep; exact ⟨a,rfl,hm⟩)
def eP (S:Sto) (d:D):Option Bool:=match view S d with
  | .none=>some false
  | .bool b=>some b
  | .int i=>some (i != 0)
  | .str x=>if x.length≤1000000 then some ((x.length:Int) != 0) else none
  | .tup xs=>some (!xs.isEmpty)
  | .lst xs=>some (!xs.isEmpty)
  | .ro xs=>some (!xs.isEmpty)
  | .loc l=>match S[l]? with
    | some (.dct false kvs)=>some (!kvs.isEmpty)
    | _=>none
  | _=>none
theorem fw {K:PySem.W.Frag} {mg:Str→Option Value} {μ:Mu} {H:Hp} {xs:List D} {vs:List V} (r:RepAll K mg μ H xs vs):xs.isEmpty=vs.isEmpty:=by
  cases xs with
  | nil=>unfold RepAll at r; subst r; rfl
  | cons a b=>unfold RepAll at r; obtain ⟨v,q,rfl,_⟩:=r; rfl
theorem lw {K:PySem.W.Frag} {mg:Str→Option Value} {μ:Mu} {H:Hp} {S:Sto} {d:D} {x:V} {k:Bool} (rs:RelS K mg μ H S) (r:Rep K mg μ H d x) (e:eP S d=some k):TruV K x H k:=by
  unfold eP at e
  have w:=rs.view r
  split at e
  · rename_i ev
    rw[ev] at w; cases e
    have w:Rep K mg μ H .none x:=w
    unfold Rep at w; subst w; rfl
  · rename_i ev
    rw[ev] at w; cases e
    have w:Rep K mg μ H (.bool _) x:=w
    unfold Rep at w; subst w; rfl
  · rename_i ev
    rw[ev] at w; cases e
    rw[w.int]; rfl
  · rename_i ev
    rw[ev] at w
    split at e
    · rename_i hz
      cases e
      rw[w.str]; exact ⟨cH hz,rfl⟩
    · cases e
  · rename_i ev
    rw[ev] at w; cases e
    obtain ⟨a,vs,rfl,h,l,_⟩:=w.tup
    exact .inr (.inl ⟨vs,.inl h,by rw[fw l]⟩)
  · rename_i ev
    rw[ev] at w; cases e
    obtain ⟨a,vs,rfl,h,l⟩:=w
    exact .inl ⟨vs,.of h,by rw[fw l]⟩
  · rename_i ev
    rw[ev] at w; cases e
    have w:Rep K mg μ H (.ro _) x:=w
    unfold Rep at w
    obtain ⟨a,vs,rfl,h,l⟩:=w
    exact .inl ⟨vs,h.sq,by rw[fw l]⟩
  · rename_i l ev
    rw[ev] at w
    have w:Rep K mg μ H (.loc l) x:=w
    unfold Rep at w
    obtain ⟨a,rfl,hμ⟩:=w
    split at e
    · rename_i kvs es
      cases e
      obtain ⟨a',h1,vs,ks,⟨h2,hk⟩,l⟩:=rs.at_ _ _ es
      rw[hμ] at h1; cases h1
      refine .inr (.inr ⟨_,h2,?_⟩)
      cases kvs with
      | nil=>
        cases ks with
        | nil=>rfl
        | cons a b=>cases hk
      | cons p q=>
        cases ks with
        | nil=>cases hk
        | cons a b=>
          have l:RepAll K mg μ H (p.2::q.map (·.2)) vs:=l
          unfold RepAll at l
          obtain ⟨v,r,rfl,_⟩:=l
          rfl
    · cases e
  · cases e
def cI (m:ME):MT:=fun env S=>(m env S).bind fun d S=>ofO S (eP S d)
theorem t_tru {σ:L2.St} {H:Hp} {Q:Bool→Hp→Prop} (h:tT X W (cI m) σ H Q):tE X W m σ H fun x H'=>∃k,TruV X.K x H' k∧Q k H':=by
  obtain ⟨env,S,μ,rl,o⟩:=h
  refine ⟨env,S,μ,rl,(Out.bind o).mono fun x H1 ⟨μ1,S1,d,st,rs,r,o1⟩=>?_⟩
  cases e:eP S1 d with
  | none=>rw[e] at o1; exact o1.elim
  | some k=>rw[e] at o1; exact ⟨k,lw rs r e,o1 μ1 H1 k .refl rs rfl⟩
theorem bK (h:PE X a (tE X W m)) (he:∀whole,isTrue a X.env whole=(do let v ←whole; standAt a.pos; holding [v] (truthy v)):=by exact fun _=>rfl):PT X a (tT X W (cI m)):=
  k7 (pt_truth h he) fun σ H Q w=>t_tru w
def pi (ma mb:MT):MT:=fun env S=>(ma env S).bind fun c S=>if c=true then mb env S else .ok false S
def eq (ma mb:MT):MT:=fun env S=>(ma env S).bind fun c S=>if c=true then .ok true S else mb env S
def bi (ma:MT):MT:=fun env S=>(ma env S).bind fun c S=>.ok (!c) S
theorem uC (h:PT X a (tT X W ta)):PW X (.BoolOp .And [a] pos) (tT X W ta):=pw_and1 h
theorem dY (h:PT X a (tT X W ta)):PW X (.BoolOp .Or [a] pos) (tT X W ta):=pw_or1 h
theorem sW_and (ha:PT X a (tT X W ta)) (hb:PW X (.BoolOp .And (b::rest) pos) (tT X W tb)):PW X (.BoolOp .And (a::b::rest) pos) (tT X W (pi ta tb)):=
  pw_to (pw_and ha hb) fun σ H Q ⟨env,S,μ,rl,o⟩=>⟨env,S,μ,rl,(Out.bind o).mono fun x H1 ⟨μ1,S1,d,st,rs,r,o1⟩=>by
    subst r
    cases x with
    | true=>exact ⟨env,S1,μ1,⟨rl.env.step st,rs⟩,o1⟩
    | false=>exact o1 μ1 H1 _ .refl rs rfl⟩
theorem dg (ha:PT X a (tT X W ta)) (hb:PW X (.BoolOp .Or (b::rest) pos) (tT X W tb)):PW X (.BoolOp .Or (a::b::rest) pos) (tT X W (eq ta tb)):=
  pw_to (pw_or ha hb) fun σ H Q ⟨env,S,μ,rl,o⟩=>⟨env,S,μ,rl,(Out.bind o).mono fun x H1 ⟨μ1,S1,d,st,rs,r,o1⟩=>by
    subst r
    cases x with
    | false=>exact ⟨env,S1,μ1,⟨rl.env.step st,rs⟩,o1⟩
    | true=>exact o1 μ1 H1 _ .refl rs rfl⟩
theorem c6 {op es} (h:PW X (.BoolOp op es pos) (tT X W ta)):PT X (.BoolOp op es pos) (tT X W ta):=h.pt
theorem bp (ha:PT X a (tT X W ta)):PT X (.UnaryOp .Not a pos) (tT X W (bi ta)):=
  k7 (pt_not ha) fun σ H Q ⟨env,S,μ,rl,o⟩=>⟨env,S,μ,rl,(Out.bind o).mono fun x H1 ⟨μ1,S1,d,st,rs,r,o1⟩=>by
    subst r
    exact o1 μ1 H1 _ .refl rs rfl⟩
def fz (ma mb:ME):ME:=fun env S=>(ma env S).bind fun d S=>(ofO S (eP S d)).bind fun c S=>if c=true then mb env S else .ok d S
def eOr (ma mb:ME):ME:=fun env S=>(ma env S).bind fun d S=>(ofO S (eP S d)).bind fun c S=>if c=true then .ok d S else mb env S
def eNot (ma:ME):ME:=fun env S=>(ma env S).bind fun d S=>(ofO S (eP S d)).bind fun c S=>.ok (.bool (!c)) S
def eIf (tc:MT) (ma mb:ME):ME:=fun env S=>(tc env S).bind fun c S=>if c=true then ma env S else mb env S
theorem fW {op} (h:PE X a (tE X W m)):PE X (.BoolOp op [a] pos) (tE X W m):=pe_one h
theorem co (ha:PE X a (tE X W ma)) (hb:PE X (.BoolOp .And (b::rest) pos) (tE X W mb)):PE X (.BoolOp .And (a::b::rest) pos) (tE X W (fz ma mb)):=
  cB (pe_andT ha hb) fun σ H Q ⟨env,S,μ,rl,o⟩=>⟨env,S,μ,rl,(Out.bind o).mono fun x H1 ⟨μ1,S1,d,st,rs,r,o1⟩=>by
    cases e:eP S1 d with
    | none=>rw[e] at o1; exact o1.elim
    | some k=>
      rw[e] at o1
      refine ⟨k,lw rs r e,?_⟩
      cases k with
      | true=>exact ⟨env,S1,μ1,⟨rl.env.step st,rs⟩,o1⟩
      | false=>exact o1 μ1 H1 _ .refl rs r⟩
theorem rW (ha:PE X a (tE X W ma)):PE X (.UnaryOp .Not a pos) (tE X W (eNot ma)):=
  cB (pe_notT ha) fun σ H Q ⟨env,S,μ,rl,o⟩=>⟨env,S,μ,rl,(Out.bind o).mono fun x H1 ⟨μ1,S1,d,st,rs,r,o1⟩=>by
    cases e:eP S1 d with
    | none=>rw[e] at o1; exact o1.elim
    | some k=>
      rw[e] at o1
      exact ⟨k,lw rs r e,o1 μ1 H1 _ .refl rs (bJ _)⟩⟩
theorem f6 (hc:PT X c (tT X W tc)) (ha:PE X a (tE X W ma)) (hb:PE X b (tE X W mb)):PE X (.IfExp c a b pos) (tE X W (eIf tc ma mb)):=
  cB (pe_ifExp hc ha hb) fun σ H Q ⟨env,S,μ,rl,o⟩=>⟨env,S,μ,rl,(Out.bind o).mono fun x H1 ⟨μ1,S1,d,st,rs,r,o1⟩=>by
    subst r
    cases x with
    | true=>exact ⟨env,S1,μ1,⟨rl.env.step st,rs⟩,o1⟩
    | false=>exact ⟨env,S1,μ1,⟨rl.env.step st,rs⟩,o1⟩⟩
def eNeg (ma:ME):ME:=fun env S=>(ma env S).bind fun d S=>match d with
  | .int i=>.ok (.int (-i)) S
  | _=>.stuck
def f7 (f g:Sto→D→D→Option D) (ma mb mc:ME):ME:=fun env S=>(ma env S).bind fun a S=>(mb env S).bind fun b S=>match f S a b with
  | some (.bool true)=>(mc env S).bind fun c S=>ofO S (g S b c)
  | some (.bool false)=>.ok (.bool false) S
  | _=>.stuck
theorem pk {f g:Sto→D→D→Option D} {σ:L2.St} {H:Hp} {Q:VK} (h:tE X W (f7 f g ma mb mc) σ H Q):tChain (rS X.K X.mg f) (rS X.K X.mg g) (tE X W ma) (tE X W mb) (tE X W mc) σ H Q:=by
  obtain ⟨env,S,μ,rl,o⟩:=h
  refine ⟨env,S,μ,rl,(Out.bind o).mono fun x H1 ⟨μ1,S1,da,st,rs,ra,o1⟩=>?_⟩
  refine ⟨env,S1,μ1,⟨rl.env.step st,rs⟩,(Out.bind o1).mono fun y H2 ⟨μ2,S2,db,st2,rs2,rb,o2⟩=>?_⟩
  cases e:f S2 da db with
  | none=>simp only[e] at o2; exact o2.elim
  | some d=>
    simp only[e] at o2
    refine ⟨μ2,S2,_,_,d,rs2,Rep.step st2 _ _ ra,rb,e,fun H' v sm r=>?_⟩
    cases d with
    | bool k=>
      unfold Rep at r
      refine ⟨k,r,?_⟩
      have st3:Step μ2 H2 μ2 H':=.of_sm sm
      cases k with
      | false=>exact o2 μ2 H' _ st3 (rs2.sm sm) (bJ _)
      | true=>
        refine ⟨env,S2,μ2,⟨((rl.env.step st).step st2).step st3,rs2.sm sm⟩,(Out.bind (Out.of_step st3 o2)).mono fun z H4 ⟨μ4,S4,dc,st4,rs4,rc,o4⟩=>?_⟩
        cases e2:g S4 db dc with
        | none=>rw[e2] at o4; exact o4.elim
        | some d2=>
          rw[e2] at o4
          exact ⟨μ4,S4,_,_,d2,rs4,Rep.step st4 _ _ (Rep.step st3 _ _ rb),rc,e2,fun H5 v5 sm5 r5=>o4 μ4 H5 v5 (.of_sm sm5) (rs4.sm sm5) r5⟩
    | _=>exact o2.elim
theorem nH {op op':CmpOp} {f g:Sto→D→D→Option D} (ho:OpR X (compareOp op) (rS X.K X.mg f)) (ho':OpR X (compareOp op') (rS X.K X.mg g)) (ha:PE X a (tE X W ma)) (hb:PE X b (tE X W mb)) (hc:PE X c (tE X W mc))
    (hm:lastMarks [op,op'] [b,c]=false:=by with_unfolding_all rfl):PE X (.Compare a [op,op'] [b,c] pos) (tE X W (f7 f g ma mb mc)):=cB (pe_chain ho ho' ha hb hc hm) fun _ _ _ h=>pk h
theorem rX {op op':CmpOp} {f g:Sto→D→D→Option D} (ho:OpR X (compareOp op) (rS X.K X.mg f)) (ho':OpR X (compareOp op') (rS X.K X.mg g)) (ha:PE X a (tE X W ma)) (hb:PE X b (tE X W mb)) (hc:PE X c (tE X W mc))
    (hm:lastMarks [op,op'] [b,c]=false:=by with_unfolding_all rfl):PT X (.Compare a [op,op'] [b,c] pos) (tT X W (tOf (f7 f g ma mb mc))):=k7 (pt_chain ho ho' ha hb hc hm) fun σ H Q h=>by
    obtain ⟨env,S,μ,rl,o⟩:=t_of h
    exact pk ⟨env,S,μ,rl,o⟩
def aE:MA:=fun _ S=>.ok [] S
def aB (m:ME) (r:MA):MA:=fun env S=>(m env S).bind fun d S=>(r env S).bind fun ds S=>.ok (d::ds) S
theorem aD:PA X [] (tAs X W aE):=pa_to pa_nil fun σ H Q ⟨env,S,μ,rl,o⟩=>o μ H [] .refl rl.sto .nil
theorem aA {es:List Expr} {r:MA} (he:PE X e (tE X W m)) (hr:PA X es (tAs X W r)) (hs:starEach (e::es) X.env=(false,eval e X.env)::starEach es X.env:=by rfl):PA X (e::es) (tAs X W (aB m r)):=
  pa_to (pa_cons he hr hs) fun σ H Q ⟨env,S,μ,rl,o⟩=>⟨env,S,μ,rl,(Out.bind o).mono fun x H1 ⟨μ1,S1,d,st,rs,rd,o1⟩=>
    ⟨env,S1,μ1,⟨rl.env.step st,rs⟩,(Out.bind o1).mono fun xs H2 ⟨μ2,S2,ds,st2,rs2,rds,o2⟩=>o2 μ2 H2 _ .refl rs2 (.cons (Rep.step st2 _ _ rd) rds)⟩⟩
def bB (r:MA):ME:=fun env S=>(r env S).bind fun ds S=>if ds.length≤1000000 then .ok (.tup ds) S else .stuck
def cS (r:MA):ME:=fun env S=>(r env S).bind fun ds S=>if ds.length≤1000000 then .ok (.lst ds) S else .stuck
def iB (r:MA):ME:=fun env S=>(r env S).bind fun ds S=>if ds.length≤1000000 then .ok (.loc S.length) (S++[.lst ds]) else .stuck
variable {es:List Expr} {r:MA}
theorem ae {x1} (h:PA X es (tAs X W r)):PE X (.Tuple es x1 pos) (tE X W (bB r)):=cB (pe_tup h) fun σ H Q ⟨env,S,μ,rl,o⟩=>⟨env,S,μ,rl,(Out.bind o).mono fun xs H1 ⟨μ1,S1,ds,st,rs,rd,o1⟩=>by
  split at o1
  · rename_i hz
    exact ⟨by rw[←rd.length]; exact cH hz,fun p hp=>o1 μ1 _ _ (.of_sm (.upd hp)) (rs.sm (.upd hp)) (bO rs hp rd)⟩
  · exact o1.elim⟩
theorem bL (h:PA X es (tAs X W r)):PE X (.List es pos) (tE X W (cS r)):=cB (pe_lst h) fun σ H Q ⟨env,S,μ,rl,o⟩=>⟨env,S,μ,rl,(Out.bind o).mono fun xs H1 ⟨μ1,S1,ds,st,rs,rd,o1⟩=>by
  split at o1
  · rename_i hz
    exact ⟨by rw[←rd.length]; exact cH hz,fun p hp=>o1 μ1 _ _ (.of_sm (.upd hp)) (rs.sm (.upd hp)) (bu rs hp rd)⟩
  · exact o1.elim⟩
end
theorem uD {K:PySem.W.Frag} {mg:Str→Option Value} {μ:Mu} {H:Hp} {S:Sto} {p:Addr} {ho:HO} {o:O} (rs:RelS K mg μ H S) (hp:H p=none) (r:RepO K mg (μ.push p) (upd H p ho) o p) :
    Step μ H (μ.push p) (upd H p ho)∧RelS K mg (μ.push p) (upd H p ho) (S++[o])∧Rep K mg (μ.push p) (upd H p ho) (.loc S.length) (.ref p):=by
  refine ⟨.new_loc hp,rs.push hp r,?_⟩
  unfold Rep
  exact ⟨p,rfl,by rw[rs.len]; simp[Mu.push]⟩
theorem uE {K:PySem.W.Frag} {mg:Str→Option Value} {μ:Mu} {H:Hp} {S:Sto} {p:Addr} {ds:List D} {vs:List V} (rs:RelS K mg μ H S) (hp:H p=none) (r:RepAll K mg μ H ds vs) :
    Step μ H (μ.push p) (upd H p (.lst vs))∧RelS K mg (μ.push p) (upd H p (.lst vs)) (S++[.lst ds])∧Rep K mg (μ.push p) (upd H p (.lst vs)) (.loc S.length) (.ref p):=
  uD rs hp ⟨vs,upd_same,RepAll.step (.new_loc hp) _ _ r⟩
section
variable {X:Cx} {W:WX} {pos:Pos} {es:List Expr} {r:MA}
theorem gQ (h:PA X es (tAs X W r)):PE X (.List es pos) (tE X W (iB r)):=cB (pe_lst h) fun σ H Q ⟨env,S,μ,rl,o⟩=>⟨env,S,μ,rl,(Out.bind o).mono fun xs H1 ⟨μ1,S1,ds,st,rs,rd,o1⟩=>by
  split at o1
  · rename_i hz
    refine ⟨by rw[←rd.length]; exact cH hz,fun p hp=>?_⟩
    obtain ⟨a,b,c⟩:=uE rs hp rd
    exact o1 _ _ _ a b c
  · exact o1.elim⟩
/-- {} -/
def eDct (t:Bool):ME:=fun _ S=>.ok (.loc S.length) (S++[.dct t []])
end
end DL
namespace DL
open PySem PySem.Spec PyProof.Rows L2
inductive RS where
  | next (env:En) (S:Sto)|brk (env:En) (S:Sto)|cont (env:En) (S:Sto)|ret (d:D) (S:Sto)|exc (e:XV) (env:En) (S:Sto)|stuck
abbrev MS:=En→Sto→RS
abbrev MG:=D→En→Sto→Option (En × Sto)
def Res.rs {α:Type} (env:En):Res α→(α→Sto→RS)→RS
  | .ok a S,k=>k a S
  | .exc e S,_=>.exc e env S
  | .stuck,_=>.stuck
def RS.andThen:RS→(En→Sto→RS)→RS
  | .next env S,k=>k env S
  | .brk env S,_=>.brk env S
  | .cont env S,_=>.cont env S
  | .ret d S,_=>.ret d S
  | .exc e env S,_=>.exc e env S
  | .stuck,_=>.stuck
section
variable (K:PySem.W.Frag) (mg:Str→Option Value)
def OutS (W:WX) (μ:Mu) (H:Hp) (D:Ends):RS→Prop
  | .next env S=>∀μ' H' σ',Step μ H μ' H'→RelE K mg μ' H' env σ'→RelS K mg μ' H' S→D.nx σ' H'
  | .brk env S=>∀μ' H' σ',Step μ H μ' H'→RelE K mg μ' H' env σ'→RelS K mg μ' H' S→D.bk σ' H'
  | .cont env S=>∀μ' H' σ',Step μ H μ' H'→RelE K mg μ' H' env σ'→RelS K mg μ' H' S→D.ct σ' H'
  | .ret d S=>∀μ' H' v,Step μ H μ' H'→RelS K mg μ' H' S→Rep K mg μ' H' d v→D.rt v H'
  | .exc e env S=>∀μ' H' σ' cls dd,Step μ H μ' H'→RelE K mg μ' H' env σ'→RelS K mg μ' H' S→RepX K mg μ' H' e cls dd→W cls dd σ' H'
  | .stuck=>False
end
section
variable {K:PySem.W.Frag} {mg:Str→Option Value} {α β:Type} {W:WX} {σ:L2.St} {μ μ1:Mu} {H H1:Hp} {R:Mu→Hp→α→β→Prop} {D D':Ends} {r:RS} {env:En}
theorem OutS.of_step (st:Step μ H μ1 H1) (o:OutS K mg W μ H D r):OutS K mg W μ1 H1 D r:=by
  cases r with
  | next e S=>exact fun μ' H' σ' s=>o μ' H' σ' (st.trans s)
  | brk e S=>exact fun μ' H' σ' s=>o μ' H' σ' (st.trans s)
  | cont e S=>exact fun μ' H' σ' s=>o μ' H' σ' (st.trans s)
  | ret e S=>exact fun μ' H' σ' s=>o μ' H' σ' (st.trans s)
  | exc e v S=>exact fun μ' H' σ' c d s=>o μ' H' σ' c d (st.trans s)
  | stuck=>exact o
theorem OutS.mono (o:OutS K mg W μ H D r) (h1:∀σ H,D.nx σ H→D'.nx σ H) (h2:∀σ H,D.bk σ H→D'.bk σ H) (h3:∀σ H,D.ct σ H→D'.ct σ H) (h4:∀v H,D.rt v H→D'.rt v H):OutS K mg W μ H D' r:=by
  cases r with
  | next e S=>exact fun μ' H' σ' s t u=>h1 _ _ (o μ' H' σ' s t u)
  | brk e S=>exact fun μ' H' σ' s t u=>h2 _ _ (o μ' H' σ' s t u)
  | cont e S=>exact fun μ' H' σ' s t u=>h3 _ _ (o μ' H' σ' s t u)
  | ret e S=>exact fun μ' H' σ' s t u=>h4 _ _ (o μ' H' σ' s t u)
  | exc e v S=>exact o
  | stuck=>exact o
theorem OutS.andThen {k:En→Sto→RS} (o:OutS K mg W μ H D (r.andThen k)) :
    OutS K mg W μ H { D with nx:=fun σ1 H1=>∃μ1 env1 S1,Step μ H μ1 H1∧RelE K mg μ1 H1 env1 σ1∧RelS K mg μ1 H1 S1∧OutS K mg W μ1 H1 D (k env1 S1) } r:=by
  cases r with
  | next e S=>exact fun μ' H' σ' s t u=>⟨μ',e,S,s,t,u,OutS.of_step s o⟩
  | brk e S=>exact o
  | cont e S=>exact o
  | ret e S=>exact o
  | exc e v S=>exact o
  | stuck=>exact o
theorem OutS.rs {x:Res α} {k:α→Sto→RS} (re:RelE K mg μ H env σ) (o:OutS K mg W μ H D (x.rs env k)) :
    Out K mg W σ μ H R (fun b H1=>∃μ1 S1 a,Step μ H μ1 H1∧RelS K mg μ1 H1 S1∧R μ1 H1 a b∧OutS K mg W μ1 H1 D (k a S1)) x:=by
  cases x with
  | ok a S=>exact fun μ' H' b s t u=>⟨μ',S,a,s,t,u,OutS.of_step s o⟩
  | exc e S=>exact fun μ' H' c d s t u=>o μ' H' σ c d s (re.step s) t u
  | stuck=>exact o
end
def tS (X:Cx) (W:WX) (m:MS):TS:=fun D σ H=>∃env S μ,Rl X.K X.mg μ H env σ S∧OutS X.K X.mg W μ H D (m env S)
def OutO (K:PySem.W.Frag) (mg:Str→Option Value) (μ:Mu) (H:Hp) (Q:L2.St→Hp→Prop):Option (En × Sto)→Prop
  | some (e,S)=>∀μ' H' σ',Step μ H μ' H'→RelE K mg μ' H' e σ'→RelS K mg μ' H' S→Q σ' H'
  | none=>False
theorem OutO.of_step {K:PySem.W.Frag} {mg:Str→Option Value} {μ μ1:Mu} {H H1:Hp} {Q:L2.St→Hp→Prop} {r:Option (En × Sto)} (st:Step μ H μ1 H1) (o:OutO K mg μ H Q r):OutO K mg μ1 H1 Q r:=by
  cases r with
  | none=>exact o
  | some p=>exact fun μ' H' σ' s=>o μ' H' σ' (st.trans s)
def tG (X:Cx) (g:MG):TG:=fun v σ H Q=>∃env S μ d,Rl X.K X.mg μ H env σ S∧Rep X.K X.mg μ H d v∧OutO X.K X.mg μ H Q (g d env S)
abbrev MGs:=List D→En→Sto→Option (En × Sto)
def tGs (X:Cx) (g:MGs):TGs:=fun vs σ H Q=>∃env S μ ds,Rl X.K X.mg μ H env σ S∧RepAll X.K X.mg μ H ds vs∧OutO X.K X.mg μ H Q (g ds env S)
theorem jF {X:Cx} {s:Stmt} {t t':TS} (h:PS X s t) (i:∀D σ H,t' D σ H→t D σ H):PS X s t':=⟨fun pins s σ H D I w=>h.run pins s σ H D I (i D σ H w)⟩
theorem oV {X:Cx} {s:List Stmt} {t t':TS} (h:PSs X s t) (i:∀D σ H,t' D σ H→t D σ H):PSs X s t':=⟨fun pins s σ H D I w=>h.run pins s σ H D I (i D σ H w)⟩
theorem k8 {X:Cx} {e:Expr} {t t':TG} (h:PG X e t) (i:∀v σ H Q,t' v σ H Q→t v σ H Q):PG X e t':=⟨fun pins s σ H v u Q I r w=>h.run pins s σ H v u Q I r (i v σ H Q w)⟩
theorem lx {X:Cx} {e:List Expr} {t t':TGs} (h:PGs X e t) (i:∀v σ H Q,t' v σ H Q→t v σ H Q):PGs X e t':=⟨fun pins s σ H v u Q I r w=>h.run pins s σ H v u Q I r (i v σ H Q w)⟩
def bQ:MS:=fun env S=>.next env S
def aO (a b:MS):MS:=fun env S=>(a env S).andThen b
section
variable {X:Cx} {W:WX} {st:Stmt} {rest body:List Stmt} {a b:MS} {e c:Expr} {pos:Pos} {m:ME} {tc:MT}
theorem aS:PSs X [] (tS X W bQ):=oV pss_nil fun D σ H ⟨env,S,μ,rl,o⟩=>o μ H σ .refl rl.env rl.sto
theorem aF (h1:PS X st (tS X W a)) (h2:PSs X rest (tS X W b)):PSs X (st::rest) (tS X W (aO a b)):=
  oV (pss_cons h1 h2) fun D σ H ⟨env,S,μ,rl,o⟩=>⟨env,S,μ,rl,(OutS.andThen o).mono (fun σ1 H1 ⟨μ1,env1,S1,st,re,rs,o1⟩=>⟨env1,S1,μ1,⟨re,rs⟩,o1⟩) (fun _ _ h=>h) (fun _ _ h=>h) (fun _ _ h=>h)⟩
theorem aK (h1:PS X st (tS X W a)):PSs X [st] (tS X W a):=oV (pss_one h1) fun _ _ _ h=>h
def fB (m:ME):MS:=fun env S=>(m env S).rs env fun _ S=>.next env S
theorem eS (he:PE X e (tE X W m)) (hs:swapsWith e none pos.line X.env=pure false:=by rfl):PS X (.Expr e pos) (tS X W (fB m)):=
  jF (ps_expr he hs) fun D σ H ⟨env,S,μ,rl,o⟩=>⟨env,S,μ,rl,(OutS.rs rl.env o).mono fun x H1 ⟨μ1,S1,d,st,rs,r,o1⟩=>o1 μ1 H1 σ .refl (rl.env.step st) rs⟩
def aq (m:ME):MS:=fun env S=>(m env S).rs env fun d S=>.ret d S
theorem aQ (he:PE X e (tE X W m)):PS X (.Return (some e) pos) (tS X W (aq m)):=
  jF (ps_ret he) fun D σ H ⟨env,S,μ,rl,o⟩=>⟨env,S,μ,rl,(OutS.rs rl.env o).mono fun x H1 ⟨μ1,S1,d,st,rs,r,o1⟩=>o1 μ1 H1 x .refl rs r⟩
def sRetN:MS:=fun _ S=>.ret .none S
def rY:MS:=fun env S=>.brk env S
def sCont:MS:=fun env S=>.cont env S
/-- never come to -/
def eA:MS:=fun _ _=>.stuck
def rZ:ME:=fun _ _=>.stuck
def sIf (tc:MT) (a b:MS):MS:=fun env S=>(tc env S).rs env fun c S=>if c=true then a env S else b env S
theorem a4 {ba bb:List Stmt} (hc:PT X c (tT X W tc)) (ha:PSs X ba (tS X W a)) (hb:PSs X bb (tS X W b)):PS X (.If c ba bb pos) (tS X W (sIf tc a b)):=
  jF (ps_if hc ha hb) fun D σ H ⟨env,S,μ,rl,o⟩=>⟨env,S,μ,rl,(OutS.rs rl.env o).mono fun x H1 ⟨μ1,S1,d,st,rs,r,o1⟩=>by
    subst r
    cases x with
    | true=>exact ⟨env,S1,μ1,⟨rl.env.step st,rs⟩,o1⟩
    | false=>exact ⟨env,S1,μ1,⟨rl.env.step st,rs⟩,o1⟩⟩
def gV (i:Nat):MG:=fun d env S=>some (env.set i (some d),S)
theorem bo {i:Nat} {x:Str} (hN:X.N.Nodup) (hi:X.N[i]?=some x) (hx:Loc X.env.scope x) (hf:X.fn x=true∨X.env.scope.names.lookup x=some .local:=by first|exact .inl rfl|exact .inr rfl|assumption):PG X (.Name x pos) (tG X (gV i)):=
  k8 (pg_name hN hi hx hf) fun v σ H Q ⟨env,S,μ,d,rl,r,o⟩=>o μ H _ .refl (rl.env.set r) rl.sto
def cz:MGs:=fun ds env S=>match ds with
  | []=>some (env,S)
  | _=>none
def ar (g:MG) (gs:MGs):MGs:=fun ds env S=>match ds with
  | d::ds=>(g d env S).bind fun p=>gs ds p.1 p.2
  | []=>none
theorem jc:PGs X [] (tGs X cz):=lx pgs_nil fun vs σ H Q ⟨env,S,μ,ds,rl,r,o⟩=>by
  cases ds with
  | nil=>unfold RepAll at r; exact ⟨r,o μ H σ .refl rl.env rl.sto⟩
  | cons a b=>exact o.elim
theorem dH {es:List Expr} {g:MG} {gs:MGs} (h1:PG X e (tG X g)) (h2:PGs X es (tGs X gs))
    (hs:(assignEach (e::es) X.env).map (·.2)=assign e X.env::(assignEach es X.env).map (·.2):=by rfl):PGs X (e::es) (tGs X (ar g gs)):=
  lx (pgs_cons h1 h2 hs) fun vs σ H Q ⟨env,S,μ,ds,rl,r,o⟩=>by
    cases ds with
    | nil=>exact o.elim
    | cons d ds=>
      unfold RepAll at r
      obtain ⟨v,q,rfl,r1,r2⟩:=r
      refine ⟨v,q,rfl,env,S,μ,d,rl,r1,?_⟩
      have o:OutO X.K X.mg μ H Q ((g d env S).bind fun p=>gs ds p.1 p.2):=o
      cases hq:g d env S with
      | none=>rw[hq] at o; exact o.elim
      | some p=>
        rw[hq] at o
        exact fun μ' H' σ' s t u=>⟨p.1,p.2,μ',ds,⟨t,u⟩,RepAll.step s _ _ r2,OutO.of_step s o⟩
def cp (n:Nat) (gs:MGs):MG:=fun d env S=>match vt d with
  | .tup ds=>if ds.length=n then gs ds env S else none
  | _=>none
theorem oW {es:List Expr} {k:Nat} {n:Nat} {gs:MGs} (hc:X.calm=true) (h:PGs X es (tGs X gs))
    (hn:(assignEach es X.env).length=n:=by rfl) (hst:(assignEach es X.env).findIdx? (·.1)=none:=by rfl):PG X (.Tuple es k pos) (tG X (cp n gs)):=
  k8 (pg_tup hc h hn hst) fun v σ H Q ⟨env,S,μ,d,rl,r,o⟩=>by
    unfold cp at o
    split at o
    · rename_i ds ev
      by_cases hl:ds.length=n
      · simp only[hl,if_true] at o
        have w:=r.wv.vt
        rw[ev] at w
        obtain ⟨a,vs,rfl,h1,h2,_⟩:=w
        exact ⟨a,vs,rfl,.inl h1,by rw[←h2.length]; exact hl,env,S,μ,ds,rl,h2,o⟩
      · simp only[hl,if_false] at o; exact o.elim
    · exact o.elim
def ofG:Option (En × Sto)→RS
  | some p=>.next p.1 p.2
  | none=>.stuck
theorem uF {K:PySem.W.Frag} {mg:Str→Option Value} {μ:Mu} {H:Hp} {D:Ends} {r:Option (En × Sto)} (o:OutS K mg W μ H D (ofG r)):OutO K mg μ H D.nx r:=by
  cases r with
  | none=>exact o
  | some p=>exact o
def nI (m:ME) (g:MG):MS:=fun env S=>(m env S).rs env fun d S=>ofG (g d env S)
theorem jv {tg:Expr} {g:MG} (he:PE X e (tE X W m)) (hg:PG X tg (tG X g)) (hs:swapsWithSole [tg] e pos.line X.env=pure false:=by rfl) (hw:swappedStores [tg] e X.env=pure none:=by rfl)
    (h1:(assignEach [tg] X.env).map (·.2)=[assign tg X.env]:=by rfl):PS X (.Assign [tg] e pos) (tS X W (nI m g)):=
  jF (ps_asg he hg hs hw h1) fun D σ H ⟨env,S,μ,rl,o⟩=>⟨env,S,μ,rl,(OutS.rs rl.env o).mono fun x H1 ⟨μ1,S1,d,st,rs,r,o1⟩=>⟨env,S1,μ1,d,⟨rl.env.step st,rs⟩,r,uF o1⟩⟩
/-- a,b=x,y,both plain local names -/
def sPar (i j:Nat) (r:MA):MS:=fun env S=>(r env S).rs env fun ds S=>match ds with
  | [a,b]=>.next ((env.set i (some a)).set j (some b)) S
  | _=>.stuck
def ao (i:Nat) (m:ME):MS:=fun env S=>(m env S).rs env fun d S=>.next (env.set i (some d)) S
theorem aW {i:Nat} {x:Str} {pos':Pos} (hN:X.N.Nodup) (hi:X.N[i]?=some x) (hx:Loc X.env.scope x) (he:PE X e (tE X W m)) (hs:swapsWith e (some (.Name x pos')) pos.line X.env=pure false:=by rfl) (hf:X.fn x=true∨X.env.scope.names.lookup x=some .local:=by first|exact .inl rfl|exact .inr rfl|assumption) :
    PS X (.Assign [.Name x pos'] e pos) (tS X W (ao i m)):=
  jF (ps_set hN hi hx he hs hf) fun D σ H ⟨env,S,μ,rl,o⟩=>⟨env,S,μ,rl,(OutS.rs rl.env o).mono fun x H1 ⟨μ1,S1,d,st,rs,r,o1⟩=>o1 μ1 H1 _ .refl ((rl.env.step st).set r) rs⟩
/-- x op= e -/
def sAug (i:Nat) (f:Sto→D→D→Option D) (m:ME):MS:=fun env S=>match env[i]? with
  | some (some a)=>(m env S).rs env fun b S=>match f S a b with
    | some d=>.next (env.set i (some d)) S
    | none=>.stuck
  | _=>.stuck
end
end DL
namespace PySem
open PySem PySem.Sem
set_option maxHeartbeats 1000000 in
theorem iD {v:Value} {o:Obj} {H:Heap→Prop} (B:Begins v o H) :
    Meets (Builtin.«enumerate.__new__» ⟨[.type "enumerate",v],[]⟩) (fun _ R s=>H s.heap∧
      R (.ok (.ret (.ref (s.heap.push o).objs.size))) { s with heap:=(s.heap.push o).push { cls:=.type "enumerate",data:=.fields #[.none,.bool false,.ref s.heap.objs.size,rawInt 0,.none,.none] } }):=
  .of_wp fun prog w A R s h=>by
    obtain ⟨hp,g,d,tk,os⟩:=s; obtain ⟨h1,h⟩:=h
    have hsub:=sub_enumerate
    have q1:∀ {A':Around} {E:Value→Shared→Prop} {Q:Value→Shared→Prop},Q (.ref hp.objs.size) ⟨hp.push o,g,d,tk,os⟩→wpAny (model prog w) A' (pyIter v) Q E ⟨hp,g,d,tk,os⟩:=
      fun q=>B.iter prog w _ _ ⟨hp,g,d,tk,os⟩ _ h1 q
    wp_walk using q1
    refine wpAny_stack_any fun st=>wpAny_pure ?_
    split
    · rename_i c _ _ _ _ _
      cases (c == Value.type "enumerate")
      · wp_walk using q1
        exact ⟨_,rfl,h⟩
      · wp_walk using q1
        exact ⟨_,rfl,h⟩
    · wp_walk using q1
      exact ⟨_,rfl,h⟩
theorem dl_enum_begins {prog:Program} {w:World} {A:Around} {E:Value→Shared→Prop} {s:Shared} {v:Value} {o:Obj} {H:Heap→Prop} {Q:Value→Shared→Prop} (B:Begins v o H) (h1:H s.heap)
    (h:∀h',IsEnum h' (s.heap.objs.size+1) s.heap.objs.size 0 .none→h'.get? s.heap.objs.size=some o→h'.objs.size=s.heap.objs.size+2→
      (∀b o,s.heap.get? b=some o→h'.get? b=some o)→Q (.ref (s.heap.objs.size+1)) { s with heap:=h' }) :
    wpAny (model prog w) A (call (.type "enumerate") [v]) Q E s:=by
  refine callType_new F.called_enumerate (by decide) (F.typeCall_enumerate_1 _) (F.newCall_enumerate_1 _) (fun obj=>F.args_object_init_2 obj _) F.entry_enumerate_new
    (iD B) ⟨h1,?_⟩
  have hz:(s.heap.push o).objs.size=s.heap.objs.size+1:=Heap.size_push ..
  show _∧_
  rw[hz]
  have he:IsEnum ((s.heap.push o).push { cls:=.type "enumerate",data:=.fields #[.none,.bool false,.ref s.heap.objs.size,rawInt 0,.none,.none] }) (s.heap.objs.size+1) s.heap.objs.size 0 .none:=by
    have:=Heap.get?_push_size (s.heap.push o) (o:={ cls:=.type "enumerate",data:=.fields #[.none,.bool false,.ref s.heap.objs.size,rawInt 0,.none,.none] }) rfl
    rw[hz] at this; exact this
  refine ⟨⟨_,he,rfl⟩,h _ he (Heap.get?_push_of_some _ (Heap.get?_push_size _ B.free)) (by rw[Heap.size_push,hz]) fun b o x=>Heap.get?_push_of_some _ (Heap.get?_push_of_some _ x)⟩
end PySem
namespace DL
open PySem PySem.Spec PyProof.Rows L2
theorem rf {H:Hp} {a b:Addr} {u:HO} (h:Rd H a u) (n:H b=none):a≠b:=fun z=>by
  subst z
  rcases h with h|⟨o,h⟩<;>(rw[n] at h; cases h)
def IteT (a:Addr):It:=
  ⟨fun i H=>∃(xs:List V) (x:V),Rd H a (.tup xs)∧xs[i]?=some x,fun i H v H'=>∃T x,v=.ref T∧H T=none∧H'=upd H T (.tup [.int (i:Nat),x])∧∀xs,Rd H a (.tup xs)→xs[i]?=some x,fun i H=>∃xs:List V,Rd H a (.tup xs)∧xs.length=i⟩
theorem oX {P:Program} {w:World} {K:PySem.W.Frag} {elts:List Expr} {kk:Nat} {tpos:Pos} (a e it:Addr) :
    Turn P w K (.Tuple elts kk tpos) (IteT a) [e,it] e (fun i h=>(∃old,IsEnum h e it ((i:Nat):Int) old)∧h.IsTupleIter it a i∧e≠it) where
  mem:=by simp
  obj:=fun i h st b hb=>by
    obtain ⟨⟨old,he⟩,⟨o,ho,hc,hd⟩,_⟩:=st
    have e':b=e∨b=it:=by simpa using hb
    rcases e' with z|z
    · rw[z]; exact ⟨_,he,fun v q=>nomatch q⟩
    · rw[z]; exact ⟨o,ho,fun v q=>by rw[hd] at q; cases q⟩
  keep:=fun i h h' st k=>let ⟨⟨old,he⟩,hi,hne⟩:=st; ⟨⟨old,k e (by simp) _ he⟩,hi.at fun o q=>k it (by simp) o q,hne⟩
  item:=by
    intro X hP hw hK hc i pins s σ H E I hf st hg
    subst hP hw hK
    obtain ⟨⟨old,he⟩,hit,hne⟩:=st
    obtain ⟨xs,x,hq,hx⟩:=hg
    obtain ⟨its,rv,p,hz⟩:=I.tuple (.inl hq)
    obtain ⟨u,hu,ru⟩:=rv.get hx
    have hel:e<s.heap.objs.size:=Heap.lt_size he
    have hil:it<s.heap.objs.size:=by obtain ⟨_,q,_⟩:=hit; exact Heap.lt_size q
    have hai:a≠it:=rf hq (hf it (by simp)).1
    have hae:a≠e:=rf hq (hf e (by simp)).1
    have D:=PySem.Draws.tuple (prog:=X.prog) (w:=X.w) (A:=X.A.in1) (I.ok.hd hc) it a hai its.toArray
    have hlt:i<its.toArray.size:=by
      have:=(List.getElem?_eq_some_iff.mp hu).1
      simpa using this
    refine PySem.wpAny_pyNext_enum_itemD D he ⟨hit,p⟩ hlt hne (by simp[hne,hae.symm]) fun x' h' tk hx' ho hit' hT hsz hk=>?_
    have ex:x'=u:=by
      have q:its.toArray[i]?=some x':=hx'
      have q2:its.toArray[i]?=some u:=by simpa using hu
      rw[q] at q2; exact Option.some.inj q2
    subst ex
    refine ⟨_,rfl,wpAny_letOwnedTupleGo_enum (s:={ s with heap:=h',toks:=tk+1 }) ho fun h'' he' sb=>?_⟩
    have hT2:h''.get? s.heap.objs.size=some { cls:=.type "tuple",data:=.seq #[.int i tk,x'] }:=(sb.2 _ (Nat.ne_of_gt hel)).trans hT
    have new:ObjOk X.prog X.w (upd H s.heap.objs.size (.tup [.int (i:Nat),x])) h'' s.heap.objs.size (.tup [.int (i:Nat),x]):=
      ⟨by show 2≤sizeLine; decide,[.int i tk,x'],.cons ⟨_,rfl⟩ (.cons ru .nil),⟨_,hT2,rfl,_,rfl⟩⟩
    have I1:L2.Inv X pins σ (upd H s.heap.objs.size (.tup [.int (i:Nat),x])) { s with heap:=h'',toks:=tk+1 }:=
      I.turnedNew (ch:=[e,it]) (fun b ob hb q=>(sb.2 b (fun z=>hb (by simp[z]))).trans (hk b ob (fun z=>hb (by simp[z])) (fun z=>hb (by simp[z])) q)) hf (Nat.le_refl _) new
    refine ⟨.ref s.heap.objs.size,_,I1,rfl,⟨_,x,rfl,I.hok.fresh (Nat.le_refl _),rfl,fun ys hy=>by rw[I.tuple_inj (.inl hy) (.inl hq)]; exact hx⟩,⟨⟨x',?_⟩,hit'.1.at fun o q=>(sb.2 it (Ne.symm hne)).trans q,hne⟩,fun b hb=>?_⟩
    · have e1:((i+1:Nat):Int)=(i:Int)+1:=by omega
      rw[e1]; exact he'
    · have hb':b<s.heap.objs.size:=by
        have e':b=e∨b=it:=by simpa using hb
        rcases e' with z|z
        · rw[z]; exact hel
        · rw[z]; exact hil
      rw[upd_ne (Nat.ne_of_lt hb')]
      exact (hf b hb).1
  done:=by
    intro X hP hw hK hc i pins s σ H E I hf st hg
    subst hP hw hK
    obtain ⟨⟨old,he⟩,hit,hne⟩:=st
    obtain ⟨xs,hq,hx⟩:=hg
    obtain ⟨its,rv,p,hz⟩:=I.tuple (.inl hq)
    obtain ⟨f0,f1,f2,f3,f4,f5⟩:=hf it (by simp)
    have hl:=rv.length
    have hai:a≠it:=rf hq (hf it (by simp)).1
    have hsz:its.toArray.size=i:=by simp; omega
    have D:=PySem.Draws.tuple (prog:=X.prog) (w:=X.w) (A:=X.A.in1) (I.ok.hd hc) it a hai its.toArray
    exact PySem.wpAny_pyNext_enum_endD D he (show _ from ⟨by rw[hsz]; exact hit,p⟩) fun h' eb=>⟨rfl,I.turned (t':=s.toks) (fun b o hb q=>eb b o hb q) f0 f1 f3 f4 f5⟩
  self:=fun A i s Q E st h=>let ⟨⟨_,he⟩,_⟩:=st; wpAny_pyIter_enum he h
inductive ItD where
  | items (ds:List D)|live (l:Nat)|liveE (l:Nat)
abbrev MI:=En→Sto→Res ItD
structure eD (K:PySem.W.Frag) (mg:Str→Option Value) (μ1:Mu) (H1:Hp) (ds:List D) (J:It):Prop where
  goes:∀i μ H,i<ds.length→Stp μ1 H1 μ H→J.go i H
  stops:∀μ H,Stp μ1 H1 μ H→J.stop ds.length H
  yields:∀i d μ H S x H',ds[i]?=some d→Stp μ1 H1 μ H→RelS K mg μ H S→J.yld i H x H'→Sm H H'∧Rep K mg μ H' d x
def WalkOk (K:PySem.W.Frag) (mg:Str→Option Value) (μ1:Mu) (H1:Hp):ItD→It→Prop
  | .items ds,J=>eD K mg μ1 H1 ds J
  | .live l,J=>∃a,μ1.l[l]?=some a∧J=Itl K a
  | .liveE l,J=>∃a,μ1.l[l]?=some a∧J=Ite K a
def tI (X:Cx) (W:WX) (mi:MI):TI:=fun σ H R=>tM X (fun μ H it J=>WalkOk X.K X.mg μ H it J) W mi σ H R
theorem pi_to {X:Cx} {tg e:Expr} {t t':TI} (h:PI X tg e t) (i:∀σ H R,t' σ H R→t σ H R):PI X tg e t':=⟨fun pins s σ H R I w=>h.run pins s σ H R I (i σ H R w)⟩
def bj (z:Str):List D:=z.cps.toList.map fun c=>.str ⟨#[c]⟩
def cJ (S:Sto) (d:D):Option ItD:=match vt d with
  | .tup xs=>some (.items xs)
  | .lst xs=>some (.items xs)
  | .ro xs=>some (.items xs)
  | .str z=>some (.items (bj z))
  | .loc l=>match S[l]? with
    | some (.lst _)=>some (.live l)
    | some (.fdc _ kvs)=>some (.items (kvs.map (·.1)))
    | _=>none
  | _=>none
def dj (m:ME):MI:=fun env S=>(m env S).bind fun d S=>ofO S (cJ S d)
section
variable {K:PySem.W.Frag} {mg:Str→Option Value} {μ:Mu} {H:Hp} {a:Addr} {xs:List D} {vs:List V}
theorem qW (h:Rd H a (.tup vs)) (n:a∉μ) (r:RepAll K mg μ H xs vs):eD K mg μ H xs (Itt K a) where
  goes:=fun i μ' H' hi st=>⟨vs,vs[i]'(by rw[←r.length]; exact hi),.inl (di st h n).1,by simp⟩
  stops:=fun μ' H' st=>⟨vs,.inl (di st h n).1,by rw[r.length]; exact Nat.le_refl _⟩
  yields:=fun i d μ' H' S x H2 e st rs y=>by
    obtain ⟨rfl,y⟩:=y
    obtain ⟨v,h1,h2⟩:=r.get e
    have q:=y vs (.inl (di st h n).1)
    rw[h1] at q; cases q
    exact ⟨.rfl,Rep.stp st _ _ h2⟩
theorem k9 (h:L2.SqL K H a vs) (hs:∀μ' H',Stp μ H μ' H'→L2.SqL K H' a vs) (r:RepAll K mg μ H xs vs):eD K mg μ H xs (Itl K a) where
  goes:=fun i μ' H' hi st=>⟨vs,vs[i]'(by rw[←r.length]; exact hi),hs _ _ st,by simp⟩
  stops:=fun μ' H' st=>⟨vs,hs _ _ st,by rw[r.length]; exact Nat.le_refl _⟩
  yields:=fun i d μ' H' S x H2 e st rs y=>by
    obtain ⟨rfl,y⟩:=y
    obtain ⟨v,h1,h2⟩:=r.get e
    have q:=y vs (hs _ _ st)
    rw[h1] at q; cases q
    exact ⟨.rfl,Rep.stp st _ _ h2⟩
theorem RelS.ntup {S:Sto} (rs:RelS K mg μ H S) {q:Addr} {us:List V} (e:H q=some (.tup us)):q∉μ:=fun z=>by
  rcases z with z|z
  · obtain ⟨l,hl,e2⟩:=List.getElem_of_mem z
    have hl2:l<S.length:=by rw[rs.len]; exact hl
    obtain ⟨a',h1,h2⟩:=rs.at_ l _ (List.getElem?_eq_getElem hl2)
    rw[List.getElem?_eq_getElem hl,e2] at h1; cases h1
    generalize S[l]=o at h2
    cases o with
    | lst ds=>obtain ⟨vs,h1,h2⟩:=h2; rw[e] at h1; cases h1
    | dct t kvs=>cases t<;>(obtain ⟨vs,ks,⟨q,k⟩,h2⟩:=h2; rw[e] at q; cases q)
    | ins C fs=>obtain ⟨Ca,dx,vs,g,h1,h2⟩:=h2; rw[e] at h1; cases h1
    | fdc t kvs=>cases t<;>(obtain ⟨vs,ks,⟨⟨od,q⟩,k⟩,h2⟩:=h2; rw[e] at q; cases q)
  · obtain ⟨u,h1,h2⟩:=rs.hid q z
    rw[e] at h1; cases h1
    rcases h2 with ⟨_,h⟩|⟨_,h⟩|⟨_,h⟩<;>cases h
theorem nJ (k:Key):Rep K mg μ H (cy k) (kV k):=by
  cases k with
  | inl i=>exact bA i
  | inr x=>exact bV x
theorem lA:∀ks:List Key,RepAll K mg μ H (ks.map cy) (ks.map kV)
  | []=>.nil
  | k::ks=>.cons (nJ k) (lA ks)
theorem oY {od:Obj} {ks:List Key} {us:List V} (h:H a=some (.frz od (.dK (ks.zip us)))) (hl:ks.length=us.length):eD K mg μ H (ks.map cy) (Itk a od (ks.zip us)) where
  goes:=fun i μ' H' hi st=>⟨st.kf _ _ _ h,by simp at hi ⊢; omega⟩
  stops:=fun μ' H' st=>⟨st.kf _ _ _ h,by simp; omega⟩
  yields:=fun i d μ' H' S x H2 e st rs y=>by
    obtain ⟨rfl,k,v,h1,rfl⟩:=y
    have hk:ks[i]?=some k:=by
      have:=congrArg (Option.map (·.1)) h1
      rw[←List.getElem?_map,List.map_fst_zip (by omega)] at this
      simpa using this
    rw[List.getElem?_map,hk] at e
    cases e
    exact ⟨.rfl,nJ k⟩
theorem nK {od:Obj} {ks:List (List Key)} {us:List V} (h:H a=some (.frz od (.dT (ks.zip us)))) (hl:ks.length=us.length):eD K mg μ H (ks.map fA) (Itkt a od (ks.zip us)) where
  goes:=fun i μ' H' hi st=>⟨st.kf _ _ _ h,by simp at hi ⊢; omega⟩
  stops:=fun μ' H' st=>⟨st.kf _ _ _ h,by simp; omega⟩
  yields:=fun i d μ' H' S x H2 e st rs y=>by
    obtain ⟨rfl,k,v,q,h1,rfl,h2⟩:=y
    have hk:ks[i]?=some k:=by
      have:=congrArg (Option.map (·.1)) h1
      rw[←List.getElem?_map,List.map_fst_zip (by omega)] at this
      simpa using this
    rw[List.getElem?_map,hk] at e
    cases e
    refine ⟨.rfl,?_⟩
    unfold fA Rep
    exact ⟨q,_,rfl,h2,rs.ntup h2,lA k⟩
theorem nM {κ:Type} {g:κ→D} {kvs:List (D × D)} {ks:List κ} {us:List V} (e:kvs.map (·.1)=ks.map g) (r:RepAll K mg μ H (kvs.map (·.2)) us):ks.length=us.length:=by
  have h1:=congrArg List.length e
  have h2:=r.length
  simp at h1 h2
  omega
theorem qX (z:Str):eD K mg μ H (bj z) (Its z) where
  goes:=fun i μ' H' hi st=>by
    have:(bj z).length=z.cps.size:=by simp[bj]
    show i<z.cps.size
    omega
  stops:=fun μ' H' st=>by
    show z.cps.size≤(bj z).length
    simp[bj]
  yields:=fun i d μ' H' S x H2 e st rs y=>by
    obtain ⟨rfl,c,hc,rfl⟩:=y
    refine ⟨.rfl,?_⟩
    unfold bj at e
    rw[List.getElem?_map] at e
    have:z.cps.toList[i]?=some c:=by simpa using hc
    rw[this] at e
    cases e
    exact bV _
end
section
variable {X:Cx} {W:WX} {tg e:Expr} {m:ME}
theorem ly {pins:List (Addr × Obj)} {s1:Shared} {σ:L2.St} {H1:Hp} {R:It→Hp→Prop} {E:Value→Shared→Prop} {a:Addr} {xs:List V} (I1:L2.Inv X pins σ H1 s1) (hq:L2.SqL X.K H1 a xs) (q:R (Itl X.K a) H1) :
    wpAny (model X.prog X.w) X.A (pyIter (.ref a)) (PIE X pins σ tg R) E s1:=by
  obtain ⟨its,rv,p,hz⟩:=I1.list hq
  refine wpAny_pyIter_list p.isList ?_
  refine ⟨s1.heap.objs.size,[s1.heap.objs.size],_,_,H1,rfl,I1.kept (t':=s1.toks) fun b o e=>Heap.get?_push_of_some _ e,turn_list a _,⟨_,Heap.get?_push_size _ rfl,rfl,rfl⟩,fun b hb=>?_,q⟩
  have e:b=s1.heap.objs.size:=by simpa using hb
  subst e
  exact I1.fpOk (Nat.le_refl _) (I1.hok.fresh (Nat.le_refl _))
theorem it_tup {pins:List (Addr × Obj)} {s1:Shared} {σ:L2.St} {H1:Hp} {R:It→Hp→Prop} {E:Value→Shared→Prop} {a:Addr} {xs:List V} (I1:L2.Inv X pins σ H1 s1) (hq:L2.SqT X.K H1 a xs) (q:R (Itt X.K a) H1) :
    wpAny (model X.prog X.w) X.A (pyIter (.ref a)) (PIE X pins σ tg R) E s1:=by
  obtain ⟨its,rv,p,hz⟩:=I1.tuple hq
  refine wpAny_pyIter_tuple (show s1.heap.IsTuple a its.toArray from p) ?_
  refine ⟨s1.heap.objs.size,[s1.heap.objs.size],_,_,H1,rfl,I1.kept (t':=s1.toks) fun b o e=>Heap.get?_push_of_some _ e,turn_tuple a _,⟨_,Heap.get?_push_size _ rfl,rfl,rfl⟩,fun b hb=>?_,q⟩
  have e:b=s1.heap.objs.size:=by simpa using hb
  subst e
  exact I1.fpOk (Nat.le_refl _) (I1.hok.fresh (Nat.le_refl _))
theorem uG {pins:List (Addr × Obj)} {s1:Shared} {σ:L2.St} {H1:Hp} {R:It→Hp→Prop} {E:Value→Shared→Prop} {d:Addr} {o:Obj} {kvs:List (Key × V)} (I1:L2.Inv X pins σ H1 s1) (hd:H1 d=some (.frz o (.dK kvs))) (q:R (Itk d o kvs) H1) :
    wpAny (model X.prog X.w) X.A (pyIter (.ref d)) (PIE X pins σ tg R) E s1:=by
  obtain ⟨hs,hgd,hx,es,ep,vs,hdt,hsz,kv,hm⟩:=I1.frzK hd
  refine iter_keys hs hgd hx hdt (pi_one (tk:=s1.toks) I1 _ (turn_keys _ hdt) ⟨_,Heap.get?_push_size _ rfl,rfl,?_⟩ q)
  rw[hsz]<;>rfl
theorem rg {pins:List (Addr × Obj)} {s1:Shared} {σ:L2.St} {H1:Hp} {R:It→Hp→Prop} {E:Value→Shared→Prop} {d:Addr} {o:Obj} {kvs:List (List Key × V)} (I1:L2.Inv X pins σ H1 s1) (hd:H1 d=some (.frz o (.dT kvs))) (q:R (Itkt d o kvs) H1) :
    wpAny (model X.prog X.w) X.A (pyIter (.ref d)) (PIE X pins σ tg R) E s1:=by
  obtain ⟨hs,hgd,hx,es,ep,hdt,hsz,ent⟩:=I1.frzT hd
  refine iter_keys hs hgd hx hdt (pi_one (tk:=s1.toks) I1 _ (turn_keysT _ hdt) ⟨_,Heap.get?_push_size _ rfl,rfl,?_⟩ q)
  rw[hsz]<;>rfl
/-- a text's value walked -/
theorem it_str {pins:List (Addr × Obj)} {s1:Shared} {σ:L2.St} {H1:Hp} {R:It→Hp→Prop} {z:Str} {v:Value} (I1:L2.Inv X pins σ H1 s1) (r:RelV (.str z) v) (q:R (Its z) H1) :
    wpAny (model X.prog X.w) X.A (pyIter v) (PIE X pins σ tg R) X.xe s1:=by
  obtain ⟨t,rfl⟩:=r
  cases ha:z.cps.all (·<128)
  · exact wpAny_pyIter_wide ha (pi_one (tk:=s1.toks) I1 _ (turn_str _ z t "str_iterator" (.inr rfl)) ⟨_,Heap.get?_push_size _ rfl,rfl,rfl⟩ q)
  · exact wpAny_pyIter_ascii ha (pi_one (tk:=s1.toks) I1 _ (turn_str _ z t "str_ascii_iterator" (.inl rfl)) ⟨_,Heap.get?_push_size _ rfl,rfl,rfl⟩ q)
theorem jG {d e:D} (h:vt d=e) (n:∀xs,e≠.tup xs):d=e:=by
  cases d with
  | tpn xs=>exact absurd h.symm (n xs)
  | _=>exact h
theorem cf (h:PE X e (tE X W m)):PI X tg e (tI X W (dj m)):=⟨fun pins s σ H R I ⟨env,S,μ,rl,o⟩=>by
  refine thn (h.run pins s σ H _ I ⟨env,S,μ,rl,Out.bind o⟩) fun v s1 ⟨x,H1,I1,r1,μ1,S1,d,st,rs,rd,o1⟩=>?_
  have rw0:=rd.wv.vt
  unfold cJ at o1
  split at o1
  · rename_i ev
    rw[ev] at rw0
    obtain ⟨a,vs,rfl,h1,h2,n⟩:=rw0
    cases r1
    exact it_tup I1 (.inl h1) (o1 _ _ _ .refl rs (qW h1 n h2))
  · rename_i ev
    rw[jG ev nofun] at rd
    unfold Rep at rd
    obtain ⟨a,vs,rfl,h1,n,h2⟩:=rd
    cases r1
    exact ly I1 (.of h1) (o1 _ _ _ .refl rs (k9 (.of h1) (fun _ _ st=>.of (st.keep _ _ h1 n)) h2))
  · rename_i ev
    rw[jG ev nofun] at rd
    unfold Rep at rd
    obtain ⟨a,vs,rfl,h1,h2⟩:=rd
    cases r1
    exact ly I1 h1.sq (o1 _ _ _ .refl rs (k9 h1.sq (fun _ _ st=>(h1.stp st).sq) h2))
  · rename_i ev
    rw[jG ev nofun] at rd
    unfold Rep at rd
    subst rd
    exact it_str I1 r1 (o1 _ _ _ .refl rs (qX _))
  · rename_i ev
    rw[jG ev nofun] at rd
    unfold Rep at rd
    obtain ⟨a,rfl,hμ⟩:=rd
    cases r1
    split at o1
    · rename_i xs es
      obtain ⟨a',h1,vs,h2,h3⟩:=rs.at_ _ _ es
      rw[hμ] at h1; cases h1
      exact ly I1 (.of h2) (o1 _ _ _ .refl rs ⟨_,hμ,rfl⟩)
    · rename_i t kvs es
      obtain ⟨a',h1,h2⟩:=rs.at_ _ _ es
      rw[hμ] at h1; cases h1
      cases t with
      | false=>
        obtain ⟨vs,ks,⟨⟨od,q⟩,hk⟩,rr⟩:=h2
        rw[hk] at o1
        exact uG I1 q (o1 _ _ _ .refl rs (oY q (nM hk rr)))
      | true=>
        obtain ⟨vs,ks,⟨⟨od,q⟩,hk⟩,rr⟩:=h2
        rw[hk] at o1
        exact rg I1 q (o1 _ _ _ .refl rs (nK q (nM hk rr)))
    · exact o1.elim
  · exact o1.elim⟩
def ij (lo:Int) (n:Nat):List D:=(List.range n).map fun i=>.int (lo+(i:Nat))
theorem qY {K:PySem.W.Frag} {mg:Str→Option Value} {μ:Mu} {H:Hp} (lo:Int) (n:Nat):eD K mg μ H (ij lo n) (Itr lo n) where
  goes:=fun i μ' H' hi st=>by
    have:(ij lo n).length=n:=by simp[ij]
    show i<n
    omega
  stops:=fun μ' H' st=>by
    show n≤(ij lo n).length
    simp[ij]
  yields:=fun i d μ' H' S x H2 e st rs y=>by
    obtain ⟨rfl,rfl⟩:=y
    refine ⟨.rfl,?_⟩
    unfold ij at e
    rw[List.getElem?_map] at e
    obtain ⟨j,hj,hd⟩:=Option.map_eq_some_iff.mp e
    have:j=i:=by
      have q:=List.getElem?_eq_some_iff.mp hj
      obtain ⟨h1,h2⟩:=q
      rw[List.getElem_range] at h2
      exact h2.symm
    subst this
    subst hd
    exact bA _
/-- of at most 63 bits; no kernel is to reckon it -/
noncomputable def a5 (i:Int):Bool:=@decide (-(2 ^ 62)≤i∧i<2 ^ 62) (Classical.propDecidable _)
theorem smallI_iff {i:Int}:a5 i=true ↔ -(2 ^ 62)≤i∧i<2 ^ 62:=by
  unfold a5
  exact @decide_eq_true_iff _ (Classical.propDecidable _)
noncomputable def c7 (r:MA):MI:=fun env S=>(r env S).bind fun ds S=>match ds with
  | [.int j]=>if a5 j then .ok (.items (ij 0 j.toNat)) S else .stuck
  | _=>.stuck
noncomputable def rh (r:MA):MI:=fun env S=>(r env S).bind fun ds S=>match ds with
  | [.int i,.int j]=>if a5 i&&a5 j then .ok (.items (ij i (j - i).toNat)) S else .stuck
  | _=>.stuck
variable {a b:Expr} {p pos:Pos} {r:MA}
theorem bW {K:PySem.W.Frag} {mg:Str→Option Value} {μ:Mu} {H:Hp} {a:D} {vs:List V} (h:RepAll K mg μ H [a] vs):∃v,vs=[v]∧Rep K mg μ H a v:=by
  unfold RepAll at h
  obtain ⟨v,q,rfl,r1,r2⟩:=h
  unfold RepAll at r2
  subst r2
  exact ⟨v,rfl,r1⟩
theorem iE {K:PySem.W.Frag} {mg:Str→Option Value} {μ:Mu} {H:Hp} {a b:D} {vs:List V} (h:RepAll K mg μ H [a,b] vs):∃v w,vs=[v,w]∧Rep K mg μ H a v∧Rep K mg μ H b w:=by
  unfold RepAll at h
  obtain ⟨v,q,rfl,r1,r2⟩:=h
  obtain ⟨w,rfl,r3⟩:=bW r2
  exact ⟨v,w,rfl,r1,r3⟩
theorem eT (hg:Gl X "range") (hm:X.mg "range"=none) (ha:PA X [a] (tAs X W r)) (hs:starEach [a] X.env=[(false,eval a X.env)]:=by rfl):PI X tg (.Call (.Name "range" p) [a] [] pos) (tI X W (c7 r)):=
  pi_to (pi_range1 hg hm ha hs) fun σ H R ⟨env,S,μ,rl,o⟩=>⟨env,S,μ,rl,(Out.bind o).mono fun vs H1 ⟨μ1,S1,ds,st,rs,rd,o1⟩=>by
    split at o1
    · rename_i j
      obtain ⟨v,rfl,r1⟩:=bW rd
      unfold Rep at r1
      subst r1
      split at o1
      · rename_i hj
        rw[smallI_iff] at hj
        exact ⟨j,rfl,hj.1,hj.2,o1 _ _ _ .refl rs (qY 0 _)⟩
      · exact o1.elim
    · exact o1.elim⟩
def cC (n:Nat):List D→List D
  | []=>[]
  | d::ds=>.tup [.int (n:Nat),d]::cC (n+1) ds
theorem ik:∀(ds:List D) (n i:Nat) (d:D),(cC n ds)[i]?=some d→∃e,ds[i]?=some e∧d=.tup [.int ((n+i:Nat):Int),e]
  | [],n,i,d,h=>by simp[cC] at h
  | a::ds,n,0,d,h=>by
    simp[cC] at h
    exact ⟨a,rfl,h.symm⟩
  | a::ds,n,i+1,d,h=>by
    have h:(cC (n+1) ds)[i]?=some d:=by simpa [cC] using h
    obtain ⟨e,h1,h2⟩:=ik ds (n+1) i d h
    exact ⟨e,by simpa using h1,by rw[h2]; congr 3; omega⟩
theorem cq:∀(ds:List D) (n:Nat),(cC n ds).length=ds.length
  | [],_=>rfl
  | a::ds,n=>by simp[cC,cq ds]
theorem nN {K:PySem.W.Frag} {mg:Str→Option Value} {μ:Mu} {H:Hp} {a:Addr} {xs:List D} {vs:List V} (h:Rd H a (.tup vs)) (n:a∉μ) (r:RepAll K mg μ H xs vs):eD K mg μ H (cC 0 xs) (IteT a) where
  goes:=fun i μ' H' hi st=>⟨vs,vs[i]'(by rw[cq] at hi; rw[←r.length]; exact hi),(di st h n).1,by simp⟩
  stops:=fun μ' H' st=>⟨vs,(di st h n).1,by rw[cq,r.length]⟩
  yields:=fun i d μ' H' S x H2 e st rs y=>by
    obtain ⟨T,w,rfl,hT,rfl,y⟩:=y
    obtain ⟨d',h1,h2⟩:=ik _ _ _ _ e
    obtain ⟨v,h3,h4⟩:=r.get h1
    have q:=y vs ((di st h n).1)
    rw[h3] at q; cases q
    subst h2
    exact ⟨.upd hT,bO rs hT (.cons (by rw[Nat.zero_add]; exact bA _) (.cons (Rep.stp st _ _ h4) .nil))⟩
theorem nO {K:PySem.W.Frag} {mg:Str→Option Value} {μ:Mu} {H:Hp} {a:Addr} {xs:List D} {vs:List V} (h:L2.SqL K H a vs) (hs:∀μ' H',Stp μ H μ' H'→L2.SqL K H' a vs) (r:RepAll K mg μ H xs vs):eD K mg μ H (cC 0 xs) (Ite K a) where
  goes:=fun i μ' H' hi st=>⟨vs,vs[i]'(by rw[cq] at hi; rw[←r.length]; exact hi),hs _ _ st,by simp⟩
  stops:=fun μ' H' st=>⟨vs,hs _ _ st,by rw[cq,r.length]; exact Nat.le_refl _⟩
  yields:=fun i d μ' H' S x H2 e st rs y=>by
    obtain ⟨T,w,rfl,hT,rfl,y⟩:=y
    obtain ⟨d',h1,h2⟩:=ik _ _ _ _ e
    obtain ⟨v,h3,h4⟩:=r.get h1
    have q:=y vs (hs _ _ st)
    rw[h3] at q; cases q
    subst h2
    exact ⟨.upd hT,bO rs hT (.cons (by rw[Nat.zero_add]; exact bA _) (.cons (Rep.stp st _ _ h4) .nil))⟩
def fX (r:MA):MI:=fun env S=>(r env S).bind fun ds S=>match ds.map vt with
  | [.tup xs]=>.ok (.items (cC 0 xs)) S
  | [.lst xs]=>.ok (.items (cC 0 xs)) S
  | [.loc l]=>match S[l]? with
    | some (.lst _)=>.ok (.liveE l) S
    | _=>.stuck
  | _=>.stuck
theorem il {K:PySem.W.Frag} {mg:Str→Option Value} {μ:Mu} {H:Hp} {d0:D} {ds:List D} {vs:List V} (r:RepAll K mg μ H ds vs) (e:ds.map vt=[d0]):∃d v,ds=[d]∧vt d=d0∧vs=[v]∧Rep K mg μ H d v:=by
  match ds,e with
  | [d],e=>
    obtain ⟨v,rfl,r1⟩:=bW r
    exact ⟨d,v,rfl,by simpa using e,rfl,r1⟩
theorem gu {K:PySem.W.Frag} {mg:Str→Option Value} {μ:Mu} {H:Hp} {d0 d1:D} {ds:List D} {vs:List V} (r:RepAll K mg μ H ds vs) (e:ds.map vt=[d0,d1]):∃d d' v w,ds=[d,d']∧(vt d=d0∧vt d'=d1)∧vs=[v,w]∧Rep K mg μ H d v∧Rep K mg μ H d' w:=by
  match ds,e with
  | [d,d'],e=>
    obtain ⟨v,w,rfl,r1,r2⟩:=iE r
    exact ⟨d,d',v,w,rfl,by simpa using e,rfl,r1,r2⟩
theorem lz {tpos:Pos} {elts:List Expr} {kk:Nat} (hg:Gl X "enumerate") (hm:X.mg "enumerate"=none) (ha:PA X [e] (tAs X W r)) (hs:starEach [e] X.env=[(false,eval e X.env)]:=by rfl) :
    PI X (.Tuple elts kk tpos) (.Call (.Name "enumerate" p) [e] [] pos) (tI X W (fX r)):=by
  refine ⟨fun pins s σ H R I ⟨env,S,μ,rl,o⟩=>?_⟩
  refine Call_ (ld_blt I hg hm boot_enumerate (PyProof.Rows.callWith_type1 (thn (ha.run pos pins s σ H _ I ⟨env,S,μ,rl,Out.bind o⟩) fun us s1 ⟨vs,H1,I1,r1,μ1,S1,ds,st,rs,rd,o1⟩=>?_) hs rfl))
  have fresh2:∀b∈[s1.heap.objs.size+1,s1.heap.objs.size],FpOk X pins H1 b:=fun b hb=>by
    have e':b=s1.heap.objs.size+1∨b=s1.heap.objs.size:=by simpa using hb
    have hle:s1.heap.objs.size≤b:=by
      rcases e' with z|z
      · rw[z]; exact Nat.le_add_right _ _
      · rw[z]; exact Nat.le_refl _
    exact I1.fpOk hle (I1.hok.fresh hle)
  split at o1
  · rename_i xs ev
    obtain ⟨d,v,rfl,ed,rfl,r2⟩:=il rd ev
    have r2:=r2.wv.vt
    rw[ed] at r2
    obtain ⟨a,ws,rfl,h1,h2,n⟩:=r2
    cases r1 with
    | cons ra rr=>
      cases rr
      cases ra
      obtain ⟨its,rv,p',hz⟩:=I1.tuple (.inl h1)
      refine PySem.dl_enum_begins (PySem.begins_tuple a its.toArray) (show s1.heap.IsTuple a its.toArray from p') fun h' he ho hsz hk=>wpAny_pyIter_enum he ?_
      have I2:L2.Inv X pins σ H1 { s1 with heap:=h' }:=I1.kept (t':=s1.toks) hk
      exact ⟨s1.heap.objs.size+1,[s1.heap.objs.size+1,s1.heap.objs.size],_,_,H1,rfl,I2,oX a (s1.heap.objs.size+1) s1.heap.objs.size,⟨⟨.none,he⟩,⟨_,ho,rfl,rfl⟩,Nat.succ_ne_self _⟩,fresh2,o1 _ _ _ .refl rs (nN h1 n h2)⟩
  · rename_i xs ev
    obtain ⟨d,v,rfl,ed,rfl,r2⟩:=il rd ev
    rw[jG ed nofun] at r2
    unfold Rep at r2
    obtain ⟨a,ws,rfl,h1,n,h2⟩:=r2
    cases r1 with
    | cons ra rr=>
      cases rr
      cases ra
      obtain ⟨its,rv,p',hz⟩:=I1.list (.of h1)
      refine call_enumerate_list p'.isList fun h' he hit hsz hk=>wpAny_pyIter_enum he ?_
      have I2:L2.Inv X pins σ H1 { s1 with heap:=h' }:=I1.kept (t':=s1.toks) hk
      exact ⟨s1.heap.objs.size+1,[s1.heap.objs.size+1,s1.heap.objs.size],_,_,H1,rfl,I2,turn_enum a (s1.heap.objs.size+1) s1.heap.objs.size,⟨⟨.none,he⟩,hit,Nat.succ_ne_self _⟩,fresh2,o1 _ _ _ .refl rs (nO (.of h1) (fun _ _ st=>.of (st.keep _ _ h1 n)) h2)⟩
  · rename_i l ev
    obtain ⟨d,v,rfl,ed,rfl,r2⟩:=il rd ev
    rw[jG ed nofun] at r2
    unfold Rep at r2
    obtain ⟨a,rfl,ha⟩:=r2
    split at o1
    · rename_i xs es
      obtain ⟨a',g1,ws,h1,h2⟩:=rs.at_ _ _ es
      rw[ha] at g1; cases g1
      cases r1 with
      | cons ra rr=>
        cases rr
        cases ra
        obtain ⟨its,rv,p',hz⟩:=I1.list (.of h1)
        refine call_enumerate_list p'.isList fun h' he hit hsz hk=>wpAny_pyIter_enum he ?_
        have I2:L2.Inv X pins σ H1 { s1 with heap:=h' }:=I1.kept (t':=s1.toks) hk
        exact ⟨s1.heap.objs.size+1,[s1.heap.objs.size+1,s1.heap.objs.size],_,_,H1,rfl,I2,turn_enum a (s1.heap.objs.size+1) s1.heap.objs.size,⟨⟨.none,he⟩,hit,Nat.succ_ne_self _⟩,fresh2,o1 _ _ _ .refl rs ⟨a,ha,rfl⟩⟩
    · exact o1.elim
  · exact o1.elim
def cU:List D→List D→List D
  | a::as,b::bs=>.tup [a,b]::cU as bs
  | _,_=>[]
theorem iF:∀(as bs:List D) (i:Nat) (d:D),(cU as bs)[i]?=some d→∃a b,as[i]?=some a∧bs[i]?=some b∧d=.tup [a,b]
  | [],_,i,d,h=>by simp[cU] at h
  | a::as,[],i,d,h=>by simp[cU] at h
  | a::as,b::bs,0,d,h=>by
    simp[cU] at h
    exact ⟨a,b,rfl,rfl,h.symm⟩
  | a::as,b::bs,i+1,d,h=>by
    have h:(cU as bs)[i]?=some d:=by simpa [cU] using h
    obtain ⟨x,y,h1,h2,h3⟩:=iF as bs i d h
    exact ⟨x,y,by simpa using h1,by simpa using h2,h3⟩
theorem cj:∀(as bs:List D),(cU as bs).length=min as.length bs.length
  | [],_=>by simp[cU]
  | a::as,[]=>by simp[cU]
  | a::as,b::bs=>by simp[cU,cj as bs]
def iZipD (r:MA):MI:=fun env S=>(r env S).bind fun ds S=>match ds.map vt with
  | [.tup xs,.tup ys]=>.ok (.items (cU xs ys)) S
  | [.lst xs,.lst ys]=>.ok (.items (cU xs ys)) S
  | _=>.stuck
def dI (g:MG) (b:MS):List D→MS
  | []=>fun env S=>.next env S
  | d::ds=>fun env S=>match g d env S with
    | none=>.stuck
    | some p=>match b p.1 p.2 with
      | .next env S=>dI g b ds env S
      | .cont env S=>dI g b ds env S
      | .brk env S=>.next env S
      | .ret d S=>.ret d S
      | .exc e env S=>.exc e env S
      | .stuck=>.stuck
def fC (g:MG) (b:MS) (l:Nat):Nat→Nat→MS
  | 0,_=>fun _ _=>.stuck
  | n+1,i=>fun env S=>match S[l]? with
    | some (.lst xs)=>match xs[i]? with
      | none=>.next env S
      | some d=>match g d env S with
        | none=>.stuck
        | some p=>match b p.1 p.2 with
          | .next env S=>fC g b l n (i+1) env S
          | .cont env S=>fC g b l n (i+1) env S
          | .brk env S=>.next env S
          | .ret d S=>.ret d S
          | .exc e env S=>.exc e env S
          | .stuck=>.stuck
    | _=>.stuck
/-- with the places,the first one 0 -/
def fD (g:MG) (b:MS) (l:Nat):Nat→Nat→MS
  | 0,_=>fun _ _=>.stuck
  | n+1,i=>fun env S=>match S[l]? with
    | some (.lst xs)=>match xs[i]? with
      | none=>.next env S
      | some d=>match g (.tup [.int (i:Nat),d]) env S with
        | none=>.stuck
        | some p=>match b p.1 p.2 with
          | .next env S=>fD g b l n (i+1) env S
          | .cont env S=>fD g b l n (i+1) env S
          | .brk env S=>.next env S
          | .ret d S=>.ret d S
          | .exc e env S=>.exc e env S
          | .stuck=>.stuck
    | _=>.stuck
def eQ (S:Sto) (l:Nat):Nat:=match S[l]? with
  | some (.lst xs)=>xs.length
  | _=>0
def eR (mi:MI) (g:MG) (b:MS):MS:=fun env S=>(mi env S).rs env fun it S=>match it with
  | .items ds=>dI g b ds env S
  | .live l=>fC g b l (eQ S l+1) 0 env S
  | .liveE l=>fD g b l (eQ S l+1) 0 env S
theorem eE {iter:Expr} {body:List Stmt} {mi:MI} {g:MG} {b:MS} (hp:PassesOwn (model X.prog X.w) X.A X.env X.xe) (hc:X.calm=true) (hi:PI X tg iter (tI X W mi)) (hg:PG X tg (tG X g)) (hb:PSs X body (tS X W b))
    (hs:∀x,foldedSetIterable iter X.env x=pure x:=by intro _; rfl):PS X (.For tg iter body [] pos) (tS X W (eR mi g b)):=
  jF (ps_for hp hc hi hg hb hs) fun D σ H ⟨env,S,μ,rl,o⟩=>⟨env,S,μ,rl,(OutS.rs rl.env o).mono fun J H1 ⟨μ1,S1,it,st,rs,rd,o1⟩=>by
    cases it with
    | items ds=>
      have rd:eD X.K X.mg μ1 H1 ds J:=rd
      refine ⟨fun i n σ H=>n+i=ds.length∧∃env S μ,Step μ1 H1 μ H∧Rl X.K X.mg μ H env σ S∧OutS X.K X.mg W μ H D (dI g b (ds.drop i) env S),⟨ds.length,rfl,env,S1,μ1,.refl,⟨rl.env.step st,rs⟩,o1⟩,?_⟩
      rintro i n σ H ⟨hn,env,S,μ,st1,rl,o⟩
      by_cases hi:i<ds.length
      · have ed:ds.drop i=ds[i]::ds.drop (i+1):=List.drop_eq_getElem_cons hi
        rw[ed] at o
        unfold dI at o
        refine .inr ⟨rd.goes i μ H hi st1.toStp,fun σ H=>∃env S μ,Step μ1 H1 μ H∧Rl X.K X.mg μ H env σ S∧OutS X.K X.mg W μ H D (dI g b (ds.drop (i+1)) env S),fun σ' H' w=>⟨n - 1,by omega,by omega,w⟩,fun x H' y=>?_⟩
        obtain ⟨sm,rx⟩:=rd.yields i _ μ H S x H' (List.getElem?_eq_getElem hi) st1.toStp rl.sto y
        have stx:Step μ H μ H':=.of_sm sm
        refine ⟨env,S,μ,_,rl.sm sm,rx,?_⟩
        cases hg:g ds[i] env S with
        | none=>rw[hg] at o; exact o.elim
        | some p=>
          rw[hg] at o
          refine fun μ2 H2 σ2 st2 re2 rs2=>⟨p.1,p.2,μ2,⟨re2,rs2⟩,?_⟩
          have o:=OutS.of_step (stx.trans st2) o
          cases hb:b p.1 p.2 with
          | next e S=>simp only[hb] at o; exact fun μ' H' σ' s t u=>⟨e,S,μ',((st1.trans stx).trans st2).trans s,⟨t,u⟩,OutS.of_step s o⟩
          | cont e S=>simp only[hb] at o; exact fun μ' H' σ' s t u=>⟨e,S,μ',((st1.trans stx).trans st2).trans s,⟨t,u⟩,OutS.of_step s o⟩
          | brk e S=>simp only[hb] at o; exact o
          | ret d S=>simp only[hb] at o; exact o
          | exc e v S=>simp only[hb] at o; exact o
          | stuck=>simp only[hb] at o; exact o
      · have e:i=ds.length:=by omega
        subst e
        rw[List.drop_length] at o
        exact .inl ⟨rd.stops μ H st1.toStp,o μ H σ .refl rl.env rl.sto⟩
    | live l=>
      obtain ⟨a,ha,rfl⟩:=rd
      refine ⟨fun i n σ H=>∃env S μ,Step μ1 H1 μ H∧Rl X.K X.mg μ H env σ S∧OutS X.K X.mg W μ H D (fC g b l n i env S),⟨_,env,S1,μ1,.refl,⟨rl.env.step st,rs⟩,o1⟩,?_⟩
      rintro i n σ H ⟨env,S,μ,st1,rl,o⟩
      cases n with
      | zero=>exact o.elim
      | succ n=>
        unfold fC at o
        split at o
        · rename_i xs es
          obtain ⟨a',h1,vs,h2,h3⟩:=rl.sto.at_ _ _ es
          rw[st1.get ha] at h1; cases h1
          split at o
          · rename_i hx
            refine .inl ⟨⟨vs,.of h2,?_⟩,o μ H σ .refl rl.env rl.sto⟩
            rw[←h3.length]
            exact List.getElem?_eq_none_iff.mp hx
          · rename_i d hx
            obtain ⟨v,hv,rv⟩:=h3.get hx
            refine .inr ⟨⟨vs,v,.of h2,hv⟩,fun σ H=>∃env S μ,Step μ1 H1 μ H∧Rl X.K X.mg μ H env σ S∧OutS X.K X.mg W μ H D (fC g b l n (i+1) env S),fun σ' H' w=>⟨n,Nat.lt_succ_self n,w⟩,fun x H' y=>?_⟩
            obtain ⟨rfl,y⟩:=y
            have q:=y vs (.of h2)
            rw[hv] at q; cases q
            refine ⟨env,S,μ,_,rl,rv,?_⟩
            cases hg:g d env S with
            | none=>rw[hg] at o; exact o.elim
            | some p=>
              rw[hg] at o
              refine fun μ2 H2 σ2 st2 re2 rs2=>⟨p.1,p.2,μ2,⟨re2,rs2⟩,?_⟩
              have o:=OutS.of_step st2 o
              cases hb:b p.1 p.2 with
              | next e S=>simp only[hb] at o; exact fun μ' H' σ' s t u=>⟨e,S,μ',(st1.trans st2).trans s,⟨t,u⟩,OutS.of_step s o⟩
              | cont e S=>simp only[hb] at o; exact fun μ' H' σ' s t u=>⟨e,S,μ',(st1.trans st2).trans s,⟨t,u⟩,OutS.of_step s o⟩
              | brk e S=>simp only[hb] at o; exact o
              | ret d S=>simp only[hb] at o; exact o
              | exc e v S=>simp only[hb] at o; exact o
              | stuck=>simp only[hb] at o; exact o
        · exact o.elim
    | liveE l=>
      obtain ⟨a,ha,rfl⟩:=rd
      refine ⟨fun i n σ H=>∃env S μ,Step μ1 H1 μ H∧Rl X.K X.mg μ H env σ S∧OutS X.K X.mg W μ H D (fD g b l n i env S),⟨_,env,S1,μ1,.refl,⟨rl.env.step st,rs⟩,o1⟩,?_⟩
      rintro i n σ H ⟨env,S,μ,st1,rl,o⟩
      cases n with
      | zero=>exact o.elim
      | succ n=>
        unfold fD at o
        split at o
        · rename_i xs es
          obtain ⟨a',h1,vs,h2,h3⟩:=rl.sto.at_ _ _ es
          rw[st1.get ha] at h1; cases h1
          split at o
          · rename_i hx
            refine .inl ⟨⟨vs,.of h2,?_⟩,o μ H σ .refl rl.env rl.sto⟩
            rw[←h3.length]
            exact List.getElem?_eq_none_iff.mp hx
          · rename_i d hx
            obtain ⟨v,hv,rv⟩:=h3.get hx
            refine .inr ⟨⟨vs,v,.of h2,hv⟩,fun σ H=>∃env S μ,Step μ1 H1 μ H∧Rl X.K X.mg μ H env σ S∧OutS X.K X.mg W μ H D (fD g b l n (i+1) env S),fun σ' H' w=>⟨n,Nat.lt_succ_self n,w⟩,fun x H' y=>?_⟩
            obtain ⟨T,w,rfl,hT,rfl,y⟩:=y
            have q:=y vs (.of h2)
            rw[hv] at q; cases q
            have sm:Sm H (upd H T (.tup [.int (i:Int),v])):=.upd hT
            have stx:Step μ H μ (upd H T (.tup [.int (i:Int),v])):=.of_sm sm
            have rx:Rep X.K X.mg μ (upd H T (.tup [.int (i:Int),v])) (.tup [.int (i:Nat),d]) (.ref T):=bO rl.sto hT (.cons (bA _) (.cons rv .nil))
            refine ⟨env,S,μ,_,rl.sm sm,rx,?_⟩
            cases hg:g (.tup [.int (i:Nat),d]) env S with
            | none=>rw[hg] at o; exact o.elim
            | some p=>
              rw[hg] at o
              refine fun μ2 H2 σ2 st2 re2 rs2=>⟨p.1,p.2,μ2,⟨re2,rs2⟩,?_⟩
              have o:=OutS.of_step (stx.trans st2) o
              cases hb:b p.1 p.2 with
              | next e S=>simp only[hb] at o; exact fun μ' H' σ' s t u=>⟨e,S,μ',((st1.trans stx).trans st2).trans s,⟨t,u⟩,OutS.of_step s o⟩
              | cont e S=>simp only[hb] at o; exact fun μ' H' σ' s t u=>⟨e,S,μ',((st1.trans stx).trans st2).trans s,⟨t,u⟩,OutS.of_step s o⟩
              | brk e S=>simp only[hb] at o; exact o
              | ret d S=>simp only[hb] at o; exact o
              | exc e v S=>simp only[hb] at o; exact o
              | stuck=>simp only[hb] at o; exact o
        · exact o.elim⟩
end
end DL
namespace DL
open PySem PySem.Spec PyProof.Rows L2
def bn (env:En):List Nat→En
  | []=>env
  | v::vs=>(bn env vs).set v none
theorem iG (env:En):∀vs:List Nat,(bn env vs).length=env.length
  | []=>rfl
  | v::vs=>by unfold bn; rw[List.length_set,iG env vs]
theorem jw {env:En} {i:Nat} {x:D}:∀ {vs:List Nat},(bn env vs)[i]?=some (some x)→env[i]?=some (some x)∧i∉vs
  | [],h=>⟨h,by simp⟩
  | v::vs,h=>by
    unfold bn at h
    by_cases hi:v=i
    · subst hi
      by_cases hv:v<(bn env vs).length
      · rw[List.getElem?_set_self hv] at h; cases h
      · rw[List.getElem?_eq_none (by simpa using hv)] at h; cases h
    · rw[List.getElem?_set_ne hi] at h
      obtain ⟨h1,h2⟩:=jw h
      exact ⟨h1,by simp only[List.mem_cons,not_or]; exact ⟨fun e=>hi e.symm,h2⟩⟩
theorem RelE.wipe {K:PySem.W.Frag} {mg:Str→Option Value} {μ:Mu} {H:Hp} {env:En} {σ:L2.St} (h:RelE K mg μ H env σ) (vs:List Nat):RelE K mg μ H (bn env vs) (L2.wipe σ vs):=by
  refine ⟨by rw[iG,wipe_length]; exact h.len,fun i d e=>?_⟩
  obtain ⟨h1,h2⟩:=jw e
  obtain ⟨v,h3,h4⟩:=h.at_ i d h1
  exact ⟨v,by rw[wipe_out h2]; exact h3,h4⟩
theorem iH {σ:L2.St} {i:Nat} {v:Option V}:∀ {vs:List Nat},i∈vs→L2.wipe (σ.set i v) vs=L2.wipe σ vs
  | [],h=>by cases h
  | j::vs,h=>by
    unfold L2.wipe
    by_cases hj:j=i
    · subst hj
      by_cases hm:j∈vs
      · rw[iH hm]
      · have:∀(ws:List Nat) (τ:L2.St),j∉ws→L2.wipe (τ.set j v) ws=(L2.wipe τ ws).set j v:=by
          intro ws
          induction ws with
          | nil=>intro τ _; rfl
          | cons k ws ih=>
            intro τ hk
            rw[List.mem_cons,not_or] at hk
            unfold L2.wipe
            rw[ih τ hk.2,List.set_comm _ _ hk.1]
        rw[this vs σ hm,List.set_set]
    · have hm:i∈vs:=by
        rcases List.mem_cons.mp h with e|e
        · exact absurd e.symm hj
        · exact e
      rw[iH hm]
def tGc (X:Cx) (vs:List Nat) (g:MG):TG:=fun v σ H Q=>∃env S μ d,Rl X.K X.mg μ H env σ S∧Rep X.K X.mg μ H d v∧OutO X.K X.mg μ H (fun σ' H'=>L2.wipe σ' vs=L2.wipe σ vs→Q σ' H') (g d env S)
def tGcs (X:Cx) (vs:List Nat) (g:MGs):TGs:=fun us σ H Q=>∃env S μ ds,Rl X.K X.mg μ H env σ S∧RepAll X.K X.mg μ H ds us∧OutO X.K X.mg μ H (fun σ' H'=>L2.wipe σ' vs=L2.wipe σ vs→Q σ' H') (g ds env S)
theorem OutO.mono {K:PySem.W.Frag} {mg:Str→Option Value} {μ:Mu} {H:Hp} {Q Q':L2.St→Hp→Prop} {r:Option (En × Sto)} (o:OutO K mg μ H Q r) (h:∀σ H,Q σ H→Q' σ H):OutO K mg μ H Q' r:=by
  cases r with
  | none=>exact o
  | some p=>exact fun μ' H' σ' s t u=>h _ _ (o μ' H' σ' s t u)
section
variable {X:Cx} {W:WX} {e tg iter elt:Expr} {pos:Pos} {g:MG} {m:ME} {mi:MI} {tc:MT} {vs:List Nat}
theorem bG {i:Nat} {x:Str} (hN:X.N.Nodup) (hi:X.N[i]?=some x) (hx:Loc X.env.scope x) (hv:i∈vs) (hf:X.fn x=true∨X.env.scope.names.lookup x=some .local:=by first|exact .inl rfl|exact .inr rfl|assumption):PG X (.Name x pos) (tGc X vs (gV i)):=
  k8 (pg_name hN hi hx hf) fun v σ H Q ⟨env,S,μ,d,rl,r,o⟩=>o μ H _ .refl (rl.env.set r) rl.sto (iH hv)
theorem jd:PGs X [] (tGcs X vs cz):=lx pgs_nil fun us σ H Q ⟨env,S,μ,ds,rl,r,o⟩=>by
  cases ds with
  | nil=>unfold RepAll at r; exact ⟨r,o μ H σ .refl rl.env rl.sto rfl⟩
  | cons a b=>exact o.elim
theorem dJ {es:List Expr} {gs:MGs} (h1:PG X e (tGc X vs g)) (h2:PGs X es (tGcs X vs gs))
    (hs:(assignEach (e::es) X.env).map (·.2)=assign e X.env::(assignEach es X.env).map (·.2):=by rfl):PGs X (e::es) (tGcs X vs (ar g gs)):=
  lx (pgs_cons h1 h2 hs) fun us σ H Q ⟨env,S,μ,ds,rl,r,o⟩=>by
    cases ds with
    | nil=>exact o.elim
    | cons d ds=>
      unfold RepAll at r
      obtain ⟨v,q,rfl,r1,r2⟩:=r
      refine ⟨v,q,rfl,env,S,μ,d,rl,r1,?_⟩
      have o:OutO X.K X.mg μ H _ ((g d env S).bind fun p=>gs ds p.1 p.2):=o
      cases hq:g d env S with
      | none=>rw[hq] at o; exact o.elim
      | some p=>
        rw[hq] at o
        exact fun μ' H' σ' s t u w=>⟨p.1,p.2,μ',ds,⟨t,u⟩,RepAll.step s _ _ r2,(OutO.of_step s o).mono fun σ2 H2 f w2=>f (w2.trans w)⟩
theorem l0 {es:List Expr} {k:Nat} {n:Nat} {gs:MGs} (hc:X.calm=true) (h:PGs X es (tGcs X vs gs))
    (hn:(assignEach es X.env).length=n:=by rfl) (hst:(assignEach es X.env).findIdx? (·.1)=none:=by rfl):PG X (.Tuple es k pos) (tGc X vs (cp n gs)):=
  k8 (pg_tup hc h hn hst) fun v σ H Q ⟨env,S,μ,d,rl,r,o⟩=>by
    unfold cp at o
    split at o
    · rename_i ds ev
      by_cases hl:ds.length=n
      · simp only[hl,if_true] at o
        have w:=r.wv.vt
        rw[ev] at w
        obtain ⟨a,vs,rfl,h1,h2,_⟩:=w
        exact ⟨a,vs,rfl,.inl h1,by rw[←h2.length]; exact hl,env,S,μ,ds,rl,h2,o⟩
      · simp only[hl,if_false] at o; exact o.elim
    · exact o.elim
def Res.bindS {α β:Type}:Res α→(α→Sto→Res β)→Res β
  | .ok a S,f=>f a S
  | _,_=>.stuck
theorem Out.bindS {α β α' β':Type} {K:PySem.W.Frag} {mg:Str→Option Value} {μ:Mu} {H:Hp} {W W0:WX} {σ σ':L2.St} {R:Mu→Hp→α→β→Prop} {R':Mu→Hp→α'→β'→Prop} {Q:β'→Hp→Prop} {r:Res α} {f:α→Sto→Res α'} (o:Out K mg W σ μ H R' Q (r.bindS f)) :
    Out K mg W0 σ' μ H R (fun b H1=>∃μ1 S1 a,Step μ H μ1 H1∧RelS K mg μ1 H1 S1∧R μ1 H1 a b∧Out K mg W σ μ1 H1 R' Q (f a S1)) r:=by
  cases r with
  | ok a S=>exact fun μ' H' b s t u=>⟨μ',S,a,s,t,u,Out.of_step s o⟩
  | exc e S=>exact o.elim
  | stuck=>exact o
/-- one turn: the items made so far,behind it -/
def jx (g:MG) (tc:MT) (m:ME) (w:En) (d:D) (acc:List D) (S:Sto):Res (List D):=match g d w S with
  | none=>.stuck
  | some p=>(tc p.1 p.2).bindS fun c S2=>if c=true then (m p.1 S2).bindS fun v S3=>if acc.length<1000000 then .ok (acc++[v]) S3 else .stuck else .ok acc S2
def cr (g:MG) (tc:MT) (m:ME) (w:En):List D→List D→Sto→Res (List D)
  | [],acc,S=>.ok acc S
  | d::ds,acc,S=>(jx g tc m w d acc S).bindS fun acc S=>cr g tc m w ds acc S
def jy (g:MG) (tc:MT) (m:ME) (w:En) (l:Nat):Nat→Nat→List D→Sto→Res (List D)
  | 0,_,_,_=>.stuck
  | n+1,i,acc,S=>match S[l]? with
    | some (.lst xs)=>match xs[i]? with
      | none=>.ok acc S
      | some d=>(jx g tc m w d acc S).bindS fun acc S=>jy g tc m w l n (i+1) acc S
    | _=>.stuck
def jz (g:MG) (tc:MT) (m:ME) (w:En) (l:Nat):Nat→Nat→List D→Sto→Res (List D)
  | 0,_,_,_=>.stuck
  | n+1,i,acc,S=>match S[l]? with
    | some (.lst xs)=>match xs[i]? with
      | none=>.ok acc S
      | some d=>(jx g tc m w (.tup [.int (i:Nat),d]) acc S).bindS fun acc S=>jz g tc m w l n (i+1) acc S
    | _=>.stuck
def gn (mi:MI) (g:MG) (tc:MT) (m:ME) (vs:List Nat):MA:=fun env S=>(mi env S).bind fun it S=>match it with
  | .items ds=>cr g tc m (bn env vs) ds [] S
  | .live l=>jy g tc m (bn env vs) l (eQ S l+1) 0 [] S
  | .liveE l=>jz g tc m (bn env vs) l (eQ S l+1) 0 [] S
def cD (mi:MI) (g:MG) (tc:MT) (m:ME) (vs:List Nat):ME:=fun env S=>(gn mi g tc m vs env S).bind fun ds S=>.ok (.lst ds) S
def rj (mi:MI) (g:MG) (tc:MT) (m:ME) (vs:List Nat):ME:=fun env S=>(gn mi g tc m vs env S).bind fun ds S=>.ok (.loc S.length) (S++[.lst ds])
abbrev W0:WX:=fun _ _ _ _=>False
def bv:MT:=fun _ S=>.ok true S
def PTs' (X:Cx) (ifs:List Expr) (tc:MT):Prop:=PTs X ifs (tT X W0 tc)
theorem cZ:PTs' X [] bv:=⟨fun pins s σ H Q I ⟨env,S,μ,rl,o⟩=>pts_nil.run pins s σ H Q I (o μ H true .refl rl.sto rfl)⟩
theorem je {c:Expr} (h:PT X c (tT X W0 tc)):PTs' X [c] tc:=pts_one h
/-- what a comprehension gives -/
def RL (K:PySem.W.Frag) (mg:Str→Option Value) (μ:Mu) (H:Hp) (ds:List D) (v:V):Prop:=∃p us,v=.ref p∧H p=some (.lst us)∧p∉μ∧RepAll K mg μ H ds us
theorem lB:∀(ws vs:List Nat) (τ:L2.St),(∀i∈ws,i∈vs)→L2.wipe (L2.wipe τ ws) vs=L2.wipe τ vs
  | [],vs,τ,_=>rfl
  | k::ws,vs,τ,hk=>by
    show L2.wipe ((L2.wipe τ ws).set k none) vs=_
    rw[iH (hk k List.mem_cons_self)]
    exact lB ws vs τ fun i hi=>hk i (List.mem_cons_of_mem _ hi)
/-- what stays,but what is being made at p -/
structure StP (p:Addr) (μ:Mu) (H:Hp) (μ':Mu) (H':Hp):Prop extends Stp μ H μ' H' where
  hid:μ'.h=μ.h
  hk:∀a u,a≠p→a∈μ.h→H a=some u→NTb u→H' a=some u
theorem StP.of {p:Addr} {μ μ':Mu} {H H':Hp} (s:Step μ H μ' H'):StP p μ H μ' H':=⟨s.toStp,s.hid,fun a u _ h e t=>s.hk a u h e t⟩
theorem StP.trans {p:Addr} {μ μ' μ2:Mu} {H H' H2:Hp} (s:StP p μ H μ' H') (t:StP p μ' H' μ2 H2):StP p μ H μ2 H2:=⟨s.toStp.trans t.toStp,t.hid.trans s.hid,fun a u n h e nt=>t.hk a u n (by rw[s.hid]; exact h) (s.hk a u n h e nt) nt⟩
theorem StP.write {p:Addr} {μ:Mu} {H:Hp} {o:HO} (h:p∈μ.h) (nf:NF H p):StP p μ H μ (upd H p o):=⟨.write_hid h nf,rfl,fun a u n _ e _=>by rw[upd_ne n]; exact e⟩
/-- a turn's reading -/
theorem l4 {W:WX} {vs:List Nat} {σ σo:L2.St} {w:En} {p:Addr} {Q:V→Hp→Prop} {μ1 μ2:Mu} {H1 H2:Hp} {S2:Sto} {d:D} {x:V} {acc:List D} {us:List V} {N:Hp→Prop} {f:List D→Sto→Res (List D)}
    (re:RelE X.K X.mg μ2 H2 w (L2.wipe σ vs)) (rs:RelS X.K X.mg μ2 H2 S2) (hp:H2 p=some (.lst us)) (np:p∈μ2.h) (ra:RepAll X.K X.mg μ2 H2 acc us) (rx:Rep X.K X.mg μ2 H2 d x)
    (o:Out X.K X.mg W σo μ1 H1 (RL X.K X.mg) Q ((jx g tc m w d acc S2).bindS f))
    (hN:∀μ3 H3 S3 acc' us',StP p μ2 H2 μ3 H3→RelS X.K X.mg μ3 H3 S3→H3 p=some (.lst us')→RepAll X.K X.mg μ3 H3 acc' us'→Out X.K X.mg W σo μ1 H1 (RL X.K X.mg) Q (f acc' S3)→N H3) :
    tGc X vs g x (L2.wipe σ vs) H2 fun σ2 H3=>L2.wipe σ2 vs=L2.wipe σ vs∧tT X W0 tc σ2 H3 fun b H4=>if b=true then tE X W0 m σ2 H4 fun y H5=>∃acc,H5 p=some (.lst acc)∧acc.length<sizeLine∧N (upd H5 p (.lst (acc++[y]))) else N H4:=by
  refine ⟨w,S2,μ2,d,⟨re,rs⟩,rx,?_⟩
  unfold jx at o
  cases hg:g d w S2 with
  | none=>simp only[hg,Res.bindS] at o; exact o.elim
  | some q=>
    obtain ⟨e,Se⟩:=q
    simp only[hg] at o
    intro μ3 H3 σ3 st3 re3 rs3 hw
    refine ⟨hw.trans (lB vs vs σ fun i hi=>hi),e,Se,μ3,⟨re3,rs3⟩,?_⟩
    have hp3:H3 p=some (.lst us):=st3.hk _ _ np hp
    have np3:p∈μ3.h:=by rw[st3.hid]; exact np
    have ra3:=RepAll.step st3 _ _ ra
    cases htc:tc e Se with
    | exc a b=>simp only[htc,Res.bindS] at o; exact o.elim
    | stuck=>simp only[htc,Res.bindS] at o; exact o.elim
    | ok c S4=>
      simp only[htc,Res.bindS] at o
      intro μ4 H4 b st4 rs4 hb
      subst hb
      have hp4:=st4.hk _ _ np3 hp3
      have np4:p∈μ4.h:=by rw[st4.hid]; exact np3
      have ra4:=RepAll.step st4 _ _ ra3
      cases b with
      | false=>
        simp only[Bool.false_eq_true,if_false] at o ⊢
        exact hN μ4 H4 S4 acc us (.of (st3.trans st4)) rs4 hp4 ra4 o
      | true=>
        simp only[if_true] at o ⊢
        refine ⟨e,S4,μ4,⟨re3.step st4,rs4⟩,?_⟩
        cases hm:m e S4 with
        | exc a b=>simp only[hm,Res.bindS] at o; exact o.elim
        | stuck=>simp only[hm,Res.bindS] at o; exact o.elim
        | ok v S5=>
          simp only[hm,Res.bindS] at o
          intro μ5 H5 y st5 rs5 ry
          have hp5:=st5.hk _ _ np4 hp4
          have np5:p∈μ5.h:=by rw[st5.hid]; exact np4
          have ra5:=RepAll.step st5 _ _ ra4
          by_cases hl:acc.length<1000000
          · simp only[hl,if_true] at o
            have sw:StP p μ5 H5 μ5 (upd H5 p (.lst (us++[y]))):=.write np5 (.of hp5)
            refine ⟨us,hp5,?_,?_⟩
            · rw[←ra.length,sizeLine_eq]; omega
            · exact hN μ5 _ S5 (acc++[v]) (us++[y]) ((StP.of ((st3.trans st4).trans st5)).trans sw) (rs5.write_hid np5) upd_same
                (RepAll.stp sw.toStp _ _ (ra5.append (.cons ry .nil))) o
          · simp only[hl,if_false] at o; exact o.elim
theorem rm {own:List (Str × Nat)} {σ:L2.St} {H:Hp} {Q:VK} {W:WX} (h:tM X (RL X.K X.mg) W (gn mi g tc m (own.map (·.2))) σ H Q) :
    tLc (tI X W mi) (tGc X (own.map (·.2)) g) (tT X W0 tc) (tE X W0 m) (own.map (·.2)) σ H Q:=by
  obtain ⟨env,S,μ,rl,o⟩:=h
  generalize own.map (·.2)=vs at *
  refine ⟨env,S,μ,rl,(Out.bind o).mono fun J H1 ⟨μ1,S1,it,st,rs,rd,o1⟩ p hp=>?_⟩
  have rw1:RelE X.K X.mg μ1 H1 (bn env vs) (L2.wipe σ vs):=(rl.env.step st).wipe vs
  generalize bn env vs=w at *
  -- where it begins
  have sh:Stp μ1 H1 (μ1.hide p) (upd H1 p (.lst [])):=.new_hid hp
  have fin:∀(μ2:Mu) (H2:Hp) (S2:Sto) (acc:List D) (us:List V),StP p (μ1.hide p) (upd H1 p (.lst [])) μ2 H2→RelS X.K X.mg μ2 H2 S2→H2 p=some (.lst us)→RepAll X.K X.mg μ2 H2 acc us→Out X.K X.mg W σ μ1 H1 (RL X.K X.mg) Q (.ok acc S2)→Q (.ref p) H2:=by
    intro μ2 H2 S2 acc us sp rs2 hp2 ra o
    have sub:∀a∈μ1.h,a∈μ2.h:=fun a ha=>by rw[sp.hid]; exact List.mem_cons_of_mem _ ha
    have su:Stp μ2 H2 ⟨μ2.l,μ1.h⟩ H2:=.unhide sub
    have np:p∉(⟨μ2.l,μ1.h⟩:Mu):=fun z=>z.elim (fun z=>rs2.dis p z (by rw[sp.hid]; exact List.mem_cons_self)) (rs.notinH hp)
    exact o ⟨μ2.l,μ1.h⟩ H2 (.ref p) ⟨(sh.trans sp.toStp).trans su,rfl,fun a u ha e nt=>sp.hk a u (ne_of_none e hp) (List.mem_cons_of_mem _ ha) (by rw[upd_ne (ne_of_none e hp)]; exact e) nt⟩ (rs2.unhide sub)
      ⟨p,us,rfl,hp2,np,RepAll.stp su _ _ ra⟩
  have npm:∀ {μ2:Mu} {H2:Hp},StP p (μ1.hide p) (upd H1 p (.lst [])) μ2 H2→p∈μ2.h:=fun sp=>by rw[sp.hid]; exact List.mem_cons_self
  have st0:StP p (μ1.hide p) (upd H1 p (.lst [])) (μ1.hide p) (upd H1 p (.lst [])):=.of .refl
  cases it with
  | items ds=>
    have rd:eD X.K X.mg μ1 H1 ds J:=rd
    refine ⟨fun i n H=>n+i=ds.length∧∃μ S acc us,StP p (μ1.hide p) (upd H1 p (.lst [])) μ H∧RelS X.K X.mg μ H S∧H p=some (.lst us)∧RepAll X.K X.mg μ H acc us∧Out X.K X.mg W σ μ1 H1 (RL X.K X.mg) Q (cr g tc m w (ds.drop i) acc S),
      ⟨ds.length,rfl,_,S1,[],[],st0,rs.hide hp,upd_same,.nil,o1⟩,?_⟩
    rintro i n H ⟨hn,μ,S,acc,us,sp,rs,hpp,ra,o⟩
    have sb:Stp μ1 H1 μ H:=sh.trans sp.toStp
    by_cases hi:i<ds.length
    · have ed:ds.drop i=ds[i]::ds.drop (i+1):=List.drop_eq_getElem_cons hi
      rw[ed] at o
      unfold cr at o
      refine .inr ⟨rd.goes i μ H hi sb,fun H=>∃μ S acc us,StP p (μ1.hide p) (upd H1 p (.lst [])) μ H∧RelS X.K X.mg μ H S∧H p=some (.lst us)∧RepAll X.K X.mg μ H acc us∧Out X.K X.mg W σ μ1 H1 (RL X.K X.mg) Q (cr g tc m w (ds.drop (i+1)) acc S),fun H' w=>⟨n - 1,by omega,by omega,w⟩,fun x H' y=>?_⟩
      obtain ⟨sm,rx⟩:=rd.yields i _ μ H S x H' (List.getElem?_eq_getElem hi) sb rs y
      have sx:Step μ H μ H':=.of_sm sm
      have spx:=sp.trans (StP.of sx)
      refine l4 ((rw1.stp sh).stp spx.toStp) (rs.sm sm) (sm _ _ hpp) (npm spx) (RepAll.step sx _ _ ra) rx o fun μ3 H3 S3 acc' us' s3 rs3 hp3 ra3 o3=>⟨μ3,S3,acc',us',spx.trans s3,rs3,hp3,ra3,o3⟩
    · have e:i=ds.length:=by omega
      subst e
      rw[List.drop_length] at o
      exact .inl ⟨rd.stops μ H sb,fin μ H S acc us sp rs hpp ra o⟩
  | live l=>
    obtain ⟨a,ha,rfl⟩:=rd
    refine ⟨fun i n H=>∃μ S acc us,StP p (μ1.hide p) (upd H1 p (.lst [])) μ H∧RelS X.K X.mg μ H S∧H p=some (.lst us)∧RepAll X.K X.mg μ H acc us∧Out X.K X.mg W σ μ1 H1 (RL X.K X.mg) Q (jy g tc m w l n i acc S),
      ⟨_,_,S1,[],[],st0,rs.hide hp,upd_same,.nil,o1⟩,?_⟩
    rintro i n H ⟨μ,S,acc,us,sp,rs,hpp,ra,o⟩
    have sb:Stp μ1 H1 μ H:=sh.trans sp.toStp
    cases n with
    | zero=>exact o.elim
    | succ n=>
      unfold jy at o
      split at o
      · rename_i xs es
        obtain ⟨a',h1,vs',h2,h3⟩:=rs.at_ _ _ es
        rw[sb.get ha] at h1; cases h1
        split at o
        · rename_i hx
          refine .inl ⟨⟨vs',.of h2,?_⟩,fin μ H S acc us sp rs hpp ra o⟩
          rw[←h3.length]
          exact List.getElem?_eq_none_iff.mp hx
        · rename_i d hx
          obtain ⟨v,hv,rv⟩:=h3.get hx
          refine .inr ⟨⟨vs',v,.of h2,hv⟩,fun H=>∃μ S acc us,StP p (μ1.hide p) (upd H1 p (.lst [])) μ H∧RelS X.K X.mg μ H S∧H p=some (.lst us)∧RepAll X.K X.mg μ H acc us∧Out X.K X.mg W σ μ1 H1 (RL X.K X.mg) Q (jy g tc m w l n (i+1) acc S),fun H' w=>⟨n,Nat.lt_succ_self n,w⟩,fun x H' y=>?_⟩
          obtain ⟨rfl,y⟩:=y
          have q:=y vs' (.of h2)
          rw[hv] at q; cases q
          exact l4 ((rw1.stp sh).stp sp.toStp) rs hpp (npm sp) ra rv o fun μ3 H3 S3 acc' us' s3 rs3 hp3 ra3 o3=>⟨μ3,S3,acc',us',sp.trans s3,rs3,hp3,ra3,o3⟩
      · exact o.elim
  | liveE l=>
    obtain ⟨a,ha,rfl⟩:=rd
    refine ⟨fun i n H=>∃μ S acc us,StP p (μ1.hide p) (upd H1 p (.lst [])) μ H∧RelS X.K X.mg μ H S∧H p=some (.lst us)∧RepAll X.K X.mg μ H acc us∧Out X.K X.mg W σ μ1 H1 (RL X.K X.mg) Q (jz g tc m w l n i acc S),
      ⟨_,_,S1,[],[],st0,rs.hide hp,upd_same,.nil,o1⟩,?_⟩
    rintro i n H ⟨μ,S,acc,us,sp,rs,hpp,ra,o⟩
    have sb:Stp μ1 H1 μ H:=sh.trans sp.toStp
    cases n with
    | zero=>exact o.elim
    | succ n=>
      unfold jz at o
      split at o
      · rename_i xs es
        obtain ⟨a',h1,vs',h2,h3⟩:=rs.at_ _ _ es
        rw[sb.get ha] at h1; cases h1
        split at o
        · rename_i hx
          refine .inl ⟨⟨vs',.of h2,?_⟩,fin μ H S acc us sp rs hpp ra o⟩
          rw[←h3.length]
          exact List.getElem?_eq_none_iff.mp hx
        · rename_i d hx
          obtain ⟨v,hv,rv⟩:=h3.get hx
          refine .inr ⟨⟨vs',v,.of h2,hv⟩,fun H=>∃μ S acc us,StP p (μ1.hide p) (upd H1 p (.lst [])) μ H∧RelS X.K X.mg μ H S∧H p=some (.lst us)∧RepAll X.K X.mg μ H acc us∧Out X.K X.mg W σ μ1 H1 (RL X.K X.mg) Q (jz g tc m w l n (i+1) acc S),fun H' w=>⟨n,Nat.lt_succ_self n,w⟩,fun x H' y=>?_⟩
          obtain ⟨T,z,rfl,hT,rfl,y⟩:=y
          have q:=y vs' (.of h2)
          rw[hv] at q; cases q
          have sm:Sm H (upd H T (.tup [.int (i:Int),v])):=.upd hT
          have sx:Step μ H μ (upd H T (.tup [.int (i:Int),v])):=.of_sm sm
          have rx:Rep X.K X.mg μ (upd H T (.tup [.int (i:Int),v])) (.tup [.int (i:Nat),d]) (.ref T):=bO rs hT (.cons (bA _) (.cons rv .nil))
          have spx:=sp.trans (StP.of sx)
          exact l4 ((rw1.stp sh).stp spx.toStp) (rs.sm sm) (sm _ _ hpp) (npm spx) (RepAll.step sx _ _ ra) rx o fun μ3 H3 S3 acc' us' s3 rs3 hp3 ra3 o3=>⟨μ3,S3,acc',us',spx.trans s3,rs3,hp3,ra3,o3⟩
      · exact o.elim
theorem rl_lst {K:PySem.W.Frag} {mg:Str→Option Value} {μ:Mu} {H:Hp} {ds:List D} {v:V} (r:RL K mg μ H ds v):Rep K mg μ H (.lst ds) v:=by
  obtain ⟨p,us,e,h1,n,h2⟩:=r
  unfold Rep
  exact ⟨p,us,e,h1,n,h2⟩
/-- frozen -/
theorem lC {σ:L2.St} {H:Hp} {Q:VK} {W:WX} (h:tE X W (cD mi g tc m vs) σ H Q):tM X (RL X.K X.mg) W (gn mi g tc m vs) σ H Q:=by
  obtain ⟨env,S,μ,rl,o⟩:=h
  refine ⟨env,S,μ,rl,(Out.bind (R:=RL X.K X.mg) o).mono fun v H1 ⟨μ1,S1,ds,st,rs,r,o1⟩=>o1 μ1 H1 v .refl rs (rl_lst r)⟩
section
variable {scope:Scope} {own:List (Str × Nat)} {W:WX} {ifs:List Expr}
theorem cO (hc:X.calm=true) (hN:X.N.Nodup) (hi:PI X tg iter (tI X W mi)) (ok:BlkOk X.N X.env.scope scope own)
    (hg:∀(s:Shared) (H:Hp) (C:Addr) (cl:List (Str × Addr)) (fp:List Addr),PG (X.blk s H scope (compEnvC scope cl C X.env) fp) tg (tGc (X.blk s H scope (compEnvC scope cl C X.env) fp) (own.map (·.2)) g))
    (ht:∀(s:Shared) (H:Hp) (C:Addr) (cl:List (Str × Addr)) (fp:List Addr),PTs' (X.blk s H scope (compEnvC scope cl C X.env) fp) ifs tc)
    (he:∀(s:Shared) (H:Hp) (C:Addr) (cl:List (Str × Addr)) (fp:List Addr),PE (X.blk s H scope (compEnvC scope cl C X.env) fp) elt (tE (X.blk s H scope (compEnvC scope cl C X.env) fp) W0 m)) (hs:∀x,foldedSetIterable iter X.env x=pure x:=by intro _; rfl) :
    PE X (.ListComp elt [⟨tg,iter,ifs,0⟩] scope pos) (tE X W (cD mi g tc m (own.map (·.2)))):=
  cB (pe_lc (g:=tGc X (own.map Prod.snd) g) (tt:=tT X W0 tc) (te:=tE X W0 m) hc hN hi ok hg ht he hs) fun σ H Q h=>rm (lC h)
theorem gv {i:Nat} {y:Str} {py spos:Pos} (hc:X.calm=true) (hN:X.N.Nodup) (hy:X.N[i]?=some y) (hyl:X.env.scope.names.lookup y=some .local)
    (hsw:swapsWith (.ListComp elt [⟨tg,iter,ifs,0⟩] scope pos) (some (.Name y py)) spos.line X.env=pure true) (hi:PI X tg iter (tI X W mi)) (ok:BlkOk X.N X.env.scope scope own)
    (hg:∀(s:Shared) (H:Hp) (C:Addr) (cl:List (Str × Addr)) (fp:List Addr),PG (X.blk s H scope (compEnvC scope cl C X.env) fp) tg (tGc (X.blk s H scope (compEnvC scope cl C X.env) fp) (own.map (·.2)) g))
    (ht:∀(s:Shared) (H:Hp) (C:Addr) (cl:List (Str × Addr)) (fp:List Addr),PTs' (X.blk s H scope (compEnvC scope cl C X.env) fp) ifs tc)
    (he:∀(s:Shared) (H:Hp) (C:Addr) (cl:List (Str × Addr)) (fp:List Addr),PE (X.blk s H scope (compEnvC scope cl C X.env) fp) elt (tE (X.blk s H scope (compEnvC scope cl C X.env) fp) W0 m)) (hs:∀x,foldedSetIterable iter X.env x=pure x:=by intro _; rfl) :
    PS X (.Assign [.Name y py] (.ListComp elt [⟨tg,iter,ifs,0⟩] scope pos) spos) (tS X W (ao i (cD mi g tc m (own.map (·.2))))):=
  jF (ps_setLc (g:=tGc X (own.map Prod.snd) g) (tt:=tT X W0 tc) (te:=tE X W0 m) hc hN hy hyl hsw hi ok hg ht he hs) fun D σ H ⟨env,S,μ,rl,o⟩=>rm (lC ⟨env,S,μ,rl,(OutS.rs rl.env o).mono fun x H1 ⟨μ1,S1,d,st,rs,r,o1⟩=>o1 μ1 H1 _ .refl ((rl.env.step st).set r) rs⟩)
end
end
end DL
set_option maxHeartbeats 4000000
namespace DL
open PySem PySem.Spec PyProof.Rows L2
abbrev Takes (X:Cx) (W:WX):Prop:=L2N.Takes X W
theorem passAt {X:Cx} {W:WX} (tk:Takes X W) (σ:L2.St):PassesAt (L2N.CX X.prog X.w) X σ (WE W σ):=L2N.passAt tk σ
theorem takes_of {X:Cx} {E:XK} (hs:X.stack=X.env::X.outer) (hf:X.env.frame=some X.env.locals) (hex:X.ex=[]) {E₁:Value→Shared→Prop}
    (hx:X.xe=fun e s'=>wpAny (model X.prog X.w) X.A (leaving X.env e) (fun _ s''=>L2N.CX X.prog X.w X.outer X.H_0 X.s_0 E e s'') E₁ s'):Takes X fun cls d _ H=>E cls d H:=L2N.takes_of hs hf hex hx
/-- what is a wish of L2's is one of these -/
theorem nP {X:Cx} {W:WX} (tk:L2.Takes X W):Takes X W:=fun u s' ⟨a,B,sI,pins,σ,H,cls,d,e,I,nb,up,sky,na,os,ag,w⟩=>
  tk u s' ⟨a,B,sI,pins,σ,H,cls,d,e,I,nb,up,(by
    rcases sky with ⟨h1,h2,h3,oe,vs,h4,z,h5⟩|⟨h1,h2,h3,oe,vs,T,oT,ts,h4,z,h5⟩|⟨h1,h2,h3,oe,vs,T,oT,ts,h4,z,h5⟩
    · exact .inl ⟨h1,h2,h3,oe,vs,h4,⟨z.1,z.2.1⟩,h5⟩
    · exact .inr (.inl ⟨h1,h2,h3,oe,vs,T,oT,ts,h4,⟨z.1,z.2.1⟩,h5⟩)
    · exact .inr (.inr ⟨h1,h2,h3,oe,vs,T,oT,ts,h4,⟨z.1,z.2.1⟩,h5⟩)),na,os,ag,w⟩
theorem takes0 {X:Cx}:Takes X (fun _ _ _ _=>False):=nP LamX.takes0
section
variable {X:Cx} {CX:CXT} {x:Str} {e:Expr} {es:List Expr} {ta:TA} {p pos:Pos} {C fI:Addr} {k:Nat} {fd:FuncData} {ps:List Str} {sp:Sp}
/-- an error whose class has an own __init__,its context None -/
theorem rn (T:OexC X.K C) (iC:PySem.W.findIn X.K (.ref C) "__init__"=some (some (.ref fI))) (tI:PySem.W.typeIn X.K (.ref fI)=some (.type "function")) (F1:FnOk X.prog X.w X.K X.mg X.base CX k fI fd ps sp) (hr:Room (k+1) X.A) (hb:L2.Binds X.K fd ps [])
    (hx:Passes CX X fun _ _ _=>False) (hg:Gl X x) (hm:X.mg x=some (.ref C)) (ha:PA X (e::es) ta) (hdb:(x == ("__debug__":Str))=false) (he:starEach (e::es) X.env=(false,eval e X.env)::starEach es X.env) (hpl:(backTo pos (starEach es X.env)).any (·.1)=false) :
    L2N.PMk X (.Call (.Name x p) (e::es) [] pos) (tMkO C sp [] ta):=by
  intro pins s σ H Q I h
  obtain ⟨nm,q,N,bs,bm,sn,sub,ab,col,dd,k0,k1,k2,k3,k5,hC,hbm⟩:=T.cls
  refine wpAny_Call_Name_kw (ld_glob I hg hm (PySem.W.callWith_K I.ok.mod.kin T.kC (thn (ha.run pos pins s σ H _ I h) fun us s1 ⟨vs,H1,I1,r1,hz,q1⟩=>⟨I1.kIn,?_⟩) he hpl) hdb)
  obtain ⟨hp,g,dr,tk,os⟩:=s1
  have hsz:=Nat.le_succ hp.objs.size
  have hn:=I1.hok.fresh hsz
  have hq:=q1 (hp.objs.size+1) hn
  rw[List.append_nil] at hq
  have kk:∀b o,hp.get? b=some o→((hp.push (PySem.W.kdv_tup us)).push (HandSPX.excO C hp.objs.size)).get? b=some o:=fun b o e=>Heap.get?_push_of_some (HandSPX.excO C hp.objs.size) (Heap.get?_push_of_some (PySem.W.kdv_tup us) e)
  have hget:((hp.push (PySem.W.kdv_tup us)).push (HandSPX.excO C hp.objs.size)).get? (hp.objs.size+1)=some (HandSPX.excO C hp.objs.size):=Heap.get?_push_at (by rw[Heap.size_push]) rfl
  have I2:=I1.laid (t':=tk) kk hsz (exo_ok hget)
  have r2:Vals (.ref (hp.objs.size+1)::vs) (.ref (hp.objs.size+1)::us):=.cons rfl r1
  have hl:(Value.ref (hp.objs.size+1)::us).length=ps.length:=by
    have:=F1.len _ _ _ _ hq
    rw[←this]
    exact (Vals.length r2).symm
  have hbt:BindsTo ({ heap:=(hp.push (PySem.W.kdv_tup us)).push (HandSPX.excO C hp.objs.size),gens:=g,drawn:=dr,toks:=tk,os:=os }:Shared) fd { pos:=.ref (hp.objs.size+1)::us } (ps.zip (.ref (hp.objs.size+1)::us)):=by
    have:=hb { heap:=(hp.push (PySem.W.kdv_tup us)).push (HandSPX.excO C hp.objs.size),gens:=g,drawn:=dr,toks:=tk,os:=os } (.ref (hp.objs.size+1)::us) I2.kIn (by rw[List.append_nil]; exact hl)
    rw[List.append_nil] at this
    exact this
  have hus:us.length≤sizeLine:=by
    rw[←Paired.length r1,sizeLine_eq]
    omega
  refine wpAny_call (HandSPX.call_own PySem.F.excBase_ValueError (fun Y=>HandSPX.refsVE_contains Y bm hbm) (I1.kIn C _ hC) (PySem.W.looks_findIn I1.kIn iC) (fun self=>PySem.W.bind_fn I1.kIn self tI) hus
    (codeAny_mono (F1.run _ X.stack _ _ { pos:=.ref (hp.objs.size+1)::us } (.ref (hp.objs.size+1)::us) (.ref (hp.objs.size+1)::vs) _ _ (hr.make C us []) (I2.env0.make C us []) hbt r2 hq) fun r s' hq'=>?_))
  cases r with
  | error er=>exact hx pins σ _ _ er s' I2 hq'
  | ok fl=>
    cases fl with
    | next=>exact False.elim hq'
    | brk=>exact False.elim hq'
    | cont=>exact False.elim hq'
    | ret v=>
      obtain ⟨v2,H2,os2,bare2,un2,hok2,rv,rfl,d,fs,ea,ed,hd1,q2⟩:=hq'
      obtain ⟨h2,g2,d2,t2,os'⟩:=s'
      refine ⟨rv,?_⟩
      obtain ⟨t0,G,IG,kG,nG,hG,na⟩:=mk_end0 (d1:=dr) (t1:=tk) (d2:=d2) (t2:=t2) I1 hsz kk un2 hok2 os2 bare2 ea ed hd1
      exact ⟨_,_,_,_,_,_,_,rfl,IG,kG,nG,hG,⟨rfl,rfl,fun vs e=>by cases e; rfl⟩,rfl,rfl,na,rfl,bare2,raises_own T.exC T.tyC,q2⟩
end
end DL
namespace DL
open PySem PySem.Spec PyProof.Rows L2
abbrev MF:=List D→Sto→Res D
def chk (n:Nat) (m:MF):MF:=fun ds S=>if ds.length=n then m ds S else .stuck
/-- what a def promises -/
def spD (K:PySem.W.Frag) (mg:Str→Option Value) (n:Nat) (m:MF):Sp:=fun vs H Q E=>∃ds S μ,RelS K mg μ H S∧RepAll K mg μ H ds vs∧Out K mg (fun c d _ H'=>E c d H') [] μ H (fun μ H a b=>Rep K mg μ H a b) Q (chk n m ds S)
theorem uH {K:PySem.W.Frag} {mg:Str→Option Value} {n:Nat} {m:MF} {vs:List V} {H:Hp} {Q:VK} {E:XK} (h:spD K mg n m vs H Q E):vs.length=n:=by
  obtain ⟨ds,S,μ,rs,ra,o⟩:=h
  unfold chk at o
  split at o
  · rename_i e; rw[←ra.length]; exact e
  · exact o.elim
structure FnM (P:Program) (w:World) (K:PySem.W.Frag) (mg:Str→Option Value) (base:Heap) (k:Nat) (f:Addr) (fd:FuncData) (ps:List Str) (m:MF):Prop where
  ok:FnOk P w K mg base (L2N.CX P w) k f fd ps (spD K mg ps.length m)
  kp:PySem.W.keepIn K (.ref f)=true
  b:Binds K fd ps []
/-- a body,run -/
def bD (n:Nat) (m:MS):MF:=fun ds S=>match m (ds.map some++List.replicate n none) S with
  | .next _ S=>.ok .none S
  | .ret d S=>.ok d S
  | .exc e _ S=>.exc e S
  | _=>.stuck
theorem oZ {K:PySem.W.Frag} {mg:Str→Option Value} {μ:Mu} {H:Hp} {N:List Str}:∀ {ds:List D} {vs:List V},RepAll K mg μ H ds vs→RelE K mg μ H (ds.map some++List.replicate (N.length - ds.length) none) (L2.start N vs):=fun {ds vs} r=>by
  unfold L2.start
  have hl:=r.length
  refine ⟨by simp[hl],fun i d e=>?_⟩
  by_cases hi:i<ds.length
  · rw[List.getElem?_append_left (by simpa using hi),List.getElem?_map] at e
    obtain ⟨d',h1,h2⟩:=Option.map_eq_some_iff.mp e
    cases h2
    obtain ⟨v,h3,h4⟩:=r.get h1
    exact ⟨v,by rw[List.getElem?_append_left (by rw[List.length_map,←hl]; exact hi),List.getElem?_map,h3]; rfl,h4⟩
  · rw[List.getElem?_append_right (by simpa using Nat.le_of_not_lt hi)] at e
    have:=List.getElem?_replicate (a:=(none:Option D)) (n:=N.length - ds.length) (i:=i - (ds.map some).length)
    rw[this] at e
    split at e<;>cases e
def aN (n:Nat) (m:MF) (r:MA):ME:=fun env S=>(r env S).bind fun ds S=>chk n m ds S
theorem uI {K:PySem.W.Frag} {mg:Str→Option Value} {μ:Mu} {H:Hp} {α β:Type} {W:WX} {R:Mu→Hp→α→β→Prop} {Q:β→Hp→Prop} {σ:L2.St} {r:Res α} (o:Out K mg W σ μ H R Q r):Out K mg (fun c d _ H'=>WE W σ c d H') [] μ H R Q r:=by
  cases r with
  | ok a S=>exact o
  | exc e S=>exact o
  | stuck=>exact o
section
variable {X:Cx} {W:WX} {k:Nat} {f C:Addr} {fd:FuncData} {ps:List Str} {m mi:MF} {x nm cn:Str} {p pos apos:Pos} {e o:Expr} {es:List Expr} {r:MA} {ma mv:ME}
theorem t_call {σ:L2.St} {H:Hp} {Q:VK} (h:tE X W (aN ps.length m r) σ H Q):tCallSD (spD X.K X.mg ps.length m) [] (WE W) (tAs X W r) σ H Q:=by
  obtain ⟨env,S,μ,rl,o⟩:=h
  exact ⟨env,S,μ,rl,(Out.bind o).mono fun vs H1 ⟨μ1,S1,ds,st,rs,rd,o1⟩=>⟨ds,S1,μ1,rs,by rw[List.append_nil]; exact rd,uI o1⟩⟩
theorem uJ (F:FnM X.prog X.w X.K X.mg X.base k f fd ps m) (hr:Room k X.A) (hg:Gl X x) (hm:X.mg x=some (.ref f)) (tk:Takes X W)
    (ha:PA X (e::es) (tAs X W r)) (hdb:(x == ("__debug__":Str))=false:=by decide) (he:starEach (e::es) X.env=(false,eval e X.env)::starEach es X.env:=by rfl) (hpl:(backTo pos (starEach es X.env)).any (·.1)=false:=by rfl) :
    PE X (.Call (.Name x p) (e::es) [] pos) (tE X W (aN ps.length m r)):=cB (pe_callSD F.ok hr hg hm F.kp F.b .nil (passAt tk) ha hdb he hpl) fun _ _ _ h=>t_call h
def eMeth (cn nm:Str) (n:Nat) (m:MF) (ma:ME) (r:MA):ME:=fun env S=>(ma env S).bind fun d S=>match d with
  | .loc l=>match S[l]? with
    | some (.ins C fs)=>if C=cn∧(fs.map (·.1)).contains nm=false then (r env S).bind fun ds S=>chk n m (.loc l::ds) S else .stuck
    | _=>.stuck
  | _=>.stuck
def eMake (cn:Str) (n:Nat) (mi:MF) (r:MA):ME:=fun env S=>(r env S).bind fun ds S=>(chk n mi (.loc S.length::ds) (S++[.ins cn []])).bind fun d S'=>match d with
  | .none=>.ok (.loc S.length) S'
  | _=>.stuck
def eFld (cn f:Str) (ma:ME):ME:=fun env S=>(ma env S).bind fun d S=>match d with
  | .loc l=>match S[l]? with
    | some (.ins C fs)=>if C=cn then ofO S (fs.lookup f) else .stuck
    | _=>.stuck
  | _=>.stuck
def l5 (f:Str) (v:D):List (Str × D)→List (Str × D)
  | []=>[(f,v)]
  | (g,x)::r=>if g=f then (g,v)::r else (g,x)::l5 f v r
def sFldM (cn f:Str) (ma mv:ME):MS:=fun env S=>(mv env S).rs env fun d S=>(ma env S).rs env fun o S=>match o with
  | .loc l=>match S[l]? with
    | some (.ins C fs)=>if C=cn∧fs.length<1000 then .next env (S.set l (.ins C (l5 f d fs))) else .stuck
    | _=>.stuck
  | _=>.stuck
end
end DL
namespace DL
open PySem PySem.Spec PyProof.Rows L2
abbrev BF:=Sto→List D→Option D
def rB (K:PySem.W.Frag) (mg:Str→Option Value) (f:BF):List V→Hp→VK→Prop:=fun xs H Q=>
  ∃μ S ds d,RelS K mg μ H S∧RepAll K mg μ H ds xs∧f S ds=some d∧∀H' v,Sm H H'→Rep K mg μ H' d v→Q v H'
def eB (f:BF) (r:MA):ME:=fun env S=>(r env S).bind fun ds S=>ofO S (f S ds)
section
variable {X:Cx} {W:WX} {e:Expr} {es:List Expr} {p pos:Pos} {r:MA} {f:BF} {x:Str} {id T:String}
theorem t_b {σ:L2.St} {H:Hp} {Q:VK} (h:tE X W (eB f r) σ H Q):tCB (rB X.K X.mg f) (tAs X W r) σ H Q:=by
  obtain ⟨env,S,μ,rl,o⟩:=h
  refine ⟨env,S,μ,rl,(Out.bind o).mono fun vs H1 ⟨μ1,S1,ds,st,rs,rd,o1⟩=>?_⟩
  cases e:f S1 ds with
  | none=>rw[e] at o1; exact o1.elim
  | some d=>rw[e] at o1; exact ⟨μ1,S1,ds,d,rs,rd,e,fun H' v sm r=>o1 μ1 H' v (.of_sm sm) (rs.sm sm) r⟩
theorem ai (hc:CallR X (.builtin id) (rB X.K X.mg f)) (hg:Gl X x) (hm:X.mg x=none) (hv:bootBuiltins x=some (.builtin id)) (ha:PA X (e::es) (tAs X W r)) (hn:x≠"__name__":=by decide) (hdb:(x == ("__debug__":Str))=false:=by decide)
    (he:starEach (e::es) X.env=(false,eval e X.env)::starEach es X.env:=by rfl) (hpl:(backTo pos (starEach es X.env)).any (·.1)=false:=by rfl):PE X (.Call (.Name x p) (e::es) [] pos) (tE X W (eB f r)):=
  cB (pe_callB hc hg hm hv ha hn hdb he hpl) fun _ _ _ h=>t_b h
theorem f8 (hc:CallR X (.type T) (rB X.K X.mg f)) (hg:Gl X x) (hm:X.mg x=none) (hv:bootBuiltins x=some (.type T)) (ha:PA X (e::es) (tAs X W r)) (hn:x≠"__name__":=by decide) (hdb:(x == ("__debug__":Str))=false:=by decide)
    (he:starEach (e::es) X.env=(false,eval e X.env)::starEach es X.env:=by rfl) (hpl:(backTo pos (starEach es X.env)).any (·.1)=false:=by rfl):PE X (.Call (.Name x p) (e::es) [] pos) (tE X W (eB f r)):=
  cB (pe_callTy hc hg hm hv ha hn hdb he hpl) fun _ _ _ h=>t_b h
end
theorem f9 {X:Cx} {f:Value} {r r':List V→Hp→VK→Prop} (h:CallR X f r) (i:∀xs H Q,r' xs H Q→r xs H Q):CallR X f r':=fun pins s σ H xs us Q I rx w=>h pins s σ H xs us Q I rx (i _ _ _ w)
def bF (S:Sto) (ds:List D):Option D:=match ds with
  | [d]=>match view S d with
    | .tup xs=>some (.int xs.length)
    | .lst xs=>some (.int xs.length)
    | .ro xs=>some (.int xs.length)
    | .str z=>if z.length≤1000000 then some (.int z.length) else none
    | .loc l=>match S[l]? with
      | some (.dct false kvs)=>some (.int kvs.length)
      | _=>none
    | _=>none
  | _=>none
theorem l6 {κ:Type} {K:PySem.W.Frag} {mg:Str→Option Value} {μ:Mu} {H:Hp} {kvs:List (D × D)} {ks:List κ} {g:κ→D} {vs:List V} (e:kvs.map (·.1)=ks.map g) (r:RepAll K mg μ H (kvs.map (·.2)) vs):(ks.zip vs).length=kvs.length:=by
  have h1:=congrArg List.length e
  have h2:=r.length
  simp only[List.length_map] at h1 h2
  rw[List.length_zip,←h1,←h2,Nat.min_self]
section
variable {X:Cx}
theorem cx:CallR X (.builtin "len") (rB X.K X.mg bF):=by
  intro pins s σ H xs us Q I rx ⟨μ,S,ds,d,rs,ra,e,q⟩
  unfold bF at e
  split at e
  · rename_i d0
    obtain ⟨v,rfl,r1⟩:=bW ra
    have rw0:=rs.view r1
    split at e
    · rename_i ys ev
      rw[ev] at rw0
      cases e
      obtain ⟨a,vs,rfl,h,l,_⟩:=rw0.tup
      exact call_len pins s σ H _ us Q I rx ⟨_,ys.length,rfl,.inr ⟨vs,.inl h,l.length⟩,q H _ .rfl (bA _)⟩
    · rename_i ys ev
      rw[ev] at rw0
      cases e
      obtain ⟨a,vs,rfl,h,l⟩:=rw0
      exact call_len pins s σ H _ us Q I rx ⟨_,ys.length,rfl,.inl ⟨vs,.of h,l.length⟩,q H _ .rfl (bA _)⟩
    · rename_i ys ev
      rw[ev] at rw0
      cases e
      have rw0:Rep X.K X.mg μ H (.ro ys) v:=rw0
      unfold Rep at rw0
      obtain ⟨a,vs,rfl,h,l⟩:=rw0
      exact call_len pins s σ H _ us Q I rx ⟨_,ys.length,rfl,.inl ⟨vs,h.sq,l.length⟩,q H _ .rfl (bA _)⟩
    · rename_i z ev
      rw[ev] at rw0
      split at e
      · rename_i hz
        cases e
        have:=rw0.str
        subst this
        exact call_len pins s σ H _ us Q I rx ⟨_,z.length,rfl,⟨cH hz,rfl⟩,q H _ .rfl (bA _)⟩
      · cases e
    · rename_i l ev
      rw[ev] at rw0
      have rw0:Rep X.K X.mg μ H (.loc l) v:=rw0
      unfold Rep at rw0
      obtain ⟨a,rfl,hμ⟩:=rw0
      split at e
      · rename_i kvs es
        cases e
        obtain ⟨a',h1,vs,ks,⟨h2,hk⟩,lr⟩:=rs.at_ _ _ es
        rw[hμ] at h1; cases h1
        exact call_lenD pins s σ H _ us Q I rx ⟨a,_,rfl,h2,by rw[l6 hk lr]; exact q H _ .rfl (bA _)⟩
      · cases e
    · cases e
  · cases e
end
def eF (S:Sto):D→Option String
  | .none=>some "NoneType"
  | .bool _=>some "bool"
  | .int _=>some "int"
  | .str _=>some "str"
  | .tup _=>some "tuple"
  | .tpn _=>some "tuple"
  | .lst _=>some "list"
  | .loc l=>match S[l]? with
    | some (.lst _)=>some "list"
    | some (.dct _ _)=>some "dict"
    | _=>none
  | _=>none
def isTy (t n:String):Bool:=t == n||(t == "bool"&&n == "int")
def dD (n:String):Bool:=n == "int"||n == "bool"||n == "str"||n == "tuple"||n == "list"||n == "dict"
def jH:List D→Option (List String)
  | []=>some []
  | .ty n::cs=>if dD n then (jH cs).map (n::·) else none
  | _::_=>none
def aY (S:Sto) (ds:List D):Option D:=match ds with
  | [x,.ty n]=>match eF S x with
    | some t=>if dD n then some (.bool (isTy t n)) else none
    | none=>none
  | [x,.tup cs]=>match eF S x with
    | some t=>(jH cs).map fun ns=>.bool (ns.any (isTy t))
    | none=>none
  | _=>none
theorem po:∀t∈["NoneType","bool","int","str","tuple","list","dict"],∀n∈["int","bool","str","tuple","list","dict"],kitB t n=some (isTy t n):=by decide +kernel
theorem lD {n:String} (h:dD n=true):n∈["int","bool","str","tuple","list","dict"]:=by
  unfold dD at h
  simp only[Bool.or_eq_true,beq_iff_eq] at h
  simp only[List.mem_cons,List.not_mem_nil,or_false]
  rcases h with ((((h|h)|h)|h)|h)|h<;>simp[h]
section
variable {K:PySem.W.Frag} {mg:Str→Option Value} {μ:Mu} {H:Hp} {S:Sto}
theorem pp (rs:RelS K mg μ H S) {x:D} {v:V} {t:String} (r:Rep K mg μ H x v) (e:eF S x=some t):TyX K H v (.type t)∧t∈["NoneType","bool","int","str","tuple","list","dict"]:=by
  cases x with
  | none=>cases e; unfold Rep at r; subst r; exact ⟨.base .non,by decide⟩
  | bool b=>cases e; unfold Rep at r; subst r; exact ⟨.base (.bl _),by decide⟩
  | int b=>cases e; unfold Rep at r; subst r; exact ⟨.base (.int _),by decide⟩
  | str b=>cases e; unfold Rep at r; subst r; exact ⟨.base (.str _),by decide⟩
  | tup b=>cases e; unfold Rep at r; obtain ⟨a,vs,rfl,h,_⟩:=r; exact ⟨.base (.tup h),by decide⟩
  | tpn b=>cases e; unfold Rep at r; obtain ⟨a,vs,o,rfl,⟨h,_⟩,_⟩:=r; exact ⟨.fTuple h,by decide⟩
  | lst b=>cases e; unfold Rep at r; obtain ⟨a,vs,rfl,h,_⟩:=r; exact ⟨.base (.lst h),by decide⟩
  | loc l=>
    unfold Rep at r
    obtain ⟨a,rfl,hμ⟩:=r
    have e:(match S[l]? with|some (.lst _)=>some "list"|some (.dct _ _)=>some "dict"|_=>none)=some t:=e
    split at e
    · rename_i xs es
      cases e
      obtain ⟨a',h1,vs,h2,_⟩:=rs.at_ _ _ es
      rw[hμ] at h1; cases h1
      exact ⟨.base (.lst h2),by decide⟩
    · rename_i t kvs es
      cases e
      obtain ⟨a',h1,ro⟩:=rs.at_ _ _ es
      rw[hμ] at h1; cases h1
      cases t with
      | false=>obtain ⟨vs,ks,⟨h2,_⟩,_⟩:=ro; exact ⟨.base (.dK h2),by decide⟩
      | true=>obtain ⟨vs,ks,⟨h2,_⟩,_⟩:=ro; exact ⟨.base (.dT h2),by decide⟩
    · cases e
  | _=>cases e
theorem nQ {t:String} (ht:t∈["NoneType","bool","int","str","tuple","list","dict"]):∀ {cs:List D} {vs:List V} {ns:List String},RepAll K mg μ H cs vs→jH cs=some ns→∃us,Paired ClsV vs us∧PySem.W.kitAny K (.type t) us=some (ns.any (isTy t))
  | [],vs,ns,r,e=>by
    unfold RepAll at r; subst r
    cases e
    exact ⟨[],.nil,rfl⟩
  | c::cs,vs,ns,r,e=>by
    unfold RepAll at r
    obtain ⟨v,q,rfl,r1,r2⟩:=r
    cases c with
    | ty n=>
      unfold Rep at r1; subst r1
      unfold jH at e
      split at e
      · rename_i hk
        obtain ⟨ns',h1,rfl⟩:=Option.map_eq_some_iff.mp e
        have hkit:=kit_ty (K:=K) (po t ht n (lD hk))
        obtain ⟨us,h2,h3⟩:=nQ ht r2 h1
        refine ⟨.type n::us,.cons (.ty n) h2,kitAny_cons hkit (fun h=>?_) fun h=>?_⟩
        · rw[List.any_cons,h,Bool.false_or]; exact h3
        · rw[List.any_cons,h,Bool.true_or]
      · cases e
    | _=>cases e
end
section
variable {X:Cx}
theorem bw:CallR X (.builtin "isinstance") (rB X.K X.mg aY):=by
  intro pins s σ H xs us Q I rx ⟨μ,S,ds,d,rs,ra,e,q⟩
  unfold aY at e
  split at e
  · rename_i x0 n
    obtain ⟨v,w,rfl,r1,r2⟩:=iE ra
    split at e
    · rename_i t et
      split at e
      · rename_i hk
        cases e
        obtain ⟨h1,h2⟩:=pp rs r1 et
        unfold Rep at r2; subst r2
        exact call_isi pins s σ H _ us Q I rx ⟨v,.ty n,.type t,.type n,_,rfl,.ty n,h1,kit_ty (po t h2 n (lD hk)),q H _ .rfl (bJ _)⟩
      · cases e
    · cases e
  · rename_i x0 cs
    obtain ⟨v,w,rfl,r1,r2⟩:=iE ra
    split at e
    · rename_i t et
      obtain ⟨ns,h3,rfl⟩:=Option.map_eq_some_iff.mp e
      obtain ⟨h1,h2⟩:=pp rs r1 et
      unfold Rep at r2
      obtain ⟨tp,vs,rfl,htp,_,rcs⟩:=r2
      obtain ⟨ts,h4,h5⟩:=nQ h2 rcs h3
      exact call_isiT pins s σ H _ us Q I rx ⟨v,tp,vs,.type t,ts,_,rfl,htp,h4,h1,h5,q H _ .rfl (bJ _)⟩
    · cases e
  · cases e
def fInt (_:Sto) (ds:List D):Option D:=match ds with
  | [.int i]=>some (.int i)
  | [.bool b]=>some (.int (if b then 1 else 0))
  | _=>none
def fMax2 (_:Sto) (ds:List D):Option D:=match ds with
  | [.int i,.int j]=>some (.int (if j>i then j else i))
  | _=>none
def fMin2 (_:Sto) (ds:List D):Option D:=match ds with
  | [.int i,.int j]=>some (.int (if j<i then j else i))
  | _=>none
def l7:List D→Option (List Int)
  | []=>some []
  | .int i::ds=>(l7 ds).map (i::·)
  | _::_=>none
def gR:List D→Option (List Bool)
  | []=>some []
  | .bool i::ds=>(gR ds).map (i::·)
  | _::_=>none
theorem lE {K:PySem.W.Frag} {mg:Str→Option Value} {μ:Mu} {H:Hp}:∀ {ds:List D} {vs:List V} {ns:List Bool},RepAll K mg μ H ds vs→gR ds=some ns→vs=ns.map V.bl
  | [],vs,ns,r,e=>by unfold RepAll at r; cases e; exact r
  | d::ds,vs,ns,r,e=>by
    unfold RepAll at r
    obtain ⟨v,q,rfl,r1,r2⟩:=r
    cases d with
    | bool i=>
      unfold gR at e
      obtain ⟨ms,h1,rfl⟩:=Option.map_eq_some_iff.mp e
      unfold Rep at r1
      rw[r1,lE r2 h1]; rfl
    | _=>cases e
def fSum (S:Sto) (ds:List D):Option D:=match ds with
  | [d]=>match view S d with
    | .lst xs=>(l7 xs).map fun ns=>.int ns.sum
    | _=>none
  | _=>none
def kh (S:Sto) (ds:List D):Option D:=match ds with
  | [d]=>match view S d with
    | .lst xs=>(gR xs).map fun ns=>.bool (ns.all id)
    | _=>none
  | _=>none
theorem pq (hc:X.calm=true):CallR X (.builtin "all") (rB X.K X.mg kh):=f9 (cr_all hc) fun xs H Q ⟨μ,S,ds,d,rs,ra,e,q⟩=>by
  unfold kh at e
  split at e
  · obtain ⟨v,rfl,r1⟩:=bW ra
    have rw0:=rs.view r1
    split at e
    · rename_i ys ev
      rw[ev] at rw0
      obtain ⟨ns,h1,rfl⟩:=Option.map_eq_some_iff.mp e
      obtain ⟨a,vs,rfl,h,l⟩:=rw0
      exact ⟨a,ns,rfl,by rw[←lE l h1]; exact .of h,q H _ .rfl (bJ _)⟩
    · cases e
  · cases e
def jW (S:Sto) (ds:List D):Option D:=match ds with
  | [.tup xs]=>some (.tup xs)
  | [.tpn xs]=>some (.tpn xs)
  | [d]=>match view0 S d with
    | .lst xs=>some (.tpn xs)
    | _=>none
  | _=>none
/-- tuple(a list): what it makes has no dict -/
theorem j0:CallR X (.type "tuple") (fun xs H Q=>∃p ys,xs=[.ref p]∧((SqL X.K H p ys∧∀l o,H l=none→o.dict=none→Q (.ref l) (upd H l (.frz o (.tup ys))))∨(SqT X.K H p ys∧Q (.ref p) H))):=by
  intro pins s σ H xs us Q I r h
  obtain ⟨p,ys,rfl,h⟩:=h
  rcases h with ⟨hq,q⟩|⟨hq,q⟩
  · obtain ⟨u,rfl,rx⟩:=vals1 r
    cases rx
    obtain ⟨its,r',pl,hz⟩:=I.list hq
    have hlen:=r'.length
    refine call_tuple_list pl.isList (fun h' kp=>?_) (by simp only[List.size_toArray]<;>omega)
    have I1:L2.Inv X pins σ H { s with heap:=h' }:=I.kept (t':=s.toks) kp
    have I2:L2.Inv X pins σ (upd H h'.objs.size (.frz { cls:=.type "tuple",data:=.seq its.toArray } (.tup ys))) { s with heap:=h'.push { cls:=.type "tuple",data:=.seq its.toArray } }:=
      I1.laid (t':=s.toks) (fun b o e=>Heap.get?_push_of_some _ e) (Nat.le_refl _) (show ObjOk X.prog X.w _ _ _ (.frz _ (.tup ys)) from ⟨Heap.get?_push_size _ rfl,hz,its,r',IsTup.new _ _⟩)
    exact ⟨.ref h'.objs.size,_,I2,rfl,q _ _ (I1.hok.fresh (Nat.le_refl _)) rfl⟩
  · exact call_tuple_of pins s σ H _ us Q I r ⟨p,ys,rfl,.inr ⟨hq,q⟩⟩
theorem nR {K:PySem.W.Frag} {mg:Str→Option Value} {μ:Mu} {H:Hp} {S:Sto} (rs:RelS K mg μ H S) {p:Addr} {o:Obj} (hp:H p=none) (ho:o.dict=none) {ds:List D} {vs:List V} (l:RepAll K mg μ H ds vs) :
    Rep K mg μ (upd H p (.frz o (.tup vs))) (.tpn ds) (.ref p):=by
  unfold Rep
  exact ⟨p,vs,o,rfl,⟨upd_same,ho⟩,rs.fresh hp,RepAll.step (.of_sm (.upd hp)) _ _ l⟩
theorem nS:CallR X (.type "tuple") (rB X.K X.mg jW):=f9 j0 fun xs H Q ⟨μ,S,ds,d,rs,ra,e,q⟩=>by
  unfold jW at e
  split at e
  · obtain ⟨v,rfl,r1⟩:=bW ra
    cases e
    have r2:=r1
    unfold Rep at r2
    obtain ⟨a,vs,rfl,h,n,l⟩:=r2
    exact ⟨a,vs,rfl,.inr ⟨.of h,q H _ .rfl r1⟩⟩
  · obtain ⟨v,rfl,r1⟩:=bW ra
    cases e
    have r2:=r1
    unfold Rep at r2
    obtain ⟨a,vs,o,rfl,⟨h,_⟩,n,l⟩:=r2
    exact ⟨a,vs,rfl,.inr ⟨.inl (.inr ⟨o,h⟩),q H _ .rfl r1⟩⟩
  · obtain ⟨v,rfl,r1⟩:=bW ra
    have rw0:=rs.view0 r1
    split at e
    · rename_i ys ev
      rw[ev] at rw0
      cases e
      obtain ⟨a,vs,rfl,h,l⟩:=rw0
      exact ⟨a,vs,rfl,.inl ⟨.of h,fun p o hp ho=>q _ _ (.upd hp) (nR rs hp ho l)⟩⟩
    · cases e
  · cases e
def nT (S:Sto) (ds:List D):Option D:=match ds with
  | [d]=>match view S d with
    | .lst xs=>some (.lst xs)
    | .tup xs=>some (.lst xs)
    | _=>none
  | _=>none
theorem c_list:CallR X (.type "list") (rB X.K X.mg nT):=f9 call_list_of fun xs H Q ⟨μ,S,ds,d,rs,ra,e,q⟩=>by
  unfold nT at e
  split at e
  · obtain ⟨v,rfl,r1⟩:=bW ra
    have rw0:=rs.view r1
    split at e
    · rename_i ys ev
      rw[ev] at rw0
      cases e
      obtain ⟨a,vs,rfl,h,l⟩:=rw0
      exact ⟨a,vs,rfl,.inl (.of h),fun p hp=>q _ _ (.upd hp) (bu rs hp l)⟩
    · rename_i ys ev
      rw[ev] at rw0
      cases e
      obtain ⟨a,vs,rfl,h,l,n⟩:=rw0.tup
      exact ⟨a,vs,rfl,.inr (.inl h),fun p hp=>q _ _ (.upd hp) (bu rs hp l)⟩
    · cases e
  · cases e
end
abbrev BM:=Sto→D→List D→Option (D × Sto)
def rM (K:PySem.W.Frag) (mg:Str→Option Value) (f:BM):V→List V→Hp→VK→Prop:=fun x xs H Q=>
  ∃μ S d ds r S',RelS K mg μ H S∧Rep K mg μ H d x∧RepAll K mg μ H ds xs∧f S d ds=some (r,S')∧∀μ' H' v,Step μ H μ' H'→RelS K mg μ' H' S'→Rep K mg μ' H' r v→Q v H'
def eM (ok:Sto→D→Bool) (f:BM) (ma:ME) (r:MA):ME:=fun env S=>(ma env S).bind fun d S=>if ok S d then (r env S).bind fun ds S=>match f S d ds with
  | some p=>.ok p.1 p.2
  | none=>.stuck else .stuck
def bS (S:Sto) (d:D):Bool:=match view S d with
  | .lst _=>true
  | _=>false
def j1 (S:Sto) (d:D):Bool:=match d with
  | .loc l=>match S[l]? with
    | some (.dct _ _)=>true
    | _=>false
  | _=>false
def bM (_:Sto) (d:D):Bool:=match d with
  | .str _=>true
  | _=>false
section
variable {X:Cx} {W:WX} {o e:Expr} {es:List Expr} {apos cpos:Pos} {ma:ME} {r:MA} {f:BM} {ok:Sto→D→Bool} {T id:String} {name:Str}
theorem gA {K:PySem.W.Frag} {mg:Str→Option Value} {μ:Mu} {H:Hp} {S:Sto} {d:D} {x:V} (rs:RelS K mg μ H S) (r:Rep K mg μ H d x) (h:bS S d=true):tyV K "list" x H:=by
  unfold bS at h
  have w:=rs.view r
  split at h
  · rename_i xs ev
    rw[ev] at w
    obtain ⟨a,vs,rfl,h,_⟩:=w
    exact .inl ⟨rfl,vs,.of h⟩
  · cases h
theorem ty_dct {K:PySem.W.Frag} {mg:Str→Option Value} {μ:Mu} {H:Hp} {S:Sto} {d:D} {x:V} (rs:RelS K mg μ H S) (r:Rep K mg μ H d x) (h:j1 S d=true):tyV K "dict" x H:=by
  unfold j1 at h
  split at h
  · rename_i l
    unfold Rep at r
    obtain ⟨a,rfl,hμ⟩:=r
    split at h
    · rename_i t kvs es
      obtain ⟨a',h1,ro⟩:=rs.at_ _ _ es
      rw[hμ] at h1; cases h1
      cases t with
      | false=>obtain ⟨vs,ks,⟨h2,_⟩,_⟩:=ro; exact .inr (.inr (.inl ⟨rfl,.inl ⟨_,h2⟩⟩))
      | true=>obtain ⟨vs,ks,⟨h2,_⟩,_⟩:=ro; exact .inr (.inr (.inl ⟨rfl,.inr ⟨_,h2⟩⟩))
    · cases h
  · cases h
theorem eG {K:PySem.W.Frag} {mg:Str→Option Value} {μ:Mu} {H:Hp} {S:Sto} {d:D} {x:V} (rs:RelS K mg μ H S) (r:Rep K mg μ H d x) (h:bM S d=true):tyV K "str" x H:=by
  unfold bM at h
  split at h
  · unfold Rep at r; subst r; rfl
  · cases h
theorem fE (hok:∀ {μ:Mu} {H:Hp} {S:Sto} {d:D} {x:V},RelS X.K X.mg μ H S→Rep X.K X.mg μ H d x→ok S d=true→tyV X.K T x H) (pa:PlainAttrs T) (slot:Slot T name id) (hty:typeOf (.builtin id)=pure (.type "method_descriptor")) (hm:MtR X id (rM X.K X.mg f)) (ho:PE X o (tE X W ma)) (ha:PA X (e::es) (tAs X W r))
    (hbase:attributeBase o name X.env (eval o X.env)=eval o X.env:=by rfl)
    (hfew:((backTo cpos (starEach (e::es) X.env)).all (fun x=>!x.1)&&(backToKw cpos (keywordEach [] X.env)).all (fun x=>x.1.isSome)
      && decide ((e::es).length+([]:List Keyword).length+(if ([]:List Keyword).isEmpty then 0 else 1)<30))=true:=by rfl)
    (hline:(apos.endLine == cpos.line)=true:=by rfl) (hs:starEach (e::es) X.env=(false,eval e X.env)::starEach es X.env:=by rfl) (hplain:(backTo cpos (starEach es X.env)).any (·.1)=false:=by rfl) :
    PE X (.Call (.Attribute o name apos) (e::es) [] cpos) (tE X W (eM ok f ma r)):=
  cB (pe_bm pa slot hty hm ho ha hbase hfew hline hs hplain) fun σ H Q ⟨env,S,μ,rl,o⟩=>⟨env,S,μ,rl,(Out.bind o).mono fun x H1 ⟨μ1,S1,d,st,rs,rd,o1⟩=>by
    split at o1
    · rename_i hk
      refine ⟨hok rs rd hk,env,S1,μ1,⟨rl.env.step st,rs⟩,(Out.bind o1).mono fun xs H2 ⟨μ2,S2,ds,st2,rs2,rds,o2⟩=>?_⟩
      cases ef:f S2 d ds with
      | none=>rw[ef] at o2; exact o2.elim
      | some p=>rw[ef] at o2; exact ⟨μ2,S2,d,ds,p.1,p.2,rs2,Rep.step st2 _ _ rd,rds,ef,o2⟩
    · exact o1.elim⟩
theorem im {r r':V→List V→Hp→VK→Prop} (h:MtR X id r) (i:∀x xs H Q,r' x xs H Q→r x xs H Q):MtR X id r':=fun pins s σ H x xs v us Q I rx rxs w=>h pins s σ H x xs v us Q I rx rxs (i _ _ _ _ w)
/-- xs.append(d) -/
def bH:BM:=fun S d ds=>match d,ds with
  | .loc l,[a]=>match S[l]? with
    | some (.lst xs)=>if xs.length<1000000 then some (.none,S.set l (.lst (xs++[a]))) else none
    | _=>none
  | _,_=>none
theorem fF:MtR X "list.append" (rM X.K X.mg bH):=im mt_append fun x xs H Q ⟨μ,S,d,ds,r,S',rs,rd,rds,e,q⟩=>by
  unfold bH at e
  split at e
  · rename_i l a
    unfold Rep at rd
    obtain ⟨ad,rfl,hμ⟩:=rd
    obtain ⟨v,rfl,rv⟩:=bW rds
    split at e
    · rename_i ys es
      split at e
      · rename_i hl
        cases e
        obtain ⟨a',h1,vs,h2,h3⟩:=rs.at_ _ _ es
        rw[hμ] at h1; cases h1
        have st:Step μ H μ (upd H ad (.lst (vs++[v]))):=Step.write rs hμ (.of h2)
        refine ⟨ad,vs,v,rfl,rfl,h2,by rw[←h3.length,sizeLine_eq]; omega,q μ _ .non st (rs.write hμ (.of h2) ⟨_,upd_same,RepAll.step st _ _ (h3.append (.cons rv .nil))⟩) jp⟩
      · cases e
    · cases e
  · cases e
end
end DL
namespace DL
open PySem PySem.Spec PyProof.Rows L2
def jX (t:Bool) (kvs:List (D × D)) (k v:D):List (D × D):=
  if (kvs.any fun p=>keq t p.1 k)=true then kvs.map (fun p=>if keq t p.1 k=true then (p.1,v) else p) else kvs++[(k,v)]
theorem l8 {κ:Type} [DecidableEq κ] {f:κ→D} {g:D→D→Bool} (hg:∀a b,g (f a) (f b)=decide (a=b)) {K:PySem.W.Frag} {mg:Str→Option Value} {μ:Mu} {H:Hp} (k:κ) {d:D} {v:V} (rd:Rep K mg μ H d v) {kvs:List (D × D)} {ks:List κ} {vs:List V} (e:kvs.map (·.1)=ks.map f) (r:RepAll K mg μ H (kvs.map (·.2)) vs) :
    ∃(ks':List κ) (vs':List V),putK (ks.zip vs) k v=ks'.zip vs'∧(if (kvs.any fun p=>g p.1 (f k))=true then kvs.map (fun p=>if g p.1 (f k)=true then (p.1,d) else p) else kvs++[(f k,d)]).map (·.1)=ks'.map f∧
      RepAll K mg μ H ((if (kvs.any fun p=>g p.1 (f k))=true then kvs.map (fun p=>if g p.1 (f k)=true then (p.1,d) else p) else kvs++[(f k,d)]).map (·.2)) vs':=by
  have any:∀ {kvs:List (D × D)} {ks:List κ} {vs:List V},kvs.map (·.1)=ks.map f→RepAll K mg μ H (kvs.map (·.2)) vs→(kvs.any fun p=>g p.1 (f k))=((ks.zip vs).any fun p=>decide (p.1=k)):=by
    intro kvs
    induction kvs with
    | nil=>
      intro ks vs e r
      have:ks=[]:=by cases ks with|nil=>rfl|cons a b=>cases e
      subst this; rfl
    | cons p kvs ih=>
      intro ks vs e r
      cases ks with
      | nil=>cases e
      | cons k' ks=>
        have r:RepAll K mg μ H (p.2::kvs.map (·.2)) vs:=r
        unfold RepAll at r
        obtain ⟨v,q,rfl,r1,r2⟩:=r
        injection e with e1 e2
        rw[List.zip_cons_cons,List.any_cons,List.any_cons,ih e2 r2]
        have e1:p.1=f k':=e1
        rw[e1,hg]
  have mp:∀ {kvs:List (D × D)} {ks:List κ} {vs:List V},kvs.map (·.1)=ks.map f→RepAll K mg μ H (kvs.map (·.2)) vs→
      ∃vs':List V,(ks.zip vs).map (fun p=>if p.1=k then (p.1,v) else p)=ks.zip vs'∧(kvs.map fun p=>if g p.1 (f k)=true then (p.1,d) else p).map (·.1)=ks.map f∧RepAll K mg μ H ((kvs.map fun p=>if g p.1 (f k)=true then (p.1,d) else p).map (·.2)) vs':=by
    intro kvs
    induction kvs with
    | nil=>
      intro ks vs e r
      have:ks=[]:=by cases ks with|nil=>rfl|cons a b=>cases e
      subst this; exact ⟨[],rfl,rfl,.nil⟩
    | cons p kvs ih=>
      intro ks vs e r
      cases ks with
      | nil=>cases e
      | cons k' ks=>
        have r:RepAll K mg μ H (p.2::kvs.map (·.2)) vs:=r
        unfold RepAll at r
        obtain ⟨w,q,rfl,r1,r2⟩:=r
        injection e with e1 e2
        have e1:p.1=f k':=e1
        obtain ⟨vs',h1,h2,h3⟩:=ih e2 r2
        have hgk:g p.1 (f k)=decide (k'=k):=by rw[e1,hg]
        have hf1:(if g p.1 (f k)=true then (p.1,d) else p).1=f k':=by split<;>exact e1
        by_cases hk:k'=k
        · refine ⟨v::vs',?_,?_,?_⟩
          · rw[List.zip_cons_cons,List.map_cons,h1,List.zip_cons_cons]; simp[hk]
          · rw[List.map_cons,List.map_cons,h2,List.map_cons,hf1]
          · rw[List.map_cons,List.map_cons]
            simp only[hgk,hk,decide_true,if_true]
            exact .cons rd h3
        · refine ⟨w::vs',?_,?_,?_⟩
          · rw[List.zip_cons_cons,List.map_cons,h1,List.zip_cons_cons]; simp[hk]
          · rw[List.map_cons,List.map_cons,h2,List.map_cons,hf1]
          · rw[List.map_cons,List.map_cons]
            simp only[hgk,hk,decide_false,Bool.false_eq_true,if_false]
            exact .cons r1 h3
  have ha:=any e r
  unfold putK
  rw[ha]
  by_cases hb:((ks.zip vs).any fun p=>decide (p.1=k))=true
  · rw[if_pos hb,if_pos hb]
    obtain ⟨vs',h1,h2,h3⟩:=mp e r
    exact ⟨ks,vs',h1,h2,h3⟩
  · rw[if_neg hb,if_neg hb]
    have hl:ks.length=vs.length:=by
      have h1:=congrArg List.length e
      have h2:=r.length
      simp only[List.length_map] at h1 h2
      omega
    refine ⟨ks++[k],vs++[v],by rw[List.zip_append hl]; rfl,by simp[e],?_⟩
    rw[List.map_append]
    exact r.append (.cons rd .nil)
theorem put_ok {K:PySem.W.Frag} {mg:Str→Option Value} {μ:Mu} {H:Hp} {t:Bool} {kvs:List (D × D)} {a:Addr} {k d:D} {y v:V} (h:RepO K mg μ H (.dct t kvs) a) (hk:bh t k=true) (rk:Rep K mg μ H k y) (rd:Rep K mg μ H d v) (hl:kvs.length<1000000) :
    ∃ho,DPut H a y v (upd H a ho)∧∀ {μ':Mu},Step μ H μ' (upd H a ho)→RepO K mg μ' (upd H a ho) (.dct t (jX t kvs k d)) a:=by
  cases t with
  | false=>
    obtain ⟨vs,ks,⟨e,q⟩,rs⟩:=h
    obtain ⟨kk,rfl⟩:=pe hk
    rw[iA rk]
    obtain ⟨ks',vs',h1,h2,h3⟩:=l8 pc kk rd q rs
    have hz:(ks.zip vs).length<sizeLine:=by rw[l6 q rs,sizeLine_eq]; omega
    refine ⟨_,.k e hz,fun st=>?_⟩
    rw[h1] at *
    exact ⟨vs',ks',⟨upd_same,h2⟩,RepAll.step st _ _ h3⟩
  | true=>
    obtain ⟨vs,ks,⟨e,q⟩,rs⟩:=h
    obtain ⟨kk,rfl⟩:=rU hk
    obtain ⟨b,rfl,hb⟩:=jt rk
    obtain ⟨ks',vs',h1,h2,h3⟩:=l8 rT kk rd q rs
    have hz:(ks.zip vs).length<sizeLine:=by rw[l6 q rs,sizeLine_eq]; omega
    refine ⟨_,.t e hb hz,fun st=>?_⟩
    rw[h1] at *
    exact ⟨vs',ks',⟨upd_same,h2⟩,RepAll.step st _ _ h3⟩
def dZ (S:Sto) (o i v:D):Option Sto:=match o with
  | .loc l=>match S[l]? with
    | some (.lst xs)=>match i with
      | .int k=>match ixN xs.length k with
        | some j=>some (S.set l (.lst (xs.set j v)))
        | none=>none
      | _=>none
    | some (.dct t kvs)=>if bh t i=true∧kvs.length<1000000 then some (S.set l (.dct t (jX t kvs i v))) else none
    | _=>none
  | _=>none
def rPut (K:PySem.W.Frag) (mg:Str→Option Value):TSet:=fun o i v H Q=>∃μ S od id vd S',RelS K mg μ H S∧Rep K mg μ H od o∧Rep K mg μ H id i∧Rep K mg μ H vd v∧dZ S od id vd=some S'∧∀μ' H',Step μ H μ' H'→RelS K mg μ' H' S'→Q H'
section
variable {X:Cx} {W:WX}
theorem uK (hu:X.A.units+1<cLine):PSet X (rPut X.K X.mg):=by
  intro pins s σ H o i v ov iv u Q I ro ri rv ⟨μ,S,od,id,vd,S',rs,rod,rid,rvd,e,q⟩
  unfold dZ at e
  split at e
  · rename_i l
    unfold Rep at rod
    obtain ⟨a,rfl,hμ⟩:=rod
    split at e
    · rename_i xs es
      obtain ⟨a',h1,vs,h2,h3⟩:=rs.at_ _ _ es
      rw[hμ] at h1; cases h1
      split at e
      · rename_i k
        unfold Rep at rid
        subst rid
        split at e
        · rename_i j ej
          cases e
          have st:Step μ H μ (upd H a (.lst (vs.set j v))):=Step.write rs hμ (.of h2)
          exact set_list pins s σ H _ _ _ ov iv u Q I ro ri rv ⟨a,vs,k,j,rfl,rfl,h2,by rw[←h3.length]; exact ej,q μ _ st (rs.write hμ (.of h2) ⟨_,upd_same,RepAll.step st _ _ (h3.set rvd j)⟩)⟩
        · cases e
      · cases e
    · rename_i t kvs es
      split at e
      · rename_i hk
        cases e
        obtain ⟨a',h1,h2⟩:=rs.at_ _ _ es
        rw[hμ] at h1; cases h1
        obtain ⟨ho,hp,hr⟩:=put_ok h2 hk.1 rid rvd hk.2
        have nf:NF H a:=by
          cases t<;>(obtain ⟨vs,ks,⟨q,_⟩,_⟩:=h2; exact .of q)
        have st:Step μ H μ (upd H a ho):=Step.write rs hμ nf
        exact set_dict hu pins s σ H _ _ _ ov iv u Q I ro ri rv ⟨a,_,rfl,hp,q μ _ st (rs.write hμ nf (hr st))⟩
      · cases e
    · cases e
  · cases e
def j2 (mo mi:ME):MG:=fun v env S=>match mo env S with
  | .ok o S=>match mi env S with
    | .ok i S=>(dZ S o i v).map fun S=>(env,S)
    | _=>none
  | _=>none
theorem l9 {o i:Expr} {mo mi:ME} {pos:Pos} (hu:X.A.units+1<cLine) (ho:PE X o (tE X (fun _ _ _ _=>False) mo)) (hi:PE X i (tE X (fun _ _ _ _=>False) mi))
    (ha:∀v,assign (.Subscript o i pos) X.env v=(do
      let ov ←holding [v] (eval o X.env)
      let iv ←holding [v,ov] (eval i X.env)
      standAt pos
      holding [v,ov,iv] (setItem ov iv v)
      release [v,ov,iv] []):=by intro v; rfl):PG X (.Subscript o i pos) (tG X (j2 mo mi)):=
  k8 (pg_sub ho hi (uK hu) ha) fun v σ H Q ⟨env,S,μ,d,rl,r,o⟩=>by
    unfold j2 at o
    refine ⟨env,S,μ,rl,?_⟩
    cases hmo:mo env S with
    | exc a b=>simp only[hmo] at o; exact o.elim
    | stuck=>simp only[hmo] at o; exact o.elim
    | ok od S1=>
      simp only[hmo] at o
      intro μ1 H1 ov st1 rs1 ro
      refine ⟨env,S1,μ1,⟨rl.env.step st1,rs1⟩,?_⟩
      cases hmi:mi env S1 with
      | exc a b=>simp only[hmi] at o; exact o.elim
      | stuck=>simp only[hmi] at o; exact o.elim
      | ok id S2=>
        simp only[hmi] at o
        intro μ2 H2 iv st2 rs2 ri
        cases hs:dZ S2 od id d with
        | none=>simp only[hs] at o; exact o.elim
        | some S3=>
          simp only[hs] at o
          exact ⟨μ2,S2,od,id,d,S3,rs2,Rep.step st2 _ _ ro,ri,Rep.step (st1.trans st2) _ _ r,hs,fun μ' H' st rs'=>o μ' H' σ ((st1.trans st2).trans st) (rl.env.step ((st1.trans st2).trans st)) rs'⟩
def eRev (m:ME):ME:=fun env S=>(m env S).bind fun d S=>match view S d with
  | .lst xs=>.ok (.lst xs.reverse) S
  | _=>.stuck
theorem RepAll.reverse {K:PySem.W.Frag} {mg:Str→Option Value} {μ:Mu} {H:Hp}:∀ {ds:List D} {vs:List V},RepAll K mg μ H ds vs→RepAll K mg μ H ds.reverse vs.reverse
  | [],_,h=>by unfold RepAll at h; subst h; exact .nil
  | d::ds,_,h=>by
    unfold RepAll at h
    obtain ⟨v,r,rfl,h1,h2⟩:=h
    rw[List.reverse_cons,List.reverse_cons]
    exact (RepAll.reverse h2).append (.cons h1 .nil)
end
end DL
namespace DL
open PySem PySem.Spec PyProof.Rows L2
section
variable {K:PySem.W.Frag} {mg:Str→Option Value} {μ:Mu} {H:Hp} {S:Sto}
theorem Stp.reveal {p:Addr} {h':List Addr} (hp:p∈μ.h) (hs:∀a∈h',a∈μ.h):Stp μ H ⟨μ.l++[p],h'⟩ H:=
  ⟨⟨⟨[p],rfl⟩,fun a ha=>.inl (by
    rcases ha with z|z
    · rcases List.mem_append.mp z with e|e
      · exact .inl e
      · have:a=p:=by simpa using e
        subst this; exact .inr hp
    · exact .inr (hs a z)),fun _ _ e _ _=>e⟩,fun _ _ _ e=>e⟩
theorem RelS.reveal {p:Addr} {o:O} {h':List Addr} (rs:RelS K mg μ H S) (hp:p∈μ.h) (hs:∀a∈h',a∈μ.h) (hn:p∉h') (r:RepO K mg μ H o p):RelS K mg ⟨μ.l++[p],h'⟩ H (S++[o]):=by
  have np:p∉μ.l:=fun z=>rs.dis p z hp
  have st:Stp μ H ⟨μ.l++[p],h'⟩ H:=.reveal hp hs
  refine ⟨by simp[rs.len],List.nodup_append.mpr ⟨rs.nd,by simp,fun a ha b hb=>?_⟩,fun a ha z=>?_,fun a ha=>rs.hid a (hs a ha),fun l u e=>?_,rs.tab⟩
  · have:b=p:=by simpa using hb
    subst this
    exact fun z=>np (z▸ha)
  · rcases List.mem_append.mp ha with e|e
    · exact rs.dis a e (hs a z)
    · have:a=p:=by simpa using e
      subst this; exact hn z
  · by_cases hl:l<S.length
    · rw[List.getElem?_append_left hl] at e
      obtain ⟨a,h1,h2⟩:=rs.at_ l u e
      exact ⟨a,st.get h1,h2.step st fun w q=>q⟩
    · rw[List.getElem?_append_right (by omega)] at e
      have hl2:l - S.length=0:=by
        have:=(List.getElem?_eq_some_iff.mp e).1
        simp at this; omega
      rw[hl2] at e
      simp at e
      subst e
      have:l=S.length:=by omega
      subst this
      exact ⟨p,by rw[rs.len]; simp,r.step st fun w q=>q⟩
end
def dle (a b:D):Bool:=PySem.W.dataLe false pdF a b
def rq (xs:List D):Bool:=xs.all (dok 60)&&(xs.all fun a=>xs.all fun b=>PySem.W.alike (pdF a) (pdF b)) &&
  ((xs.all fun a=>match a with
    | .tup (_::_)=>true
    | .tpn (_::_)=>true
    | _=>false)||xs.all fun a=>match a with
    | .tup _=>false
    | .tpn _=>false
    | .none=>false
    | _=>true)
def og (S:Sto) (d:D):Option (List D):=match view S d with
  | .lst xs=>some xs
  | .ro xs=>some xs
  | _=>none
def pairOf:D→Option (D × D)
  | .tup [k,v]=>if bh false k=true then some (k,v) else none
  | _=>none
def gS:List D→Option (List (D × D))
  | []=>some []
  | d::ds=>match pairOf d,gS ds with
    | some p,some ps=>some (p::ps)
    | _,_=>none
def cQ (kvs:List (D × D)):List (D × D)→List (D × D)
  | []=>kvs
  | p::ps=>cQ (jX false kvs p.1 p.2) ps
def r6 (r:MA):ME:=fun env S=>(r env S).bind fun ds S=>match ds with
  | [.tpn xs]=>match gS xs with
    | some ps=>if xs.length≤1000000 then .ok (.loc S.length) (S++[.dct false (cQ [] ps)]) else .stuck
    | none=>.stuck
  | _=>.stuck
section
variable {K:PySem.W.Frag} {mg:Str→Option Value} {μ:Mu} {H:Hp}
theorem mB:∀ {ps:List (D × D)} {kvs:List (Key × V)} {ds:List (D × D)} {acc:List (Key × V)},ps.map (·.1)=kvs.map (fun kv=>cy kv.1)→RepAll K mg μ H (ps.map (·.2)) (kvs.map (·.2))→(∃ks vs,acc=List.zip ks vs∧ds.map (·.1)=ks.map cy∧RepAll K mg μ H (ds.map (·.2)) vs)→
    ∃ks vs,mergeK acc kvs=List.zip ks vs∧(cQ ds ps).map (·.1)=ks.map cy∧RepAll K mg μ H ((cQ ds ps).map (·.2)) vs
  | [],kvs,ds,acc,e,r,h=>by
    have:kvs=[]:=by cases kvs with|nil=>rfl|cons a b=>cases e
    subst this; exact h
  | p::ps,kvs,ds,acc,e,r,⟨ks,vs,h1,h2,h3⟩=>by
    cases kvs with
    | nil=>cases e
    | cons kv kvs=>
      have r:RepAll K mg μ H (p.2::ps.map (·.2)) (kv.2::kvs.map (·.2)):=r
      unfold RepAll at r
      obtain ⟨v,q,ee,r1,r2⟩:=r
      cases ee
      injection e with e1 e2
      have e1:p.1=cy kv.1:=e1
      subst h1
      obtain ⟨ks',vs',g1,g2,g3⟩:=l8 pc kv.1 r1 h2 h3
      refine mB (ds:=jX false ds p.1 p.2) (acc:=putK (ks.zip vs) kv.1 kv.2) e2 r2 ⟨ks',vs',g1,?_,?_⟩
      · unfold jX; rw[e1]; exact g2
      · unfold jX; rw[e1]; exact g3
end
end DL
namespace DL
open PySem PySem.Spec PyProof.Rows L2
def turnDC (g:MG) (tc:MT) (mk mv:ME) (w:En) (d:D) (acc:List (D × D)) (S:Sto):Res (List (D × D)):=match g d w S with
  | none=>.stuck
  | some p=>(tc p.1 p.2).bindS fun c S2=>if c=true then (mk p.1 S2).bindS fun k S3=>(mv p.1 S3).bindS fun v S4=>if bh false k=true∧acc.length<1000000 then .ok (jX false acc k v) S4 else .stuck else .ok acc S2
def mC (g:MG) (tc:MT) (mk mv:ME) (w:En):List D→List (D × D)→Sto→Res (List (D × D))
  | [],acc,S=>.ok acc S
  | d::ds,acc,S=>(turnDC g tc mk mv w d acc S).bindS fun acc S=>mC g tc mk mv w ds acc S
/-- a dict laid -/
def kD:List (D × D)→Sto→Res D:=fun kvs S=>.ok (.loc S.length) (S++[.dct false kvs])
def r7 (mi:MI) (g:MG) (tc:MT) (mk mv:ME) (vs:List Nat):ME:=fun env S=>(mi env S).bind fun it S=>match it with
  | .items ds=>(mC g tc mk mv (bn env vs) ds [] S).bind kD
  | .live _=>.stuck
  | .liveE _=>.stuck
end DL
namespace DL
open PySem PySem.Spec PyProof.Rows L2
def r8 (C:Str):MS:=fun env S=>.exc ⟨C,[]⟩ env S
def flV:D→Option V
  | .none=>some .non
  | .bool b=>some (.bl b)
  | .int i=>some (.int i)
  | .str x=>some (.str x)
  | _=>none
def flVs:List D→Option (List V)
  | []=>some []
  | d::ds=>match flV d,flVs ds with
    | some v,some vs=>some (v::vs)
    | _,_=>none
section
variable {K:PySem.W.Frag} {mg:Str→Option Value} {μ:Mu} {H:Hp}
theorem oh {d:D} {v u:V} (r:Rep K mg μ H d v) (e:flV d=some u):v=u:=by
  cases d with
  | none=>cases e; unfold Rep at r; exact r
  | bool b=>cases e; unfold Rep at r; exact r
  | int b=>cases e; unfold Rep at r; exact r
  | str b=>cases e; unfold Rep at r; exact r
  | _=>cases e
theorem mD:∀ {ds:List D} {vs us:List V},RepAll K mg μ H ds vs→flVs ds=some us→vs=us
  | [],vs,us,r,e=>by unfold RepAll at r; cases e; exact r
  | d::ds,vs,us,r,e=>by
    unfold RepAll at r
    obtain ⟨v,q,rfl,r1,r2⟩:=r
    unfold flVs at e
    split at e
    · rename_i a b ea eb
      cases e
      rw[oh r1 ea,mD r2 eb]
    · cases e
end
def rCount (K:PySem.W.Frag):V→List V→Hp→VK→Prop:=fun x xs H Q=>∃(a:Addr) (ys:List V) (y:V),x=V.ref a∧xs=[y]∧SqL K H a ys∧flatV y=true∧ys.all flatV=true∧Q (.int (ys.countP fun z=>eqV z y:Nat)) H
section
variable {X:Cx}
theorem lF {x:V}:∀ {xs:List V} {us:List Value},Vals xs us→xs.all flatV=true→us.countP (eqU x)=xs.countP fun y=>eqV y x
  | _,_,.nil,_=>rfl
  | y::xs,u::us,.cons r t,f=>by
    rw[List.all_cons,Bool.and_eq_true] at f
    rw[List.countP_cons,List.countP_cons,lF t f.2,eqU_of r f.1]
theorem qZ:MtR X "list.count" (rCount X.K):=by
  intro pins s σ H x xs v us Q I rx rxs h
  obtain ⟨a,ys,y,rfl,rfl,hs,fy,fys,q⟩:=h
  cases rx
  cases rxs with
  | cons ry rt=>
    rename_i uy ut
    cases rt
    obtain ⟨its,rv,⟨⟨cls,dd,data,sl⟩,n,ho,hc,hdn,hd⟩,hlen⟩:=I.list hs
    simp only at hc hd
    subst hc hd
    refine call_meets PySem.F.slot_list_count ⟨_,ho,rfl⟩ PySem.F.entry_list_count (PySem.F.args_list_count_2 _ _)
      (SeqAt.list_countAt a its.toArray n dd sl uy (eqU y)) ⟨ho,fun u' hu'=>mem_eqAt ry fy rv fys u' (by simpa using hu'),?_⟩
    refine ⟨.int (ys.countP (fun z=>eqV z y):Nat),H,I.tok _,⟨s.toks,?_⟩,q⟩
    show Value.int ((its.toArray.toList.countP (eqU y):Nat):Int) s.toks=_
    rw[show its.toArray.toList=its from rfl,lF rv fys]
def oi:BM:=fun S d ds=>match view0 S d,ds with
  | .lst xs,[a]=>match flVs xs,flV a with
    | some vs,some v=>if vs.all flatV&&flatV v then some (.int (vs.countP fun z=>eqV z v:Nat),S) else none
    | _,_=>none
  | _,_=>none
theorem uL:MtR X "list.count" (rM X.K X.mg oi):=im qZ fun x xs H Q ⟨μ,S,d,ds,r,S',rs,rd,rds,e,q⟩=>by
  unfold oi at e
  split at e
  · rename_i zs a ev
    have rw0:=rs.view0 rd
    rw[ev] at rw0
    obtain ⟨ad,vs,rfl,h1,h2⟩:=rw0
    obtain ⟨v,rfl,rv⟩:=bW rds
    split at e
    · rename_i us u e1 e2
      split at e
      · rename_i hf
        cases e
        rw[Bool.and_eq_true] at hf
        obtain rfl:=mD h2 e1
        obtain rfl:=oh rv e2
        exact ⟨ad,_,_,rfl,rfl,.of h1,hf.2,hf.1,q μ H _ .refl rs (bA _)⟩
      · cases e
    · cases e
  · cases e
def oj:BM:=fun S d ds=>match view0 S d,ds with
  | .lst xs,[a]=>match flVs xs,flV a with
    | some vs,some v=>if vs.all flatV&&flatV v then (vs.findIdx? fun z=>eqV z v).map fun j=>(.int (j:Nat),S) else none
    | _,_=>none
  | _,_=>none
theorem uM:MtR X "list.index" (rM X.K X.mg oj):=im mt_index fun x xs H Q ⟨μ,S,d,ds,r,S',rs,rd,rds,e,q⟩=>by
  unfold oj at e
  split at e
  · rename_i zs a ev
    have rw0:=rs.view0 rd
    rw[ev] at rw0
    obtain ⟨ad,vs,rfl,h1,h2⟩:=rw0
    obtain ⟨v,rfl,rv⟩:=bW rds
    split at e
    · rename_i us u e1 e2
      split at e
      · rename_i hf
        obtain ⟨j,hj,e3⟩:=Option.map_eq_some_iff.mp e
        cases e3
        rw[Bool.and_eq_true] at hf
        obtain rfl:=mD h2 e1
        obtain rfl:=oh rv e2
        obtain ⟨hjl,g1,g2⟩:=List.findIdx?_eq_some_iff_getElem.mp hj
        exact ⟨ad,_,_,j,_,rfl,rfl,.of h1,hf.2,hf.1,List.getElem?_eq_getElem hjl,g1,fun m z' hm hz=>by
          have hml:m<vs.length:=(List.getElem?_eq_some_iff.mp hz).1
          have:=g2 m hm
          rw[List.getElem?_eq_getElem hml] at hz
          cases hz
          simpa using this,q μ H _ .refl rs (bA _)⟩
      · cases e
    · cases e
  · cases e
def de:BM:=fun S d ds=>match d,ds with
  | .str a,[.str b]=>if (b.length == 0)=false∧a.length≤100000 then some (.lst ((Txt.split a b).map .str),S) else none
  | _,_=>none
theorem jI {K:PySem.W.Frag} {mg:Str→Option Value} {μ:Mu} {H:Hp}:∀ys:List Str,RepAll K mg μ H (ys.map .str) (ys.map V.str)
  | []=>.nil
  | y::ys=>.cons (bV y) (jI ys)
theorem iI:MtR X "str.split" (rM X.K X.mg de):=im mt_split fun x xs H Q ⟨μ,S,d,ds,r,S',rs,rd,rds,e,q⟩=>by
  unfold de at e
  split at e
  · rename_i a b
    split at e
    · rename_i hz
      cases e
      unfold Rep at rd
      subst rd
      obtain ⟨v,rfl,rv⟩:=bW rds
      unfold Rep at rv
      subst rv
      exact ⟨a,b,rfl,rfl,hz.1,by rw[sizeLine_eq]; omega,fun p hp=>q μ _ _ (.of_sm (.upd hp)) (rs.sm (.upd hp)) (bu rs hp (jI _))⟩
    · cases e
  · cases e
end
section
open PySem.W PySem.Calls
variable {prog:Program} {w:World} {A:Around} {E:Value→Shared→Prop} {s:Shared} {K:Frag} {x D:Addr} {ox:Obj} {od:Option Obj}
theorem ki {C:Addr} {name:Str} {a g:Value} (hc:(clsIn K C).isSome=true) (ha:findIn K (.ref C) name=some (some a)) (hg:specialIn K a "__get__"=some (some g)) (ht:takesIn K a=some true):findObj K C od name=some (.bind g a):=by
  obtain ⟨cd,hc⟩:=Option.isSome_iff_exists.mp hc
  unfold findObj
  rw[hc,Option.bind_some,ha,Option.bind_some]
  simp[hg,ht]
theorem qa {Q:Option Value→Shared→Prop} (T:ExcC K D) (X:K.In s.heap) (I:InstAt s.heap x ox D od) (h:Q (some (.ref D)) { s with toks:=s.toks+1 }):wpAny (model prog w) A (getAttr? (.ref x) "__class__") Q E s:=by
  have hf:findObj K D od "__class__"=some (.bind (.builtin "getset_descriptor.__get__") (.builtin "object.__class__")):=ki (by obtain ⟨cd,hc,_⟩:=any_some T.hd; rw[hc]; rfl) T.ha T.hn T.ht
  obtain ⟨hp,g,d,t,os⟩:=s
  have L0:=I.type (M:=model prog w)
  have L1:=looks_findIn (M:=model prog w) X T.hg
  have L2:=looks_findIn (M:=model prog w) X T.hk
  have L3:=looks_find (M:=model prog w) X I hf
  have sub:Looks (model prog w) hp (isInstance (.ref x) (.type "BaseException")) true:=L0.andThen (looks_subIn X T.hs)
  have e0:(Value.builtin "BaseException.__getattribute__" == Value.builtin "object.__getattribute__")=false:=by decide +kernel
  have e1:(onTheHeap (Value.ref D)&&Value.builtin "BaseException.__getattribute__" == Value.builtin "object.__getattribute__")=false:=by rw[e0]; rfl
  unfold getAttr? getAttrBy? getAttrBy
  refine wpAny_bind (wpAny_mkText (wpAny_bind (wpAny_attempt (wpAny_holding (wpAny_bind (L0.at (wpAny_bind (L1.at ?_))))))))
  show wpAny _ _ (if (onTheHeap (Value.ref D)&&Value.builtin "BaseException.__getattribute__" == Value.builtin "object.__getattribute__")=true then _ else _) _ _ _
  rw[e1,if_neg Bool.false_ne_true]
  unfold getAttrByItsOwn hookBefore
  refine wpAny_bind ?_
  rw[if_pos (show onTheHeap (Value.ref D)=true from rfl)]
  refine L2.at ?_
  refine wpAny_bind (wpAny_attempt (wpAny_holding ?_))
  unfold callGetattribute
  rw[show (false&&onTheHeap (Value.builtin "BaseException.__getattribute__"))=false from rfl,if_neg Bool.false_ne_true]
  unfold boundAndCalled
  rw[PySem.F.excAttr_ValueError.ga.bind (.ref x)]
  refine wpAny_bind (wpAny_pure ?_)
  show wpAny _ _ (call (.builtin "BaseException.__getattribute__") [.ref x,.str "__class__" t]) _ _ _
  refine wpAny_call (codeAny_call_builtin PySem.F.excAttr_ValueError.ga.plain PySem.F.entry_bexc_ga ?_)
  refine @check_slot (model prog w) _ _ ⟨hp,g,d,t+1,os⟩ "BaseException.__getattribute__" "BaseException" "__getattribute__" (.ref x) [.str "__class__" t] [] _ (by decide +kernel) (by decide +kernel) sub (PySem.F.args_bexc_ga (.ref x) (.str "__class__" t)) ?_
  unfold Builtin.«object.__getattribute__»
  refine wpAny_bind (wpAny_of_eq (a:=((Value.ref x:Value),[Value.str "__class__" t])) (by first|rfl|(simp only[slotArgs]; rfl)) ?_)
  refine wpAny_bind (wpAny_pure (wpAny_bind (L0.at (wpAny_bind (L3.at ?_)))))
  show wpAny _ _ (holding [Value.builtin "object.__class__"] (call (.builtin "getset_descriptor.__get__") [.builtin "object.__class__",.ref x,.ref D]) >>= ret) _ _ _
  refine wpAny_bind (wpAny_holding (wpAny_call (class_get (s:=⟨hp,g,d,t+1,os⟩) (ox:=ox) (od:=od) X I T.hm ?_)))
  refine wpAny_pure ?_
  show wpAny _ _ (handedOut (.ref D)) _ _ _
  rw[handedOut_of (v:=.ref D) rfl]
  first
    | exact wpAny_pure (wpAny_pure h)
    | exact wpAny_pure h
    | exact wpAny_pure (wpAny_bind (wpAny_pure (wpAny_pure h)))
theorem kitE (T:ExcC K D):KitX K (.ref x) (.ref D) (fun h=>InstAt h x ox D od) where
  ty:=fun _ _ _ I=>I.type
  it:=fun _ _ X _=>by
    obtain ⟨cdD,hcD,_⟩:=any_some T.hd
    unfold clsIn at hcD
    split at hcD
    · rename_i c' d' cd' sl' ho
      intro A' Q' E' s' k q
      unfold isType loadHead
      exact wpAny_bind (wpAny_loadPart (k _ _ (X _ _ ho)) (wpAny_pure q))
    · cases hcD
  ne:=fun h tp dd its n sl X htp=>by
    obtain ⟨cdD,hcD,_⟩:=any_some T.hd
    refine Bool.eq_false_iff.mpr fun q=>?_
    have e:D=tp:=Value.ref.inj (beq_iff_eq.mp q)
    subst e
    unfold clsIn at hcD
    split at hcD
    · rename_i c' d' cd' sl' ho
      have z:=(X _ _ ho).symm.trans htp
      cases z
    · cases hcD
  ca:=fun X I k=>qa T X I k
end
/-- the dict of an exception stands -/
def XdAt (H:Hp):Option Addr→Prop
  | none=>True
  | some d=>∃fs,H d=some (.xd fs)
def rIsD (K:PySem.W.Frag) (D a:Addr) (dd:Option Addr):List V→Hp→VK→Prop:=fun xs H Q=>∃(c:V) (cv:Value) (b:Bool),xs=[.ref a,c]∧(∀u,L2.RelV c u→u=cv)∧PySem.W.kitOne K (.ref D) cv=some b∧XdAt H dd∧Q (.bl b) H
theorem xd_at {P:Program} {w:World} {H:Hp} {h:Heap} (hok:HOk P w H h) {d:Addr} {fs:List (Str × V)} (e:H d=some (.xd fs)):∃mA,h.Ns1 d mA∧∀f,RelO (fs.lookup f) (mA f):=by
  have x:ObjOk P w H h d (.xd fs):=hok d _ e
  exact x
theorem r9 {X:Cx} {a D:Addr} {dd:Option Addr} {oe:Obj} {pn:List (Addr × Obj)} {pins:List (Addr × Obj)} {σ:L2.St} {H:Hp} {s:Shared} (I:L2.Inv (X.suite a ((a,oe)::pn)) pins σ H s) (hz:Zc (.ref D) dd oe) (hf:∃vs,oe.data=.fields vs) (hd:XdAt H dd) :
    ∃od,PySem.W.InstAt s.heap a oe D od:=by
  obtain ⟨hget,_⟩:=I.pin (a,oe) (List.mem_append_left _ List.mem_cons_self)
  obtain ⟨vs,hv⟩:=hf
  cases dd with
  | none=>
    refine ⟨none,?_⟩
    obtain ⟨oc,od,oda,osl⟩:=oe
    obtain ⟨h1,h2⟩:=hz
    dsimp only at h1 h2 hv
    subst h1 h2 hv
    exact ⟨hget,rfl,rfl,trivial⟩
  | some d=>
    obtain ⟨fs,e⟩:=hd
    obtain ⟨mA,hns,_⟩:=xd_at I.hok e
    obtain ⟨o,es,ep,ho,_⟩:=hns
    refine ⟨some o,hget,hz.1,?_,?_⟩
    · unfold PySem.W.notCls
      rw[hv]<;>rfl
    · rw[hz.2]
      exact ho
theorem sA {X:Cx} {a D:Addr} {dd:Option Addr} {oe:Obj} {pn:List (Addr × Obj)} (C:ExcC X.K D) (hz:Zc (.ref D) dd oe) (hf:∃vs,oe.data=.fields vs):CallR (X.suite a ((a,oe)::pn)) (.builtin "isinstance") (rIsD X.K D a dd):=by
  intro pins s σ H xs us Q I r h
  obtain ⟨c,cv,b,rfl,hcv,e,hd,q⟩:=h
  cases r with
  | cons rx rr=>
    cases rr with
    | cons rt rr=>
      cases rr
      cases rx
      have ec:=hcv _ rt
      subst ec
      obtain ⟨od,J⟩:=r9 I hz hf hd
      exact PySem.W.kia_one (kitE C) I.kIn J e (fun z=>nomatch z) fun tk=>⟨.bl b,H,I.kept (t':=tk) fun _ _ z=>z,rfl,q⟩
/-- kt: what the class table says; a: where the exception stands; dd: its dict -/
def cV (a:Addr) (dd:Option Addr) (kt:D→Option Bool):BF:=fun _ ds=>match ds,dd with
  | [.adr b,c],none=>if b=a then (kt c).map .bool else none
  | [.exn b d' _ _,c],some d=>if b=a∧d'=d then (kt c).map .bool else none
  | _,_=>none
theorem cE {X:Cx} {a C:Addr} {dd:Option Addr} {oe:Obj} {pn:List (Addr × Obj)} {kt:D→Option Bool} (hC:ExcC X.K C) (hz:Zc (.ref C) dd oe) (hf:∃vs,oe.data=.fields vs)
    (hk:∀c b,kt c=some b→∃cv,PySem.W.kitOne X.K (.ref C) cv=some b∧∀(μ:Mu) (H:Hp) (v:V),Rep X.K X.mg μ H c v→∀u,L2.RelV v u→u=cv):CallR (X.suite a ((a,oe)::pn)) (.builtin "isinstance") (rB X.K X.mg (cV a dd kt)):=
  f9 (sA hC hz hf) fun xs H Q ⟨μ,S,ds,d,rs,ra,e,q⟩=>by
    unfold cV at e
    split at e
    · split at e
      · rename_i hb
        subst hb
        obtain ⟨k,hk1,rfl⟩:=Option.map_eq_some_iff.mp e
        obtain ⟨v,w,rfl,r1,r2⟩:=iE ra
        unfold Rep at r1
        subst r1
        obtain ⟨cv,h1,h2⟩:=hk _ k hk1
        exact ⟨w,cv,k,rfl,h2 μ H w r2,h1,trivial,q H _ .rfl (bJ _)⟩
      · cases e
    · split at e
      · rename_i hb
        obtain ⟨rfl,rfl⟩:=hb
        obtain ⟨k,hk1,rfl⟩:=Option.map_eq_some_iff.mp e
        obtain ⟨v,w,rfl,r1,r2⟩:=iE ra
        unfold Rep at r1
        obtain ⟨vs,rfl,h3,_,_⟩:=r1
        obtain ⟨cv,h1,h2⟩:=hk _ k hk1
        exact ⟨w,cv,k,rfl,h2 μ H w r2,h1,⟨_,h3⟩,q H _ .rfl (bJ _)⟩
      · cases e
    · cases e
def eXf (a:Addr) (dd:Option Addr) (ok:Bool) (f:Str) (ma:ME):ME:=fun env S=>(ma env S).bind fun d S=>match d,dd with
  | .exn b d' ns ds,some d=>if b=a∧d'=d∧ok=true then (match (ns.zip ds).lookup f with
    | some v=>.ok v S
    | none=>.stuck) else .stuck
  | _,_=>.stuck
theorem jJ {K:PySem.W.Frag} {mg:Str→Option Value} {μ:Mu} {H:Hp} {g:Str}:∀ {ns:List Str} {ds:List D} {vs:List V} {d:D},RepAll K mg μ H ds vs→(ns.zip ds).lookup g=some d→∃v,(ns.zip vs).lookup g=some v∧Rep K mg μ H d v
  | [],_,_,_,_,h=>by simp at h
  | _::_,[],_,_,_,h=>by simp at h
  | n::ns,d0::ds,_,_,r,h=>by
    unfold RepAll at r
    obtain ⟨v,t,rfl,h1,h2⟩:=r
    rw[List.zip_cons_cons,List.lookup_cons] at h ⊢
    cases e:(g == n) with
    | true=>
      rw[e] at h
      cases h
      exact ⟨v,rfl,h1⟩
    | false=>
      rw[e] at h
      exact jJ h2 h
theorem px {X:Cx} {W:WX} {a C:Addr} {dd:Option Addr} {oe:Obj} {pn:List (Addr × Obj)} {e:Expr} {ma:ME} {pos:Pos} {n:Str} {ok:Bool} (T:ok=true→XfC X.K C∧PySem.W.findIn X.K (.ref C) n=some none)
    (hz:Zc (.ref C) dd oe) (hf:∃vs,oe.data=.fields vs) (he:PE (X.suite a ((a,oe)::pn)) e (tE (X.suite a ((a,oe)::pn)) W ma)) (hb:attributeBase e n X.env (eval e X.env)=eval e X.env:=by rfl) :
    PE (X.suite a ((a,oe)::pn)) (.Attribute e n pos) (tE (X.suite a ((a,oe)::pn)) W (eXf a dd ok n ma)):=by
  cases ok with
  | false=>
    refine ⟨fun pins s σ H Q I h=>?_⟩
    refine attr_of hb (thn (he.run pins s σ H (fun _ _=>False) I ?_) fun u s1 hh=>?_)
    · obtain ⟨env,S,μ,rl,o⟩:=h
      refine ⟨env,S,μ,rl,(Out.bind (R:=fun μ H a b=>Rep X.K X.mg μ H a b) o).mono fun v H1 ⟨μ1,S1,d,st,rs,r,o1⟩=>?_⟩
      split at o1
      · rw[if_neg (fun z=>by cases z.2.2)] at o1
        exact o1.elim
      · exact o1.elim
    · obtain ⟨_,_,_,_,q⟩:=hh
      exact q.elim
  | true=>
    obtain ⟨T1,hno⟩:=T rfl
    refine cB (pe_xf (cls:=.ref C) (d:=dd) T1 hno hz hf he hb) fun σ H Q h=>?_
    obtain ⟨env,S,μ,rl,o⟩:=h
    refine ⟨env,S,μ,rl,(Out.bind (R:=fun μ H a b=>Rep X.K X.mg μ H a b) o).mono fun v H1 ⟨μ1,S1,d,st,rs,r,o1⟩=>?_⟩
    split at o1
    · rename_i b d' ns ds d0
      split at o1
      · rename_i hb
        obtain ⟨rfl,rfl,_⟩:=hb
        unfold Rep at r
        obtain ⟨vs,rfl,h3,n3,h4⟩:=r
        split at o1
        · rename_i dv hl
          obtain ⟨v,hv,rv⟩:=jJ h4 hl
          exact ⟨rfl,rfl,_,_,v,rfl,h3,hv,o1 μ1 H1 v .refl rs rv⟩
        · exact o1.elim
      · exact o1.elim
    · exact o1.elim
end DL
namespace DL
open PySem PySem.Spec PyProof.Rows L2 LamX
/-- what is told of an error,by its class and its fields -/
abbrev Hdr:=Str→List (Str × D)→Option D
/-- what the def makes of what the lambda does -/
def j3 (hd:Hdr):Res D→Res D
  | .ok d S=>.ok d S
  | .exc e S=>match hd e.cls e.fs with
    | some d=>.ok d S
    | none=>.stuck
  | .stuck=>.stuck
def fG (hd:Hdr) (m:ME):ME:=fun env S=>j3 hd (m env S)
/-- an error's dict and its fields -/
def DdR (K:PySem.W.Frag) (mg:Str→Option Value) (μ:Mu) (H:Hp) (fs:List (Str × D)) (dd:Option Addr):Prop:=
  (fs=[]∧dd=none)∨fs≠[]∧∃d vs,dd=some d∧H d=some (.xd ((fs.map (·.1)).zip vs))∧RepAll K mg μ H (fs.map (·.2)) vs
/-- .. as a value -/
def exD (ea:Addr) (fs:List (Str × D)):Option Addr→D
  | none=>.adr ea
  | some d=>.exn ea d (fs.map (·.1)) (fs.map (·.2))
/-- the dict is there where fields are -/
def DdK (fs:List (Str × D)) (dd:Option Addr):Prop:=(fs=[]∧dd=none)∨fs≠[]∧∃d,dd=some d
theorem DdR.k {K:PySem.W.Frag} {mg:Str→Option Value} {μ:Mu} {H:Hp} {fs:List (Str × D)} {dd:Option Addr} (h:DdR K mg μ H fs dd):DdK fs dd:=by
  rcases h with h|⟨h,d,_,e,_⟩
  · exact .inl h
  · exact .inr ⟨h,d,e⟩
theorem sB {K:PySem.W.Frag} {mg:Str→Option Value} {μ:Mu} {H:Hp} {S:Sto} (rs:RelS K mg μ H S) {d:Addr} {fs:List (Str × V)} (e:H d=some (.xd fs)):d∉μ:=fun z=>by
  rcases z with z|z
  · obtain ⟨l,hl⟩:=List.mem_iff_getElem?.mp z
    have hlt:l<S.length:=by
      rw[rs.len]
      exact (List.getElem?_eq_some_iff.mp hl).1
    obtain ⟨a,h1,h2⟩:=rs.at_ l S[l] (List.getElem?_eq_getElem hlt)
    rw[hl] at h1
    cases h1
    cases ho:S[l] with
    | lst xs=>
      rw[ho] at h2
      obtain ⟨vs,h3,_⟩:=h2
      rw[e] at h3
      cases h3
    | ins C fs=>
      rw[ho] at h2
      obtain ⟨_,_,_,_,h3,_⟩:=h2
      rw[e] at h3
      cases h3
    | dct t kvs=>
      rw[ho] at h2
      cases t with
      | false=>
        obtain ⟨_,_,⟨h3,_⟩,_⟩:=h2
        rw[e] at h3
        cases h3
      | true=>
        obtain ⟨_,_,⟨h3,_⟩,_⟩:=h2
        rw[e] at h3
        cases h3
    | fdc t kvs=>
      rw[ho] at h2
      cases t with
      | false=>
        obtain ⟨_,_,⟨⟨_,h3⟩,_⟩,_⟩:=h2
        rw[e] at h3
        cases h3
      | true=>
        obtain ⟨_,_,⟨⟨_,h3⟩,_⟩,_⟩:=h2
        rw[e] at h3
        cases h3
  · obtain ⟨u,h1,h2⟩:=rs.hid d z
    rw[e] at h1
    cases h1
    rcases h2 with ⟨_,h2⟩|⟨_,h2⟩|⟨_,h2⟩<;>cases h2
theorem DdR.rep {K:PySem.W.Frag} {mg:Str→Option Value} {μ:Mu} {H:Hp} {S:Sto} (rs:RelS K mg μ H S) {fs:List (Str × D)} {dd:Option Addr} (h:DdR K mg μ H fs dd) (ea:Addr):Rep K mg μ H (exD ea fs dd) (.ref ea):=by
  rcases h with ⟨_,rfl⟩|⟨_,d,vs,rfl,h1,h2⟩
  · unfold exD Rep
    rfl
  · unfold exD Rep
    exact ⟨vs,rfl,h1,sB rs h1,h2⟩
def Ek (K:PySem.W.Frag) (mg:Str→Option Value) (hd:Hdr) (Q:VK):XK:=fun cls d H'=>∃μ S C D fs r,mg C=some (.ref D)∧cls=.ref D∧DdR K mg μ H' fs d∧hd C fs=some r∧RelS K mg μ H' S∧∀μ' H'' v,Step μ H' μ' H''→RelS K mg μ' H'' S→Rep K mg μ' H'' r v→Q v H''
def TTk (K:PySem.W.Frag) (mg:Str→Option Value) (hd:Hdr):(XK→Hp→VK→Prop)→Hp→VK→Prop:=fun tl H Q=>tl (Ek K mg hd Q) H Q
theorem qb {K:PySem.W.Frag} {mg:Str→Option Value} {μ:Mu} {H H1:Hp} {S:Sto} (rs:RelS K mg μ H S) (e:ExtN H H1) (t:Tabs (tbs K) H1):Step μ H μ H1∧RelS K mg μ H1 S:=by
  have st:Step μ H μ H1:=⟨⟨⟨⟨[],by simp⟩,fun _ h=>.inl h,fun a o h _ nt=>e a o h nt⟩,fun a _ _ h=>e a _ h fun _ z=>nomatch z⟩,rfl,fun a u _ h nt=>e a u h nt⟩
  refine ⟨st,rs.len,rs.nd,rs.dis,fun a ha=>?_,fun l o el=>?_,t⟩
  · obtain ⟨u,h1,h2⟩:=rs.hid a ha
    exact ⟨u,e a u h1 h2.ntb,h2⟩
  · obtain ⟨a,h1,h2⟩:=rs.at_ l o el
    refine ⟨a,h1,h2.step st.toStp fun u hu=>e a u hu fun ps z=>?_⟩
    subst z
    exact h2.nt hu
/-- the reading of a whole call -/
theorem t_kind {X:Cx} {W:WX} {hd:Hdr} {m:ME} {σ:L2.St} {H:Hp} {Q:VK} (h:tE X W (fG hd m) σ H Q) :
    tLam (tbs X.K) (TTk X.K X.mg hd) (fun E=>tE X (fun c d _ H=>E c d H) m) σ H Q:=by
  obtain ⟨env,S,μ,rl,o⟩:=h
  refine ⟨rl.sto.tab,fun H1 e t=>?_⟩
  obtain ⟨st,rs⟩:=qb rl.sto e t
  refine ⟨env,S,μ,⟨rl.env.step st,rs⟩,?_⟩
  have o:=Out.of_step st o
  unfold fG j3 at o
  cases hm:m env S with
  | ok d S'=>rw[hm] at o; exact o
  | stuck=>rw[hm] at o; exact o.elim
  | exc x S'=>
    rw[hm] at o
    simp only at o
    split at o
    · rename_i d e2
      intro μ' H' cls dd st' rs' rx
      obtain ⟨C,h1,h2,h3⟩:=rx
      exact ⟨μ',S',x.cls,C,x.fs,d,h1,h2,h3,e2,rs',fun μ2 H2 v s2 r2 rv=>o μ2 H2 v (st'.trans s2) r2 rv⟩
    · exact o.elim
/-- what the suite is asked -/
def tsK (K:PySem.W.Frag) (mg:Str→Option Value) (hd:Hdr) (i:Nat) (a:Addr) (cls:Value) (d:Option Addr):TS:=fun D σ H=>(∃σ0:L2.St,σ=σ0.set i (some (.ref a)))∧Ek K mg hd D.rt cls d H
theorem ol {X:Cx} {Ng:List Str} {x a e:Str} {sg:Scope} {g CS:Addr} {cdg:Value} {b₀:Stmt} {suite:List Stmt} {q:Str} {hd:Hdr} {i:Nat} {ec:Str} {sm:Str→Addr→Option Addr→MS} {p1 p2 p3 p4 p7 p8:Pos}
    (hN:Ng.Nodup) (hi:Ng[i]?=some e) (hln:sg.names.lookup e=some .local) (hge:sg.names.lookup ec=some .globalImplicit) (hme:X.mg ec=some (.ref CS)) (hde:(ec == ("__debug__":Str))=false) (h0:∀f:Addr,(L2.start Ng [V.ref f])[0]?=some (some (V.ref f)))
    (hx:∀C fs r,hd C fs=some r→∀Da,X.mg C=some (.ref Da)→PySem.W.exmOne X.K (.ref Da) (.ref CS)=some true)
    (hs:∀(s:Shared) (H:Hp) (ea Da:Addr) (oe:Obj) (pn:List (Addr × Obj)) (C:Str) (fs:List (Str × D)) (dd:Option Addr) (r:D),X.mg C=some (.ref Da)→hd C fs=some r→DdK fs dd→Zc (.ref Da) dd oe→(∃vs,oe.data=.fields vs)→
      PSs ((cxOf C8.CX0 X.prog X.w X.K X.mg X.base Ng x sg g cdg X.A X.stack s H C8.E0).nox.suite ea ((ea,oe)::pn)) (b₀::suite) (tS ((cxOf C8.CX0 X.prog X.w X.K X.mg X.base Ng x sg g cdg X.A X.stack s H C8.E0).nox.suite ea ((ea,oe)::pn)) W0 (sm C ea dd)))
    (hsem:∀C fs (ea:Addr) (dd:Option Addr) (S:Sto) r,hd C fs=some r→DdK fs dd→sm C ea dd ((List.replicate Ng.length none).set i (some (exD ea fs dd))) S=.ret r S) :
    GivesTo X Ng x sg g cdg [.Try [.Return (some (.Call (.Name a p1) [] [] p2)) p3] [.ExceptHandler (some (.Name ec p4)) (some e) (b₀::suite) p7] [] [] p8] a q (TTk X.K X.mg hd):=by
  intro f c' s H Q tl act hc h
  have hgl:Gl (cxOf C8.CX0 X.prog X.w X.K X.mg X.base Ng x sg g cdg X.A X.stack s H C8.E0).nox ec:=hge
  refine ⟨_,pss_one (ps_try_as (X:=(cxOf C8.CX0 X.prog X.w X.K X.mg X.base Ng x sg g cdg X.A X.stack s H C8.E0).nox) (c:=.ref CS) (i:=i) (ts:=tsK X.K X.mg hd i)
      (tb:=fun W D σ H=>∃Ech:XK,(∀cls d σ' H',Ech cls d H'→W cls d σ' H')∧σ[0]?=some (some (.ref f))∧H c'=some (CodeO c' q)∧tl Ech H D.rt)
      rfl rfl hN hi hln ⟨hgl,hde,.inl hme⟩ LamX.takes0 (fun W pn xe tk _=>?_) (fun ea oe cls d pn hz hf=>?_)),?_⟩
  · refine ⟨fun pins s' σ H' D I h'=>?_⟩
    obtain ⟨Ech,hW,h1,h2,h3⟩:=h'
    have hp:=act W pn xe Ech p1 p2 tk hW
    have hq:=pss_one (ps_ret (pos:=p3) hp)
    exact hq.run pins s' σ H' D I ⟨h1,h2,h3⟩
  · refine ⟨fun pins s' σ H' D I h'=>?_⟩
    obtain ⟨⟨σ0,rfl⟩,μ,S,C,Da,fs,r,m1,rfl,hdd,m4,rs,hq⟩:=h'
    have hq0:=hs s H ea Da oe pn C fs d r m1 m4 hdd.k hz hf
    have hil:i<Ng.length:=(List.getElem?_eq_some_iff.mp hi).1
    have hsl:σ0.length=Ng.length:=by
      have:=I.len
      rw[List.length_set] at this
      exact this
    refine hq0.run pins s' _ H' D I ⟨(List.replicate Ng.length none).set i (some (exD ea fs d)),S,μ,⟨⟨by simp[hsl],fun j d1 ej=>?_⟩,rs⟩,?_⟩
    · by_cases hj:j=i
      · subst hj
        rw[List.getElem?_set_self (by simpa using hil)] at ej
        cases ej
        exact ⟨.ref ea,by rw[List.getElem?_set_self (by rw[hsl]; exact hil)],hdd.rep rs ea⟩
      · rw[List.getElem?_set_ne (Ne.symm hj)] at ej
        rw[List.getElem?_replicate] at ej
        split at ej<;>cases ej
    · rw[hsem C fs ea d S r m4 hdd.k]
      exact fun μ' H'' v st rs' rv=>hq μ' H'' v st rs' rv
  · refine ⟨Ek X.K X.mg hd Q,fun cls d σ' H' he=>?_,h0 f,hc,h⟩
    obtain ⟨μ,S,C,Da,fs,r,m1,rfl,hdd,m4,rs,hq⟩:=he
    exact ⟨true,hx C fs r m4 Da m1,fun _ ea hea=>⟨⟨σ',rfl⟩,μ,S,C,Da,fs,r,m1,rfl,hdd,m4,rs,hq⟩,fun z=>by cases z⟩
end DL
namespace DL
open PySem PySem.Spec PyProof.Rows L2 LamX
/-- here lambdas may be made -/
structure LamHere (X:Cx) (p:Str × Option Str):Prop where
  tb:TabB X.base X.mg (He.cT X.K p).1 (He.cT X.K p).2
  code:X.env.code=.ref (He.cT X.K p).1
  mem:((He.cT X.K p).2,X.env.qual++"<lambda>")∈tbs X.K
  uniq:∀r∈tbs X.K,r.1=(He.cT X.K p).2→r.2=X.env.qual++"<lambda>"
theorem om {X:Cx} {K:PySem.W.Frag} {p:Str × Option Str} {x qual:Str} {params:Arguments} {body:List Stmt} {scope:Scope} {fd:FuncData} (F:FunD K x qual params body scope [] [] (He.fAd K p) fd) (hK:X.K=K) (tb:TabB X.base X.mg (He.cT K p).1 (He.cT K p).2)
    (hc:X.env.code=fd.code) (hq:X.env.qual=qual++".<locals>.") {q:Str} (mem:((He.cT K p).2,q)∈tbs K) (uniq:∀r∈tbs K,r.1=(He.cT K p).2→r.2=q) (hqq:qual++".<locals>."++"<lambda>"=q:=by decide +kernel):LamHere X p:=by
  subst hK hqq
  obtain ⟨oc,od,dV,kV,doc,pm,an,cdv,ct,osl,rfl,lk,hcd,_⟩:=F.ex
  obtain ⟨c,rfl⟩:=He.codeIn_ref hcd
  have e:=He.codeOf_eq lk (c:=c) rfl
  refine ⟨tb,?_,by rw[hq]; exact mem,fun r hr h=>by rw[hq]; exact uniq r hr h⟩
  rw[hc]
  show Value.ref c=.ref (He.codeOf X.K p)
  rw[e]
/-- a def that tells the error of what it is handed -/
structure KindF (P:Program) (w:World) (K:PySem.W.Frag) (mg:Str→Option Value) (base:Heap) (k:Nat) (x:Str) (g:Addr) (hd:Hdr):Prop where
  ex:∃(pg:Arguments) (bg:List Stmt) (sg:Scope) (dV kV doc pm cdv ct oc:Value) (an od:Option Addr) (osl:Array (Option Value)) (Ng:List Str) (a:Str),
    K.lookup g=some ⟨oc,od,.func (PySem.W.fnOf x x pg bg sg dV kV doc pm an cdv ct),osl⟩∧PySem.W.codeIn K cdv x=true∧L2.Binds K (PySem.W.fnOf x x pg bg sg dV kV doc pm an cdv ct) [a] []∧FnScope Ng [a] sg∧Ng[0]?=some a∧Vis sg a∧
    (a == ("__debug__":Str))=false∧(a == ("__classdict__":Str))=false∧
    ∀X:Cx,X.prog=P→X.w=w→X.K=K→X.mg=mg→X.base=base→Room (k+2) X.A→∀q,GivesTo X Ng x sg g cdv bg a q (TTk K mg hd)
  kp:PySem.W.keepIn K (.ref g)=true
end DL
namespace DL
open PySem PySem.Spec PyProof.Rows L2 LamX
theorem ru1 {k:Nat} {A:Around} (r:Room k A):A.units+1<cLine:=by have:=r.un; omega
theorem dk {k:Nat} {A:Around} (r:Room k A):A.units+64<cLine:=by have:=r.un; omega
theorem dm {k:Nat} {A:Around} (r:Room k A):A.units+65<cLine:=by have:=r.un; omega
/-- a def,whatever its record -/
def FnE (P:Program) (w:World) (K:PySem.W.Frag) (mg:Str→Option Value) (base:Heap) (k:Nat) (f:Addr) (ps:List Str) (m:MF):Prop:=∃fd,FnM P w K mg base k f fd ps m
theorem bE {P:Program} {w:World} {K:PySem.W.Frag} {mg:Str→Option Value} {base:Heap} {x qual:Str} {st:Stmt} {f:Addr} {fd:FuncData} {N ps:List Str} {k n:Nat} {m:MS} (F:FunD K x qual (defArgs st) (defBody st) (defScope st) [] [] f fd) (S:FnScope N ps (defScope st)) (hn:N.length - ps.length=n)
    (hb:∀(kV doc pm:Value) (an:Option Addr) (cdv ct:Value) (us:List Value),us.length=ps.length→bindArgs (PySem.W.fnOf x qual (defArgs st) (defBody st) (defScope st) .none kV doc pm an cdv ct) ⟨us,[]⟩=pure (ps.zip us))
    (hbody:∀(cdv:Value) (A:Around) (outer:List Env) (s:Shared) (H:Hp) (E:XK),fd.code=cdv→PassesOwn (model P w) (cxOf (L2N.CX P w) P w K mg base N qual (defScope st) f cdv A outer s H E).A (cxOf (L2N.CX P w) P w K mg base N qual (defScope st) f cdv A outer s H E).env (cxOf (L2N.CX P w) P w K mg base N qual (defScope st) f cdv A outer s H E).xe→
      Room k (cxOf (L2N.CX P w) P w K mg base N qual (defScope st) f cdv A outer s H E).A→∀W,Takes (cxOf (L2N.CX P w) P w K mg base N qual (defScope st) f cdv A outer s H E) W→PSs (cxOf (L2N.CX P w) P w K mg base N qual (defScope st) f cdv A outer s H E) (defBody st) (tS (cxOf (L2N.CX P w) P w K mg base N qual (defScope st) f cdv A outer s H E) W m)):FnM P w K mg base (k+1) f fd ps (bD n m):=by
  have b:Binds K fd ps []:=F.bindsN hb
  obtain ⟨oc,od,dV,kV,doc,pm,an,cdv,ct,osl,rfl,lk,hcd,_⟩:=F.ex
  refine ⟨fn_of lk hcd S (fun vs H Q E h=>uH h) (fun A outer s H vs Q E hr h=>?_),F.kp,b⟩
  refine ⟨_,hbody cdv A outer s H E rfl (passes_of rfl) hr (fun cls d _ H=>E cls d H) (takes_of rfl rfl rfl rfl),?_⟩
  obtain ⟨ds,So,μ,rs,ra,o⟩:=h
  unfold chk at o
  split at o
  · rename_i hl
    have e0:n=N.length - ds.length:=by rw[hl]; exact hn.symm
    refine ⟨ds.map some++List.replicate n none,So,μ,⟨by rw[e0]; exact oZ ra,rs⟩,?_⟩
    unfold bD at o
    cases hm:m (ds.map some++List.replicate n none) So with
    | next e S1=>rw[hm] at o; exact fun μ' H' σ' st re rs'=>o μ' H' .non st rs' jp
    | ret d S1=>rw[hm] at o; exact fun μ' H' v st rs' r=>o μ' H' v st rs' r
    | exc e v S1=>rw[hm] at o; exact fun μ' H' σ' c d st re rs' r=>o μ' H' c d st rs' r
    | brk e S1=>rw[hm] at o; exact o.elim
    | cont e S1=>rw[hm] at o; exact o.elim
    | stuck=>rw[hm] at o; exact o
  · exact o.elim
section
variable {X:Cx} {W:WX} {k:Nat} {f C:Addr} {ps:List Str} {m mi:MF} {x nm cn:Str} {p pos apos:Pos} {e o:Expr} {es:List Expr} {r:MA} {ma mv:ME}
theorem mE {i:Int} (hm:∃t,X.mg x=some (.int i t)) (hg:Gl X x:=by rfl) (hd:(x == ("__debug__":Str))=false:=by decide):PE X (.Name x pos) (tE X W (eC (.int i))):=hm.elim fun _ h=>uA hg h hd
theorem mF {i:Str} (hm:∃t,X.mg x=some (.str i t)) (hg:Gl X x:=by rfl) (hd:(x == ("__debug__":Str))=false:=by decide):PE X (.Name x pos) (tE X W (eC (.str i))):=hm.elim fun _ h=>uB hg h hd
theorem aM (F:FnE X.prog X.w X.K X.mg X.base k f ps m) (hr:Room k X.A) (hm:X.mg x=some (.ref f)) (tk:Takes X W) (ha:PA X (e::es) (tAs X W r)) (hg:Gl X x:=by rfl) (hdb:(x == ("__debug__":Str))=false:=by decide)
    (he:starEach (e::es) X.env=(false,eval e X.env)::starEach es X.env:=by rfl) (hpl:(backTo pos (starEach es X.env)).any (·.1)=false:=by rfl) :
    PE X (.Call (.Name x p) (e::es) [] pos) (tE X W (aN ps.length m r)):=F.elim fun _ F=>uJ F hr hg hm tk ha hdb he hpl
end
/-- the lambda,for a text of one's own -/
theorem pz {X:Cx} {W:WX} {k:Nat} {x:Str} {g:Addr} {hd:Hdr} {p:Str × Option Str} {params:Arguments} {body:Expr} {scope:Scope} {lpos pos ppos:Pos} {m:ME} (kf:KindF X.prog X.w X.K X.mg X.base k x g hd) (hm:X.mg x=some (.ref g)) (lh:LamHere X p) (hr:Room (k+2) X.A)
    (L:LamS X.env.scope scope)
    (hbody:∀(A:Around) (outer:List Env) (s:Shared) (H:Hp) (E:XK) (f c':Addr),Room k (lamCx X A outer s H E scope f c').A→∀W,Takes (lamCx X A outer s H E scope f c') W→PE (lamCx X A outer s H E scope f c') body (tE (lamCx X A outer s H E scope f c') W m))
    (hg:Gl X x:=by rfl) (hdef:defaultsOf params X.env=([],[]):=by rfl)
    (hbind:∀(q:Str) (cl:List (Str × Addr)) (pm cv ctv:Value),bindArgs (PySem.W.kla_fn "<lambda>" q params body scope cl pm cv ctv) ⟨[],[]⟩=pure []:=by intros; rfl)
    (hdb:(x == ("__debug__":Str))=false:=by decide):PE X (.Call (.Name x ppos) [.Lambda params body scope lpos] [] pos) (tE X W (fG hd m)):=by
  obtain ⟨pg,bg,sg,dV,kV,doc,pm,cdv,ct,oc,an,od,osl,Ng,a,lk,hcg,hb,Sg,hNg,hva,hda,hca,hG⟩:=kf.ex
  exact cB (pe_lamcall (T:=tbs X.K) (TT:=TTk X.K X.mg hd) (t:=fun E=>tE X (fun c d _ H=>E c d H) m) (c:=(He.cT X.K p).1) (P:=(He.cT X.K p).2) hg hm kf.kp lk hcg hb Sg hNg hva (hG X rfl rfl rfl rfl rfl hr _) lh.tb lh.code lh.mem lh.uniq hr L hdef hbind
    (fun A outer s H E f c' hr2=>hbody A outer s H E f c' hr2 (fun c d _ H=>E c d H) (nP (L2.takes_of rfl rfl rfl rfl))) hdb hda hca) fun σ H Q h=>t_kind h
end DL
namespace DL
open PySem PySem.Spec PyProof.Rows L2 LamX
theorem bx:bootBuiltins "len"=some (.builtin "len"):=by decide +kernel
theorem aG:bootBuiltins "isinstance"=some (.builtin "isinstance"):=by decide +kernel
theorem mG:bootBuiltins "all"=some (.builtin "all"):=by decide +kernel
theorem io:bootBuiltins "int"=some (.type "int"):=by decide +kernel
theorem jf:bootBuiltins "bool"=some (.type "bool"):=by decide +kernel
theorem gB:bootBuiltins "str"=some (.type "str"):=by decide +kernel
theorem bT:bootBuiltins "tuple"=some (.type "tuple"):=by decide +kernel
theorem gU:bootBuiltins "list"=some (.type "list"):=by decide +kernel
theorem kj:bootBuiltins "ValueError"=some (.type "ValueError"):=by decide +kernel
theorem gX {X:Cx} {W:WX} {ss:List Stmt}:PSs X ss (tS X W eA):=⟨fun _ _ _ _ _ _ ⟨_,_,_,_,o⟩=>o.elim⟩
/-- what isinstance tells of an error of the class C -/
def ktK (C:Str):D→Option Bool
  | .glo y=>if kinds.contains y=true then some (decide (y=C)) else none
  | .ty n=>if n="ValueError" then some true else none
  | _=>none
/-- what is told of an error -/
def hdOf (cs:List Str):Hdr:=fun C fs=>if cs.contains C=true∧fs.map (·.1)=dX C then some (if fs=[] then .str C else .tup (.str C::(fs.map (·.2)).reverse)) else none
/-- what the head tells of the classes cs -/
structure oo (K:PySem.W.Frag) (mg:Str→Option Value) (cs:List Str):Prop where
  gl:∀y∈kinds,mg y=some (.ref (He.ga K y))
  air:mg "AirError"=some (.ref (He.ga K "AirError"))
  kit:∀C∈cs,∀y∈kinds,PySem.W.kitOne K (.ref (He.ga K C)) (.ref (He.ga K y))=some (decide (y=C))
  val:∀C∈cs,PySem.W.kitOne K (.ref (He.ga K C)) (.type "ValueError")=some true
  exm:∀C∈cs,PySem.W.exmOne K (.ref (He.ga K C)) (.ref (He.ga K "AirError"))=some true
  exc:∀C∈cs,ExcC K (He.ga K C)
  sub:∀C∈cs,C∈kinds
  fld:∀C∈cs,∀n∈dX C,PySem.W.findIn K (.ref (He.ga K C)) n=some none
theorem hk_of {K:PySem.W.Frag} {mg:Str→Option Value} {cs:List Str} (F:oo K mg cs) {C:Str} (hC:C∈cs):∀c b,ktK C c=some b→∃cv,PySem.W.kitOne K (.ref (He.ga K C)) cv=some b∧∀(μ:Mu) (H:Hp) (v:V),Rep K mg μ H c v→∀u,L2.RelV v u→u=cv:=by
  intro c b e
  cases c with
  | glo y=>
    unfold ktK at e
    dsimp only at e
    split at e
    · rename_i hy
      have hy:y∈kinds:=List.contains_iff_mem.mp hy
      cases e
      refine ⟨_,F.kit C hC y hy,fun μ H v r u ru=>?_⟩
      unfold Rep at r
      obtain ⟨a,rfl,ha⟩:=r
      rw[F.gl y hy] at ha
      cases ha
      exact ru
    · cases e
  | ty n=>
    unfold ktK at e
    dsimp only at e
    split at e
    · rename_i hn
      subst hn
      cases e
      refine ⟨_,F.val C hC,fun μ H v r u ru=>?_⟩
      unfold Rep at r
      subst r
      exact ru
    · cases e
  | _=>cases e
theorem sC {P:Program} {w:World} {H:Hp} {s:Shared} {e:Value} {s':Shared} (h:L2N.CX P w [] H s (fun _ _ _=>False) e s'):False:=by
  obtain ⟨_,_,_,_,_,_,_,_,_,_,_,_,z⟩:=h
  exact z.elim
theorem jK {K:PySem.W.Frag} {mg:Str→Option Value} {μ:Mu} {H:Hp}:∀ns:List Int,RepAll K mg μ H (ns.map .int) (ns.map V.int)
  | []=>.nil
  | n::ns=>.cons (bA n) (jK ns)
/-- where the law begins -/
theorem sD {K:PySem.W.Frag} {mg:Str→Option Value} {H:Hp} {a:Addr} {ns:List Int} {m:MF} (hS:SqL K H a (ns.map V.int)) (hT:∀p∈tbs K,H p.1=some (.tbl #[])) (hL:∃S,m [.ro (ns.map .int)] []=.ok (.bool true) S):spD K mg 1 m [.ref a] H (fun v _=>v=.bl true) fun _ _ _=>False:=by
  obtain ⟨S,hL⟩:=hL
  have nm:∀b:Addr,b∉(⟨[],[]⟩:Mu):=fun b z=>z.elim (fun z=>nomatch z) fun z=>nomatch z
  refine ⟨[.ro (ns.map .int)],[],⟨[],[]⟩,⟨rfl,List.nodup_nil,(fun _ h=>by cases h),(fun _ h=>by cases h),(fun l o e=>by simp at e),fun p hp=>TabS.nil (hT p hp)⟩,.cons ?_ .nil,?_⟩
  · unfold Rep
    refine ⟨a,ns.map V.int,rfl,?_,jK ns⟩
    rcases hS with h|h
    · exact .inl ⟨h,nm a⟩
    · exact .inr (.inr h)
  · have e:chk 1 m [.ro (ns.map .int)] []=.ok (.bool true) S:=by
      unfold chk
      exact hL
    rw[e]
    intro μ' H' v st rs r
    have r:Rep K mg μ' H' (.bool true) v:=r
    unfold Rep at r
    exact r
theorem uN {K:PySem.W.Frag} {D:Addr} (h:excB K D=true):ExcC K D:=by
  unfold excB at h
  simp only[Bool.and_eq_true,decide_eq_true_eq] at h
  obtain ⟨⟨⟨⟨⟨⟨⟨h1,h2⟩,h3⟩,h4⟩,h5⟩,h6⟩,h7⟩,h8⟩:=h
  exact ⟨He.eqO_ok h1,He.eqO_ok h2,h3,h4,He.eqO_ok h5,He.eqO_ok h6,h7,h8⟩
theorem lG {K:PySem.W.Frag} (h:oR K=true):(∀p∈lamDefs,((He.cT K p.1).2,p.2)∈tbs K)∧∀p∈lamDefs,∀r∈tbs K,r.1=(He.cT K p.1).2→r.2=p.2:=by
  refine ⟨fun p hp=>List.mem_map.mpr ⟨p,hp,rfl⟩,fun p hp r hr e=>?_⟩
  unfold oR at h
  simp only[List.all_eq_true,Bool.or_eq_true,Bool.not_eq_true',decide_eq_false_iff_not,decide_eq_true_eq] at h
  rcases h p hp r hr with z|z
  · exact absurd e z
  · exact z
theorem qc {K:PySem.W.Frag} {h:Heap} {mg:Str→Option Value} {cs:List Str} (X:K.In h) (G:h.Ns mainGlobals mg) (hx:lq K cs=true) (h1:∀y∈kinds,(He.Fa.glo y).ok K=true) (h2:(He.Fa.glo "AirError").ok K=true) (h3:∀C∈cs,(He.Fa.exm C "AirError" true).ok K=true):oo K mg cs:=by
  unfold lq at hx
  simp only[List.all_eq_true,Bool.and_eq_true,decide_eq_true_eq] at hx
  exact ⟨fun y hy=>He.glo_ok X G (h1 y hy),He.glo_ok X G h2,fun C hC y hy=>(hx C hC).1.1.1.2 y hy,fun C hC=>(hx C hC).1.1.2,fun C hC=>He.exm_ok (h3 C hC),fun C hC=>uN (hx C hC).1.2,fun C hC=>List.contains_iff_mem.mp (hx C hC).1.1.1.1,fun C hC n hn=>He.eqO_ok ((hx C hC).2 n hn)⟩
end DL
namespace DL
open PySem PySem.Spec PyProof.Rows L2 LamX
@[simp] theorem bind_ok {α β:Type} (a:α) (S:Sto) (f:α→Sto→Res β):Res.bind (.ok a S) f=f a S:=rfl
@[simp] theorem bind_exc {α β:Type} (e:XV) (S:Sto) (f:α→Sto→Res β):Res.bind (.exc e S) f=.exc e S:=rfl
@[simp] theorem bind_stuck {α β:Type} (f:α→Sto→Res β):Res.bind (.stuck:Res α) f=.stuck:=rfl
@[simp] theorem fH {α β:Type} (a:α) (S:Sto) (f:α→Sto→Res β):Res.bindS (.ok a S) f=f a S:=rfl
@[simp] theorem bindS_exc {α β:Type} (e:XV) (S:Sto) (f:α→Sto→Res β):Res.bindS (.exc e S) f=.stuck:=rfl
@[simp] theorem vF {α β:Type} (f:α→Sto→Res β):Res.bindS (.stuck:Res α) f=.stuck:=rfl
@[simp] theorem rs_ok {α:Type} (env:En) (a:α) (S:Sto) (k:α→Sto→RS):Res.rs env (.ok a S) k=k a S:=rfl
@[simp] theorem rs_exc {α:Type} (env:En) (e:XV) (S:Sto) (k:α→Sto→RS):Res.rs env (.exc e S) k=.exc e env S:=rfl
@[simp] theorem rs_stuck {α:Type} (env:En) (k:α→Sto→RS):Res.rs env (.stuck:Res α) k=.stuck:=rfl
@[simp] theorem then_next (e:En) (S:Sto) (k:MS):RS.andThen (.next e S) k=k e S:=rfl
@[simp] theorem then_brk (e:En) (S:Sto) (k:MS):RS.andThen (.brk e S) k=.brk e S:=rfl
@[simp] theorem then_cont (e:En) (S:Sto) (k:MS):RS.andThen (.cont e S) k=.cont e S:=rfl
@[simp] theorem then_ret (d:D) (S:Sto) (k:MS):RS.andThen (.ret d S) k=.ret d S:=rfl
@[simp] theorem then_exc (x:XV) (e:En) (S:Sto) (k:MS):RS.andThen (.exc x e S) k=.exc x e S:=rfl
@[simp] theorem then_stuck (k:MS):RS.andThen .stuck k=.stuck:=rfl
@[simp] theorem ofO_some {α:Type} (S:Sto) (a:α):ofO S (some a)=.ok a S:=rfl
@[simp] theorem ofO_none {α:Type} (S:Sto):ofO S (none:Option α)=.stuck:=rfl
@[simp] theorem ofG_some (p:En × Sto):ofG (some p)=.next p.1 p.2:=rfl
@[simp] theorem ofG_none:ofG none=.stuck:=rfl
@[simp] theorem vt_none  : vt (.none)=.none:=rfl
@[simp] theorem view0_none (S:Sto)  : view0 S (.none)=.none:=rfl
@[simp] theorem view_none (S:Sto)  : view S (.none)=.none:=rfl
@[simp] theorem vt_bool (b:Bool):vt (.bool b)=.bool b:=rfl
@[simp] theorem view0_bool (S:Sto) (b:Bool):view0 S (.bool b)=.bool b:=rfl
@[simp] theorem view_bool (S:Sto) (b:Bool):view S (.bool b)=.bool b:=rfl
@[simp] theorem vt_int (b:Int):vt (.int b)=.int b:=rfl
@[simp] theorem view0_int (S:Sto) (b:Int):view0 S (.int b)=.int b:=rfl
@[simp] theorem view_int (S:Sto) (b:Int):view S (.int b)=.int b:=rfl
@[simp] theorem vt_str (b:Str):vt (.str b)=.str b:=rfl
@[simp] theorem view0_str (S:Sto) (b:Str):view0 S (.str b)=.str b:=rfl
@[simp] theorem view_str (S:Sto) (b:Str):view S (.str b)=.str b:=rfl
@[simp] theorem vt_ty (b:String):vt (.ty b)=.ty b:=rfl
@[simp] theorem view0_ty (S:Sto) (b:String):view0 S (.ty b)=.ty b:=rfl
@[simp] theorem view_ty (S:Sto) (b:String):view S (.ty b)=.ty b:=rfl
@[simp] theorem vt_tup (b:List D):vt (.tup b)=.tup b:=rfl
@[simp] theorem view0_tup (S:Sto) (b:List D):view0 S (.tup b)=.tup b:=rfl
@[simp] theorem view_tup (S:Sto) (b:List D):view S (.tup b)=.tup b:=rfl
@[simp] theorem vt_lst (b:List D):vt (.lst b)=.lst b:=rfl
@[simp] theorem view0_lst (S:Sto) (b:List D):view0 S (.lst b)=.lst b:=rfl
@[simp] theorem view_lst (S:Sto) (b:List D):view S (.lst b)=.lst b:=rfl
@[simp] theorem vt_ro (b:List D):vt (.ro b)=.ro b:=rfl
@[simp] theorem view0_ro (S:Sto) (b:List D):view0 S (.ro b)=.ro b:=rfl
@[simp] theorem view_ro (S:Sto) (b:List D):view S (.ro b)=.ro b:=rfl
@[simp] theorem vt_glo (b:Str):vt (.glo b)=.glo b:=rfl
@[simp] theorem view0_glo (S:Sto) (b:Str):view0 S (.glo b)=.glo b:=rfl
@[simp] theorem view_glo (S:Sto) (b:Str):view S (.glo b)=.glo b:=rfl
@[simp] theorem vt_adr (b:Addr):vt (.adr b)=.adr b:=rfl
@[simp] theorem view0_adr (S:Sto) (b:Addr):view0 S (.adr b)=.adr b:=rfl
@[simp] theorem view_adr (S:Sto) (b:Addr):view S (.adr b)=.adr b:=rfl
@[simp] theorem vt_exn (a b:Addr) (ns:List Str) (xs:List D):vt (.exn a b ns xs)=.exn a b ns xs:=rfl
@[simp] theorem view0_exn (S:Sto) (a b:Addr) (ns:List Str) (xs:List D):view0 S (.exn a b ns xs)=.exn a b ns xs:=rfl
@[simp] theorem view_exn (S:Sto) (a b:Addr) (ns:List Str) (xs:List D):view S (.exn a b ns xs)=.exn a b ns xs:=rfl
@[simp] theorem vt_tpn (b:List D):vt (.tpn b)=.tup b:=rfl
@[simp] theorem vt_loc (l:Nat):vt (.loc l)=.loc l:=rfl
@[simp] theorem view0_tpn (S:Sto) (b:List D):view0 S (.tpn b)=.tpn b:=rfl
@[simp] theorem view_tpn (S:Sto) (b:List D):view S (.tpn b)=.tup b:=rfl
@[simp] theorem view0_loc (S:Sto) (l:Nat):view0 S (.loc l)=match S[l]? with
  | some (.lst xs)=>.lst xs
  | _=>.loc l:=rfl
@[simp] theorem view_loc (S:Sto) (l:Nat):view S (.loc l)=vt (match S[l]? with
  | some (.lst xs)=>.lst xs
  | _=>.loc l):=rfl
@[simp] theorem eBin_at (f:Sto→D→D→Option D) (ma mb:ME) (env:En) (S:Sto):aJ f ma mb env S=(ma env S).bind fun a S=>(mb env S).bind fun b S=>ofO S (f S a b):=rfl
@[simp] theorem tOf_at (m:ME) (env:En) (S:Sto):tOf m env S=(m env S).bind fun d S=>match d with
  | .bool b=>.ok b S
  | _=>.stuck:=rfl
@[simp] theorem pNo_at (x0:En) (S:Sto):pNo  x0 S=.ok none S:=rfl
@[simp] theorem pSome_at (m:ME) (env:En) (S:Sto):cR m env S=(m env S).bind fun d S=>match d with
  | .int i=>.ok (some i) S
  | _=>.stuck:=rfl
@[simp] theorem eCut_at (m:ME) (ml mh:MP) (env:En) (S:Sto):fm m ml mh env S=(m env S).bind fun d S=>(ml env S).bind fun lo S=>(mh env S).bind fun hi S=>ofO S (jV (view0 S d) lo hi):=rfl
@[simp] theorem eC_at (d:D) (x0:En) (S:Sto):eC d x0 S=.ok d S:=rfl
@[simp] theorem eV_at (i:Nat) (env:En) (S:Sto):eV i env S=match env[i]? with
  | some (some d)=>.ok d S
  | _=>.stuck:=rfl
@[simp] theorem tTru_at (m:ME) (env:En) (S:Sto):cI m env S=(m env S).bind fun d S=>ofO S (eP S d):=rfl
@[simp] theorem tAndM_at (ma mb:MT) (env:En) (S:Sto):pi ma mb env S=(ma env S).bind fun c S=>if c=true then mb env S else .ok false S:=rfl
@[simp] theorem tOrM_at (ma mb:MT) (env:En) (S:Sto):eq ma mb env S=(ma env S).bind fun c S=>if c=true then .ok true S else mb env S:=rfl
@[simp] theorem tNotM_at (ma:MT) (env:En) (S:Sto):bi ma env S=(ma env S).bind fun c S=>.ok (!c) S:=rfl
@[simp] theorem eAnd_at (ma mb:ME) (env:En) (S:Sto):fz ma mb env S=(ma env S).bind fun d S=>(ofO S (eP S d)).bind fun c S=>if c=true then mb env S else .ok d S:=rfl
@[simp] theorem eOr_at (ma mb:ME) (env:En) (S:Sto):eOr ma mb env S=(ma env S).bind fun d S=>(ofO S (eP S d)).bind fun c S=>if c=true then .ok d S else mb env S:=rfl
@[simp] theorem eNot_at (ma:ME) (env:En) (S:Sto):eNot ma env S=(ma env S).bind fun d S=>(ofO S (eP S d)).bind fun c S=>.ok (.bool (!c)) S:=rfl
@[simp] theorem eIf_at (tc:MT) (ma mb:ME) (env:En) (S:Sto):eIf tc ma mb env S=(tc env S).bind fun c S=>if c=true then ma env S else mb env S:=rfl
@[simp] theorem eNeg_at (ma:ME) (env:En) (S:Sto):eNeg ma env S=(ma env S).bind fun d S=>match d with
  | .int i=>.ok (.int (-i)) S
  | _=>.stuck:=rfl
@[simp] theorem eChain_at (f g:Sto→D→D→Option D) (ma mb mc:ME) (env:En) (S:Sto):f7 f g ma mb mc env S=(ma env S).bind fun a S=>(mb env S).bind fun b S=>match f S a b with
  | some (.bool true)=>(mc env S).bind fun c S=>ofO S (g S b c)
  | some (.bool false)=>.ok (.bool false) S
  | _=>.stuck:=rfl
@[simp] theorem aNil_at (x0:En) (S:Sto):aE  x0 S=.ok [] S:=rfl
@[simp] theorem aCons_at (m:ME) (r:MA) (env:En) (S:Sto):aB m r env S=(m env S).bind fun d S=>(r env S).bind fun ds S=>.ok (d::ds) S:=rfl
@[simp] theorem eTup_at (r:MA) (env:En) (S:Sto):bB r env S=(r env S).bind fun ds S=>if ds.length≤1000000 then .ok (.tup ds) S else .stuck:=rfl
@[simp] theorem eLst_at (r:MA) (env:En) (S:Sto):cS r env S=(r env S).bind fun ds S=>if ds.length≤1000000 then .ok (.lst ds) S else .stuck:=rfl
@[simp] theorem eLstM_at (r:MA) (env:En) (S:Sto):iB r env S=(r env S).bind fun ds S=>if ds.length≤1000000 then .ok (.loc S.length) (S++[.lst ds]) else .stuck:=rfl
@[simp] theorem eDct_at (t:Bool) (x0:En) (S:Sto):eDct t x0 S=.ok (.loc S.length) (S++[.dct t []]):=rfl
@[simp] theorem sNil_at (env:En) (S:Sto):bQ  env S=.next env S:=rfl
@[simp] theorem sSeq_at (a b:MS) (env:En) (S:Sto):aO a b env S=(a env S).andThen b:=rfl
@[simp] theorem sExpr_at (m:ME) (env:En) (S:Sto):fB m env S=(m env S).rs env fun _ S=>.next env S:=rfl
@[simp] theorem sRet_at (m:ME) (env:En) (S:Sto):aq m env S=(m env S).rs env fun d S=>.ret d S:=rfl
@[simp] theorem sRetN_at (x0:En) (S:Sto):sRetN  x0 S=.ret .none S:=rfl
@[simp] theorem sBreak_at (env:En) (S:Sto):rY  env S=.brk env S:=rfl
@[simp] theorem sCont_at (env:En) (S:Sto):sCont  env S=.cont env S:=rfl
@[simp] theorem sStuck_at (x0:En) (x1:Sto):eA  x0 x1=.stuck:=rfl
@[simp] theorem eStuck_at (x0:En) (x1:Sto):rZ  x0 x1=.stuck:=rfl
@[simp] theorem sE (tc:MT) (a b:MS) (env:En) (S:Sto):sIf tc a b env S=(tc env S).rs env fun c S=>if c=true then a env S else b env S:=rfl
@[simp] theorem gV_at (i:Nat) (d:D) (env:En) (S:Sto):gV i d env S=some (env.set i (some d),S):=rfl
@[simp] theorem gsNil_at (ds:List D) (env:En) (S:Sto):cz  ds env S=match ds with
  | []=>some (env,S)
  | _=>none:=rfl
@[simp] theorem gsCons_at (g:MG) (gs:MGs) (ds:List D) (env:En) (S:Sto):ar g gs ds env S=match ds with
  | d::ds=>(g d env S).bind fun p=>gs ds p.1 p.2
  | []=>none:=rfl
@[simp] theorem sF (n:Nat) (gs:MGs) (d:D) (env:En) (S:Sto):cp n gs d env S=match vt d with
  | .tup ds=>if ds.length=n then gs ds env S else none
  | _=>none:=rfl
@[simp] theorem sAsg_at (m:ME) (g:MG) (env:En) (S:Sto):nI m g env S=(m env S).rs env fun d S=>ofG (g d env S):=rfl
@[simp] theorem sPar_at (i j:Nat) (r:MA) (env:En) (S:Sto):sPar i j r env S=(r env S).rs env fun ds S=>match ds with
  | [a,b]=>.next ((env.set i (some a)).set j (some b)) S
  | _=>.stuck:=rfl
@[simp] theorem sSet_at (i:Nat) (m:ME) (env:En) (S:Sto):ao i m env S=(m env S).rs env fun d S=>.next (env.set i (some d)) S:=rfl
@[simp] theorem sAug_at (i:Nat) (f:Sto→D→D→Option D) (m:ME) (env:En) (S:Sto):sAug i f m env S=match env[i]? with
  | some (some a)=>(m env S).rs env fun b S=>match f S a b with
    | some d=>.next (env.set i (some d)) S
    | none=>.stuck
  | _=>.stuck:=rfl
@[simp] theorem iAny_at (m:ME) (env:En) (S:Sto):dj m env S=(m env S).bind fun d S=>ofO S (cJ S d):=rfl
@[simp] theorem iRng1D_at (r:MA) (env:En) (S:Sto):c7 r env S=(r env S).bind fun ds S=>match ds with
  | [.int j]=>if a5 j then .ok (.items (ij 0 j.toNat)) S else .stuck
  | _=>.stuck:=rfl
@[simp] theorem iRng2D_at (r:MA) (env:En) (S:Sto):rh r env S=(r env S).bind fun ds S=>match ds with
  | [.int i,.int j]=>if a5 i&&a5 j then .ok (.items (ij i (j - i).toNat)) S else .stuck
  | _=>.stuck:=rfl
@[simp] theorem qd (r:MA) (env:En) (S:Sto):fX r env S=(r env S).bind fun ds S=>match ds.map vt with
  | [.tup xs]=>.ok (.items (cC 0 xs)) S
  | [.lst xs]=>.ok (.items (cC 0 xs)) S
  | [.loc l]=>match S[l]? with
    | some (.lst _)=>.ok (.liveE l) S
    | _=>.stuck
  | _=>.stuck:=rfl
@[simp] theorem iZipD_at (r:MA) (env:En) (S:Sto):iZipD r env S=(r env S).bind fun ds S=>match ds.map vt with
  | [.tup xs,.tup ys]=>.ok (.items (cU xs ys)) S
  | [.lst xs,.lst ys]=>.ok (.items (cU xs ys)) S
  | _=>.stuck:=rfl
@[simp] theorem iJ (mi:MI) (g:MG) (b:MS) (env:En) (S:Sto):eR mi g b env S=(mi env S).rs env fun it S=>match it with
  | .items ds=>dI g b ds env S
  | .live l=>fC g b l (eQ S l+1) 0 env S
  | .liveE l=>fD g b l (eQ S l+1) 0 env S:=rfl
@[simp] theorem compR_at (mi:MI) (g:MG) (tc:MT) (m:ME) (vs:List Nat) (env:En) (S:Sto):gn mi g tc m vs env S=(mi env S).bind fun it S=>match it with
  | .items ds=>cr g tc m (bn env vs) ds [] S
  | .live l=>jy g tc m (bn env vs) l (eQ S l+1) 0 [] S
  | .liveE l=>jz g tc m (bn env vs) l (eQ S l+1) 0 [] S:=rfl
@[simp] theorem eComp_at (mi:MI) (g:MG) (tc:MT) (m:ME) (vs:List Nat) (env:En) (S:Sto):cD mi g tc m vs env S=(gn mi g tc m vs env S).bind fun ds S=>.ok (.lst ds) S:=rfl
@[simp] theorem eCompM_at (mi:MI) (g:MG) (tc:MT) (m:ME) (vs:List Nat) (env:En) (S:Sto):rj mi g tc m vs env S=(gn mi g tc m vs env S).bind fun ds S=>.ok (.loc S.length) (S++[.lst ds]):=rfl
@[simp] theorem tYesM_at (x0:En) (S:Sto):bv  x0 S=.ok true S:=rfl
@[simp] theorem chk_at (n:Nat) (m:MF) (ds:List D) (S:Sto):chk n m ds S=if ds.length=n then m ds S else .stuck:=rfl
@[simp] theorem sG (n:Nat) (m:MS) (ds:List D) (S:Sto):bD n m ds S=match m (ds.map some++List.replicate n none) S with
  | .next _ S=>.ok .none S
  | .ret d S=>.ok d S
  | .exc e _ S=>.exc e S
  | _=>.stuck:=rfl
@[simp] theorem eCall_at (n:Nat) (m:MF) (r:MA) (env:En) (S:Sto):aN n m r env S=(r env S).bind fun ds S=>chk n m ds S:=rfl
@[simp] theorem eMeth_at (cn nm:Str) (n:Nat) (m:MF) (ma:ME) (r:MA) (env:En) (S:Sto):eMeth cn nm n m ma r env S=(ma env S).bind fun d S=>match d with
  | .loc l=>match S[l]? with
    | some (.ins C fs)=>if C=cn∧(fs.map (·.1)).contains nm=false then (r env S).bind fun ds S=>chk n m (.loc l::ds) S else .stuck
    | _=>.stuck
  | _=>.stuck:=rfl
@[simp] theorem eMake_at (cn:Str) (n:Nat) (mi:MF) (r:MA) (env:En) (S:Sto):eMake cn n mi r env S=(r env S).bind fun ds S=>(chk n mi (.loc S.length::ds) (S++[.ins cn []])).bind fun d S'=>match d with
  | .none=>.ok (.loc S.length) S'
  | _=>.stuck:=rfl
@[simp] theorem eFld_at (cn f:Str) (ma:ME) (env:En) (S:Sto):eFld cn f ma env S=(ma env S).bind fun d S=>match d with
  | .loc l=>match S[l]? with
    | some (.ins C fs)=>if C=cn then ofO S (fs.lookup f) else .stuck
    | _=>.stuck
  | _=>.stuck:=rfl
@[simp] theorem sFldM_at (cn f:Str) (ma mv:ME) (env:En) (S:Sto):sFldM cn f ma mv env S=(mv env S).rs env fun d S=>(ma env S).rs env fun o S=>match o with
  | .loc l=>match S[l]? with
    | some (.ins C fs)=>if C=cn∧fs.length<1000 then .next env (S.set l (.ins C (l5 f d fs))) else .stuck
    | _=>.stuck
  | _=>.stuck:=rfl
@[simp] theorem eB_at (f:BF) (r:MA) (env:En) (S:Sto):eB f r env S=(r env S).bind fun ds S=>ofO S (f S ds):=rfl
@[simp] theorem eM_at (ok:Sto→D→Bool) (f:BM) (ma:ME) (r:MA) (env:En) (S:Sto):eM ok f ma r env S=(ma env S).bind fun d S=>if ok S d then (r env S).bind fun ds S=>match f S d ds with
  | some p=>.ok p.1 p.2
  | none=>.stuck else .stuck:=rfl
@[simp] theorem gSubM_at (mo mi:ME) (v:D) (env:En) (S:Sto):j2 mo mi v env S=match mo env S with
  | .ok o S=>match mi env S with
    | .ok i S=>(dZ S o i v).map fun S=>(env,S)
    | _=>none
  | _=>none:=rfl
@[simp] theorem eRev_at (m:ME) (env:En) (S:Sto):eRev m env S=(m env S).bind fun d S=>match view S d with
  | .lst xs=>.ok (.lst xs.reverse) S
  | _=>.stuck:=rfl
@[simp] theorem eDictP_at (r:MA) (env:En) (S:Sto):r6 r env S=(r env S).bind fun ds S=>match ds with
  | [.tpn xs]=>match gS xs with
    | some ps=>if xs.length≤1000000 then .ok (.loc S.length) (S++[.dct false (cQ [] ps)]) else .stuck
    | none=>.stuck
  | _=>.stuck:=rfl
@[simp] theorem eDComp_at (mi:MI) (g:MG) (tc:MT) (mk mv:ME) (vs:List Nat) (env:En) (S:Sto):r7 mi g tc mk mv vs env S=(mi env S).bind fun it S=>match it with
  | .items ds=>(mC g tc mk mv (bn env vs) ds [] S).bind kD
  | .live _=>.stuck
  | .liveE _=>.stuck:=rfl
@[simp] theorem sRaise_at (C:Str) (env:En) (S:Sto):r8 C env S=.exc ⟨C,[]⟩ env S:=rfl
@[simp] theorem eKind_at (hd:Hdr) (m:ME) (env:En) (S:Sto):fG hd m env S=j3 hd (m env S):=rfl
@[simp] theorem kD_at (kvs:List (D × D)) (S:Sto):kD kvs S=.ok (.loc S.length) (S++[.dct false kvs]):=rfl
@[simp] theorem lv_at (f:D→D→Option D) (S:Sto) (a b:D):lv f S a b=f (view S a) (view S b):=rfl
@[simp] theorem lv0_at (f:D→D→Option D) (S:Sto) (a b:D):lv0 f S a b=f (view0 S a) (view0 S b):=rfl
@[simp] theorem oI_at (g:Int→Int→Int) (i j:Int):oI g (.int i) (.int j)=some (.int (g i j)):=rfl
@[simp] theorem oIC_at (C:Int→Int→Bool) (g:Int→Int→Int) (i j:Int):oIC C g (.int i) (.int j)=if C i j then some (.int (g i j)) else none:=rfl
@[simp] theorem oIB_at (g:Int→Int→Bool) (i j:Int):oIB g (.int i) (.int j)=some (.bool (g i j)):=rfl
@[simp] theorem dAdd_int (i j:Int):am (.int i) (.int j)=some (.int (i+j)):=rfl
@[simp] theorem dAdd_str (x y:Str):am (.str x) (.str y)=if x.length+y.length≤1000000 then some (.str (x++y)) else none:=rfl
@[simp] theorem dAdd_tup (xs ys:List D):am (.tup xs) (.tup ys)=if xs.length+ys.length≤1000000 then some (.tup (xs++ys)) else none:=rfl
@[simp] theorem gD (xs ys:List D):am (.lst xs) (.lst ys)=if xs.length+ys.length≤1000000 then some (.lst (xs++ys)) else none:=rfl
@[simp] theorem aU (a b:D):dEq a b=if dok 60 a&&dok 60 b then some (.bool (peq a b)) else none:=rfl
@[simp] theorem a6 (a b:D):dNe a b=if dok 60 a&&dok 60 b then some (.bool (!peq a b)) else none:=rfl
@[simp] theorem fIn_at (S:Sto) (a b:D):fIn S a b=(dIn S a b).map .bool:=rfl
@[simp] theorem fNotIn_at (S:Sto) (a b:D):fU S a b=(dIn S a b).map fun c=>.bool (!c):=rfl
@[simp] theorem dIsN_at (a:D):dIsN a .none=some (.bool (isN a)):=rfl
@[simp] theorem dIsntN_at (a:D):fq a .none=some (.bool (!isN a)):=rfl
end DL
namespace DL
open PySem PySem.Spec PyProof.Rows L2 LamX
theorem uO {fs:List (Str × D)} {dd:Option Addr} (h:fs≠[]) (k:DdK fs dd):∃d,dd=some d:=by
  rcases k with ⟨k,_⟩|⟨_,k⟩
  · exact absurd k h
  · exact k
theorem sH {fs:List (Str × D)} {dd:Option Addr} {a:Str} (h:fs.map (·.1)=[a]) (k:DdK fs dd):∃x d,fs=[(a,x)]∧dd=some d:=by
  match fs,h with
  | [(b,x)],h=>
    obtain rfl:b=a:=by simpa using h
    obtain ⟨d,rfl⟩:=uO (by simp) k
    exact ⟨x,d,rfl,rfl⟩
theorem aa {a b:MS} {env env':En} {S S':Sto} {r:RS} (h:a env S=.next env' S') (h2:b env' S'=r):aO a b env S=r:=by
  unfold aO; rw[h]; exact h2
theorem p0 {ea:Addr} {dd:Option Addr} {fs:List (Str × D)} {kt:D→Option Bool} {c:D} {b:Bool} {env:En} {S:Sto} (h:env[1]?=some (some (exD ea fs dd))) (hk:kt c=some b):eB (cV ea dd kt) (aB (eV 1) (aB (eC c) aE)) env S=.ok (.bool b) S:=by
  cases dd<;>simp[eB,aB,eV,h,cV,hk,exD]
theorem sJ {ea:Addr} {dd:Option Addr} {fs0:List (Str × D)} {kt:D→Option Bool} {c:D} {b:Bool} {env:En} {S:Sto} {r:MA} {ds:List D} (h:env[1]?=some (some (exD ea fs0 dd))) (hk:kt c=some b) (hr:r env S=.ok ds S):aB (eB (cV ea dd kt) (aB (eV 1) (aB (eC c) aE))) r env S=.ok (.bool b::ds) S:=by
  show Res.bind (eB (cV ea dd kt) (aB (eV 1) (aB (eC c) aE)) env S) _=_
  rw[p0 h hk]
  show Res.bind (r env S) _=_
  rw[hr]
  rfl
theorem al {C y:Str} {ea:Addr} {dd:Option Addr} {fs0:List (Str × D)} {env:En} {S:Sto} {r:MA} {ds:List D} (h:env[1]?=some (some (exD ea fs0 dd))) (hk:kinds.contains y=true) (hr:r env S=.ok ds S):aB (eB (cV ea dd (ktK C)) (aB (eV 1) (aB (eC (.glo y)) aE))) r env S=.ok (.bool (decide (y=C))::ds) S:=
  sJ h (by unfold ktK; simp only[hk,if_true]) hr
theorem p9 {i:Nat} {r:MA} {env:En} {S:Sto} {ds:List D} (h:r env S=.ok ds S) (hl:ds.length≤1000000):ao i (cS r) env S=.next (env.set i (some (.lst ds))) S:=by
  simp[ao,cS,h,hl,Res.rs]
theorem cb {i j:Nat} {r:MA} {env:En} {S:Sto} {ds xs:List D} (hj:env[j]?=some (some (.lst xs))) (h:r env S=.ok ds S) (hl:ds.length≤1000000) (hl2:xs.length+ds.length≤1000000):ao i (aJ (lv0 am) (eV j) (cS r)) env S=.next (env.set i (some (.lst (xs++ds)))) S:=by
  simp[ao,aJ,eV,cS,h,hl,hj,hl2,Res.rs]
theorem set_c {i:Nat} {d:D} {env:En} {S:Sto}:ao i (eC d) env S=.next (env.set i (some d)) S:=rfl
theorem jg {i j:Nat} {x y:Str} {env:En} {S:Sto} (hj:env[j]?=some (some (.str x))) (hl:decide (x.length+y.length≤1000000)=true):ao i (aJ (lv0 am) (eV j) (eC (.str y))) env S=.next (env.set i (some (.str (x++y)))) S:=by
  have hl:=of_decide_eq_true hl
  simp[ao,aJ,eV,hj,hl,Res.rs]
theorem nU {ea:Addr} {dd:Option Addr} {fs0:List (Str × D)} {kt:D→Option Bool} {c:D} {env:En} {S:Sto} (h:env[1]?=some (some (exD ea fs0 dd))) (hk:kt c=some true):bi (cI (eB (cV ea dd kt) (aB (eV 1) (aB (eC c) aE)))) env S=.ok false S:=by
  unfold bi cI
  rw[p0 h hk]
  simp[eP]
theorem sK {ta tb:MT} {env:En} {S:Sto} (h1:ta env S=.ok false S) (h2:tb env S=.ok false S):eq ta tb env S=.ok false S:=by
  simp[eq,h1,h2]
theorem sL {i:Nat} {m:ME} {d:D} {env:En} {S:Sto} (h:m env S=.ok d S):ao i m env S=.next (env.set i (some d)) S:=by
  unfold ao; rw[h]; rfl
theorem sM {ea d:Addr} {ok:Bool} {f:Str} {ns:List Str} {ds:List D} {x:D} {env:En} {S:Sto} (h:env[1]?=some (some (.exn ea d ns ds))) (l:(ns.zip ds).lookup f=some x) (o:ok=true):eXf ea (some d) ok f (eV 1) env S=.ok x S:=by
  simp[eXf,eV,h,l,o]
theorem uP {t:MT} {m:MS} {ea d:Addr} {o1:Bool} {f1:Str} {ns:List Str} {ds:List D} {w x:D} {env:En} {S:Sto} (ht:t env S=.ok true S) (h4:env[4]?=some (some w)) (h:env[1]?=some (some (.exn ea d ns ds))) (l1:(ns.zip ds).lookup f1=some x) (p1:o1=true) :
    aO (sIf t (aq (bB (aB (eV 4) (aB (eXf ea (some d) o1 f1 (eV 1)) aE)))) bQ) m env S=.ret (.tup [w,x]) S:=by
  simp[aO,sIf,ht,Res.rs,aq,bB,aB,eV,h4,sM h l1 p1,aE]
theorem nV {t:MT} {a:MS} {env:En} {S:Sto} (h:t env S=.ok false S):sIf t a bQ env S=.next env S:=by
  simp[sIf,h,Res.rs]
end DL
namespace DL
open PySem PySem.Spec PyProof.Rows L2 LamX
end DL
namespace DL
open PySem PySem.Spec PyProof.Rows L2 LamX PySem.W
end DL
namespace DL
open PySem PySem.Spec PyProof.Rows L2 LamX PySem.W
end DL
namespace DL
open PySem PySem.Spec PyProof.Rows L2 LamX PySem.W
/-- the keys,one behind the other -/
def sN (mk:ME) (i:Nat) (env:En):List D→List D→Sto→Res (List D)
  | [],acc,S=>.ok acc S
  | d::ds,acc,S=>(mk (env.set i (some d)) S).bindS fun k S=>sN mk i env ds (acc++[k]) S
def sO (xs ks:List D):List D:=((xs.zip ks).mergeSort fun a b=>dle a.2 b.2).map (·.1)
def sP (m:ME) (i:Nat) (mk:ME):ME:=fun env S=>(m env S).bind fun d S=>match og S d with
  | some xs=>(sN mk i env xs [] S).bindS fun ks S=>if rq ks=true∧xs.length≤1000000 then .ok (.loc S.length) (S++[.lst (sO xs ks)]) else .stuck
  | none=>.stuck
end DL
namespace DL
open PySem PySem.Spec PyProof.Rows L2 LamX
section
variable {K:PySem.W.Frag} {mg:Str→Option Value} {μ μ':Mu} {H H':Hp} {S S':Sto} {env:En} {σ:L2.St} {l:Nat} {t:Bool} {kvs:List (D × D)} {a:Addr} {u:HO}
theorem RelS.dict (rs:RelS K mg μ H S) (e:S[l]?=some (.dct t kvs)):∃a u,μ.l[l]?=some a∧H a=some u∧Mut (some u)∧NF H a∧(∀ps,u≠.tbl ps)∧RepO K mg μ H (.dct t kvs) a:=by
  obtain ⟨a,h1,h2⟩:=rs.at_ l _ e
  cases t with
  | false=>
    obtain ⟨vs,ks,⟨q,hk⟩,rr⟩:=id h2
    exact ⟨a,_,h1,q,trivial,.of q,fun _ z=>(nomatch z),h2⟩
  | true=>
    obtain ⟨vs,ks,⟨q,hk⟩,rr⟩:=id h2
    exact ⟨a,_,h1,q,trivial,.of q,fun _ z=>(nomatch z),h2⟩
end
/-- the dict that ml tells is locked while mb runs -/
def eLock (ml mb:ME):ME:=fun env S=>match ml env S with
  | .ok (.loc l) _=>match S[l]? with
    | some (.dct t kvs)=>match mb env (S.set l (.fdc t kvs)) with
      | .ok d S'=>.ok d (S'.set l (.dct t kvs))
      | _=>.stuck
    | _=>.stuck
  | _=>.stuck
def sLock (ml:ME) (mb:MS):MS:=fun env S=>match ml env S with
  | .ok (.loc l) _=>match S[l]? with
    | some (.dct t kvs)=>match mb env (S.set l (.fdc t kvs)) with
      | .next e S'=>.next e (S'.set l (.dct t kvs))
      | .brk e S'=>.brk e (S'.set l (.dct t kvs))
      | .cont e S'=>.cont e (S'.set l (.dct t kvs))
      | .ret d S'=>.ret d (S'.set l (.dct t kvs))
      | _=>.stuck
    | _=>.stuck
  | _=>.stuck
end DL
namespace DL
open PySem PySem.Spec PyProof.Rows L2
theorem WalkOk.stp {K:PySem.W.Frag} {mg:Str→Option Value} {μ μ':Mu} {H H':Hp} {it:ItD} {J:It} (s:Stp μ H μ' H') (h:WalkOk K mg μ H it J):WalkOk K mg μ' H' it J:=by
  cases it with
  | items ds=>
    have h:eD K mg μ H ds J:=h
    exact (⟨fun i μ2 H2 hi t=>h.goes i μ2 H2 hi (s.trans t),fun μ2 H2 t=>h.stops μ2 H2 (s.trans t),fun i d μ2 H2 S x H3 hd t rs y=>h.yields i d μ2 H2 S x H3 hd (s.trans t) rs y⟩:eD K mg μ' H' ds J)
  | live l=>
    obtain ⟨a,ha,e⟩:=h
    exact ⟨a,s.get ha,e⟩
  | liveE l=>
    obtain ⟨a,ha,e⟩:=h
    exact ⟨a,s.get ha,e⟩
def gk (_:Sto) (ds:List D):Option D:=match ds with
  | [.int i]=>if i.natAbs.log2<1920 then some (.str (toString i)) else none
  | [.str z]=>some (.str z)
  | _=>none
theorem qA {X:Cx}:CallR X (.type "str") (rB X.K X.mg gk):=fun pins s σ H xs us Q I rx w=>by
  obtain ⟨μ,S,ds,d,rs,ra,e,q⟩:=w
  unfold gk at e
  split at e
  · split at e
    · cases e
      obtain ⟨v,rfl,r1⟩:=bW ra
      unfold Rep at r1; subst r1
      exact call_str_int pins s σ H _ us Q I rx ⟨_,rfl,by assumption,q H _ .rfl (bV _)⟩
    · cases e
  · cases e
    obtain ⟨v,rfl,r1⟩:=bW ra
    unfold Rep at r1; subst r1
    exact SkE.call_str_str pins s σ H _ us Q I rx ⟨_,rfl,q H _ .rfl (bV _)⟩
  · cases e
end DL
namespace DL
open PySem PySem.Spec PyProof.Rows L2 LamX
def isD (S:Sto) (d:D):Bool:=match d with
  | .loc l=>(b9 S[l]?).isSome
  | _=>false
def sQ (S:Sto) (d k z:D):Option D:=match d with
  | .loc l=>match b9 S[l]? with
    | some (t,kvs)=>if bh t k=true then some ((df t kvs k).getD z) else none
    | none=>none
  | _=>none
def eGet (md mk mz:ME):ME:=fun env S=>(md env S).bind fun d S=>if isD S d=true then (mk env S).bind fun k S=>(mz env S).bind fun z S=>ofO S (sQ S d k z) else .stuck
def eSetd (md mk mz:ME):ME:=fun env S=>(md env S).bind fun d S=>if isD S d=true then (mk env S).bind fun k S=>(mz env S).bind fun z S=>match d with
  | .loc l=>match S[l]? with
    | some (.dct false kvs)=>if bh false k=true∧kvs.length<1000000 then (match df false kvs k with
      | some v=>.ok v S
      | none=>.ok z (S.set l (.dct false (jX false kvs k z)))) else .stuck
    | _=>.stuck
  | _=>.stuck else .stuck
end DL
namespace DL
open PySem PySem.Spec PyProof.Rows L2 LamX
def sR (n:Nat) (d:D) (m:MF) (r:MA):ME:=fun env S=>(r env S).bind fun ds S=>chk n m (ds++[d]) S
def sS (n k:Nat) (m:MF) (r rk:MA):ME:=fun env S=>(r env S).bind fun ds S=>(rk env S).bind fun zs S=>if ds.length=k then chk n m (ds++zs) S else .stuck
def sPar3 (i j l:Nat) (r:MA):MS:=fun env S=>(r env S).rs env fun ds S=>match ds with
  | [a,b,c]=>.next (((env.set i (some a)).set j (some b)).set l (some c)) S
  | _=>.stuck
/-- xs+ys,a list that is changed later -/
def eCatM (ma mb:ME):ME:=fun env S=>(ma env S).bind fun a S=>(mb env S).bind fun b S=>match view0 S a,view0 S b with
  | .lst xs,.lst ys=>if xs.length+ys.length≤1000000 then .ok (.loc S.length) (S++[.lst (xs++ys)]) else .stuck
  | _,_=>.stuck
end DL
namespace DL
open PySem PySem.Spec PyProof.Rows L2 LamX
end DL
namespace DL
open PySem PySem.Spec PyProof.Rows L2 LamX
end DL
namespace DL
open PySem PySem.Spec PyProof.Rows L2 LamX
end DL
namespace DL
open PySem PySem.Spec PyProof.Rows L2 LamX
end DL
namespace DL
open PySem PySem.Spec PyProof.Rows L2 LamX
end DL
namespace DL
open PySem PySem.Spec PyProof.Rows L2 LamX
end DL
namespace DL
open PySem PySem.Spec PyProof.Rows L2 LamX
end DL
namespace DL
open PySem PySem.Spec PyProof.Rows L2 LamX
end DL
namespace DL
open PySem PySem.Spec PyProof.Rows L2
section
variable {X:Cx} {W:WX}
def dRep:D→D→Option D
  | .lst xs,.int k=>if 0≤k∧k≤1000∧xs.length*k.toNat≤1000000 then some (.lst (List.replicate k.toNat xs).flatten) else none
  | _,_=>none
@[simp] theorem dRep_at (xs:List D) (k:Int):dRep (.lst xs) (.int k)=if 0≤k∧k≤1000∧xs.length*k.toNat≤1000000 then some (.lst (List.replicate k.toNat xs).flatten) else none:=rfl
theorem RepAll.rep {K:PySem.W.Frag} {mg:Str→Option Value} {μ:Mu} {H:Hp} {ds:List D} {vs:List V} (h:RepAll K mg μ H ds vs):∀k:Nat,RepAll K mg μ H (List.replicate k ds).flatten (List.replicate k vs).flatten
  | 0=>.nil
  | k+1=>by
    rw[List.replicate_succ,List.replicate_succ,List.flatten_cons,List.flatten_cons]
    exact h.append (RepAll.rep h k)
end
end DL
namespace DL
open PySem PySem.Spec PyProof.Rows L2
end DL
namespace DL
open PySem PySem.Spec PyProof.Rows L2
end DL
namespace DL
open PySem PySem.Spec PyProof.Rows L2
/-- one turn: the items made so far,behind it; an exception goes on -/
def qB (g:MG) (m:ME) (w:En) (d:D) (acc:List D) (S:Sto):Res (List D):=match g d w S with
  | none=>.stuck
  | some p=>(m p.1 p.2).bind fun v S3=>if acc.length<1000000 then .ok (acc++[v]) S3 else .stuck
def ip (g:MG) (m:ME) (w:En):List D→List D→Sto→Res (List D)
  | [],acc,S=>.ok acc S
  | d::ds,acc,S=>(qB g m w d acc S).bind fun acc S=>ip g m w ds acc S
def oq (g:MG) (m:ME) (w:En) (l:Nat):Nat→Nat→List D→Sto→Res (List D)
  | 0,_,_,_=>.stuck
  | n+1,i,acc,S=>match S[l]? with
    | some (.lst xs)=>match xs[i]? with
      | none=>.ok acc S
      | some d=>(qB g m w d acc S).bind fun acc S=>oq g m w l n (i+1) acc S
    | _=>.stuck
def ot (mi:MI) (g:MG) (m:ME) (vs:List Nat):MA:=fun env S=>(mi env S).bind fun it S=>match it with
  | .items ds=>ip g m (bn env vs) ds [] S
  | .live l=>oq g m (bn env vs) l (eQ S l+1) 0 [] S
  | .liveE _=>.stuck
def eCompX (mi:MI) (g:MG) (m:ME) (vs:List Nat):ME:=fun env S=>(ot mi g m vs env S).bind fun ds S=>.ok (.lst ds) S
end DL
namespace DL
open PySem PySem.Spec PyProof.Rows L2
/-- at A.m stands v -/
structure ClV (K:PySem.W.Frag) (A:Addr) (m:Str) (v:Value):Prop where
  rd:PySem.W.readsIn K A (.type "type")=true
  ga:PySem.W.specialIn K (.ref A) "__getattribute__"=some (some (.builtin "type.__getattribute__"))
  up:PySem.W.findCls K (.ref A) (.type "type") m=some (.val v)
theorem uQ {K:PySem.W.Frag} {A:Addr} {m:Str} {v:Value} (h:clVB K A m v=true):ClV K A m v:=by
  unfold clVB at h
  simp only[Bool.and_eq_true] at h
  obtain ⟨⟨h1,h2⟩,h3⟩:=h
  refine ⟨h1,He.eqO_ok h2,?_⟩
  split at h3
  · rename_i u e
    rw[of_decide_eq_true h3] at e
    exact e
  · cases h3
theorem uR {K:PySem.W.Frag} {C:Addr} (h:oexB K C=true):OexC K C:=by
  unfold oexB at h
  simp only[Bool.and_eq_true,decide_eq_true_eq] at h
  obtain ⟨⟨⟨⟨q,h2⟩,h3⟩,h4⟩,h5⟩:=h
  refine ⟨?_,He.eqO_ok h2,h3,h4,h5⟩
  split at q
  · rename_i dd cd sl ho
    split at q
    · rename_i C' bm k0 k1 k2 k3 n k5 hm hs
      simp only[Bool.and_eq_true,beq_iff_eq,Bool.not_eq_true'] at q
      obtain ⟨⟨⟨⟨rfl,rfl⟩,hdel⟩,hdi⟩,hr⟩:=q
      obtain ⟨nm,bs,mro,ns,qn,hd,sn,sub,ab,col,del⟩:=cd
      dsimp only at hm hdel hdi
      subst hm hdel hdi
      have hsl:sl=#[k0,k1,k2,k3,some (.builtin "ValueError.__new__"),k5]:=by
        obtain ⟨l⟩:=sl
        simp only at hs
        rw[hs]
      subst hsl
      exact ⟨nm,qn,ns,bs,bm,sn,sub,ab,col,dd,k0,k1,k2,k3,k5,ho,hr⟩
    · cases q
  · cases q
/-- an own error with fields: its class at C,its __init__ at fI,the class above at A -/
structure ExcI (K:PySem.W.Frag) (C fI A:Addr) (ns:List Str):Prop where
  ox:OexC K C
  ini:PySem.W.findIn K (.ref C) "__init__"=some (some (.ref fI))
  ty:PySem.W.typeIn K (.ref fI)=some (.type "function")
  fl:∀n∈ns,PySem.W.findIn K (.ref C) n=some none
  up:ClV K A "__init__" (.builtin "ValueError.__init__")
theorem nW {K:PySem.W.Frag} {C fI A:Addr} {ns:List Str} (h:pX K C fI A ns=true):ExcI K C fI A ns:=by
  unfold pX at h
  simp only[Bool.and_eq_true,decide_eq_true_eq,List.all_eq_true] at h
  obtain ⟨⟨⟨⟨h1,h2⟩,h3⟩,h4⟩,h5⟩:=h
  exact ⟨uR h1,He.eqO_ok h2,h3,fun n hn=>He.eqO_ok (h4 n hn),uQ h5⟩
/-- the call of y.m is evaluated as a method's call -/
def sT (y nm:Str) (p1 p2 pos:Pos) (es:List Expr) (env:Env):Prop:=∃pl:Sem Bool,eval (.Call (.Attribute (.Name y p1) nm p2) es [] pos) env=(do
      let ov ←eval (.Name y p1) env
      standAt p2.atName
      let (f,first) ←holding [ov] (getMethod ov nm pl)
      callWith pos f first (backTo pos (starEach es env)) (backToKw pos (keywordEach [] env)))
section
variable {X:Cx} {e:Expr} {es:List Expr} {ta:TA} {y:Str} {A:Addr} {p1 p2 pos:Pos}
/-- A.__init__(self,..),A without an own one -/
theorem qe (hg:Gl X y) (hm:X.mg y=some (.ref A)) (V:ClV X.K A "__init__" (.builtin "ValueError.__init__")) (ha:PA X (e::es) ta) (hdb:(y == ("__debug__":Str))=false:=by decide)
    (hc:sT y "__init__" p1 p2 pos (e::es) X.env)
    (he:starEach (e::es) X.env=(false,eval e X.env)::starEach es X.env:=by rfl) (hpl:(backTo pos (starEach es X.env)).any (·.1)=false:=by rfl) :
    PE X (.Call (.Attribute (.Name y p1) "__init__" p2) (e::es) [] pos) (tVeI X.K ta):=by
  obtain ⟨pl,hc⟩:=hc
  refine ⟨fun pins s σ H Q I h=>?_⟩
  refine PySem.W.methodCall_KW (ld_glob I hg hm ?_ hdb) hc
  refine PySem.W.method_cls I.kIn V.ga (PySem.W.cls_value I.kIn V.rd V.up rfl ?_)
  show wpAny _ _ (callWith pos (Value.builtin "ValueError.__init__") [] (backTo pos (starEach (e::es) X.env)) []) _ _ _
  refine PyProof.Rows.callWith_method1 (thn (ha.run pos pins _ σ H _ (I.tok _) h) fun us s1 ⟨vs,H1,I1,r1,a,C,ws,ev,hl,T,ea,q⟩=>?_) he hpl
  subst ev
  cases r1 with
  | @cons _ u0 _ ur ra rw'=>
    obtain rfl:u0=Value.ref a:=ra
    have hlen:ur.length≤sizeLine:=by
      rw[←Paired.length rw',sizeLine_eq]
      omega
    exact oinit_ok T I1 ea hlen fun s' J=>⟨.non,H1,J,rfl,q⟩
end
/-- what such an __init__ keeps: the fields are these -/
def spI (C:Addr) (ns:List Str):Sp:=fun vs H Q E=>∃(a:Addr) (ys:List V),vs=.ref a::ys∧ys.length=ns.length∧H a=some (exo a C none)∧
  ∀dx H',H dx=none→dx≠a→H' a=some (exo a C (some dx))→H' dx=some (exd dx (ns.zip ys).reverse)→(∀b,b≠a→b≠dx→H' b=H b)→Q .non H'
section
variable {P:Program} {w:World} {K:PySem.W.Frag} {mg:Str→Option Value} {base:Heap} {qual y m f1 f2:Str} {params:Arguments} {body:List Stmt} {scope:Scope} {C fI A:Addr} {fd:FuncData} {k j:Nat}
  {p1 p2 p3 p4 p5 p6 q1 q2 q3 q4 r1 r2 r3 r4:Pos}
theorem mH {N ps:List Str} (S:FnScope N ps scope) {x:Str} (h:x∈ps):Vis scope x:=(S.par x h).elim .inl fun z=>.inr (.inl z)
theorem nX (T:ExcI K C fI A [f1]) (F:FunD K "__init__" qual params body scope [] [] fI fd) (S:FnScope ["self",f1] ["self",f1] scope) (hA:mg y=some (.ref A)) (hg:scope.names.lookup y=some .globalImplicit)
    (hb:body=[.Expr (.Call (.Attribute (.Name y p1) "__init__" p2) [.Name "self" p3,.Constant (.str m) j p4] [] p5) p6,.Assign [.Attribute (.Name "self" q1) f1 q2] (.Name f1 q3) q4])
    (hce:∀(n:Nat) (cdv:Value),sT y "__init__" p1 p2 p5 [.Name "self" p3,.Constant (.str m) j p4] (envOfC qual scope n fI cdv))
    (hdb:(y == ("__debug__":Str))=false:=by decide) (hd1:(f1 == ("__debug__":Str))=false:=by decide) (hc1:(f1 == ("__classdict__":Str))=false:=by decide) :
    FnOk P w K mg base C8.CX0 (k+1) fI fd ["self",f1] (spI C [f1]):=by
  subst hb
  refine FunD.ok F S (fun vs H Q E ⟨a,ys,e,hl,_⟩=>by rw[e]; simp[hl]) fun cdv A0 outer s H vs Q E hr ⟨a,ys,e,hl,ha,hq⟩=>?_
  subst e
  match ys,hl with
  | [v1],_=>
    refine ⟨_,pss_cons (ps_expr (qe (A:=A) hg hA T.up (pa_cons (pe_var (i:=0) rfl (mH S (by simp))) (pa_cons pe_str pa_nil)) hdb (hce _ _))) (pss_one (ps_ost (pe_var (i:=0) rfl (mH S (by simp))) (pe_var (i:=1) rfl (mH S (by simp)) hd1 hc1))),?_⟩
    refine ⟨.ref a,rfl,a,C,[.str m],rfl,by simp,T.ox,ha,?_⟩
    refine ⟨v1,rfl,.ref a,rfl,a,C,rfl,T.ox,T.fl f1 (by simp),.inl ⟨ha,fun dx hd hne=>?_⟩⟩
    refine hq dx _ hd hne upd_same ?_ fun b h1 h2=>?_
    · rw[upd_ne hne,upd_same]
      rfl
    · rw[upd_ne h1,upd_ne h2]
end
def dn (C:Str) (ns:List Str) (r:MA):MS:=fun env S=>(r env S).rs env fun ds S=>if ds.length=ns.length∧ns≠[]∧ns.length≤1000 then .exc ⟨C,(ns.zip ds).reverse⟩ env S else .stuck
section
variable {X:Cx} {W:WX} {x:Str} {C fI A:Addr} {fd:FuncData} {k:Nat} {ns:List Str} {e:Expr} {es:List Expr} {r:MA} {p pos pos':Pos}
theorem map_fst_zip {α β:Type}:∀ {as:List α} {bs:List β},as.length=bs.length→(as.zip bs).map (·.1)=as
  | [],[],_=>rfl
  | a::as,b::bs,h=>by simp[map_fst_zip (as:=as) (bs:=bs) (by simpa using h)]
theorem map_snd_zip {α β:Type}:∀ {as:List α} {bs:List β},as.length=bs.length→(as.zip bs).map (·.2)=bs
  | [],[],_=>rfl
  | a::as,b::bs,h=>by simp[map_snd_zip (as:=as) (bs:=bs) (by simpa using h)]
theorem uS {α β:Type} {as:List α} {bs:List β} (h:as.length=bs.length):as.reverse.zip bs.reverse=(as.zip bs).reverse:=by
  unfold List.zip
  exact (List.reverse_zipWith h).symm
theorem RepAll.rev {K:PySem.W.Frag} {mg:Str→Option Value} {μ:Mu} {H:Hp} {ds:List D} {vs:List V} (h:RepAll K mg μ H ds vs):RepAll K mg μ H ds.reverse vs.reverse:=h.reverse
theorem qf {ps:List Str} (hc:X.calm=true) (tk:Takes X W) (T:ExcI X.K C fI A ns) (F:FnOk X.prog X.w X.K X.mg X.base C8.CX0 k fI fd ps (spI C ns)) (hb:Binds X.K fd ps []) (hr:Room (k+1) X.A) (gC:X.mg x=some (.ref C)) (hg:Gl X x)
    (ha:PA X (e::es) (tAs X W r)) (hdb:(x == ("__debug__":Str))=false:=by decide) (he:starEach (e::es) X.env=(false,eval e X.env)::starEach es X.env:=by rfl) (hpl:(backTo pos (starEach es X.env)).any (·.1)=false:=by rfl) :
    PS X (.Raise (some (.Call (.Name x p) (e::es) [] pos)) none pos') (tS X W (dn x ns r)):=
  jF (L2N.ps_raise hc tk (rn T.ox T.ini T.ty F hr hb pass0 hg gC ha hdb he hpl)) fun D σ H ⟨env,S,μ,rl,o⟩=>by
    refine ⟨env,S,μ,rl,(OutS.rs rl.env o).mono fun vs H1 ⟨μ1,S1,ds,st,rs,ra,o1⟩=>?_⟩
    split at o1
    · rename_i hl
      obtain ⟨hl,hn,h1000⟩:=hl
      have hlv:vs.length=ns.length:=by rw[←ra.length]; exact hl
      refine ⟨by omega,fun a na=>⟨a,vs,by simp,hlv,upd_same,fun dx H' hd hne e1 e2 e3=>?_⟩⟩
      rw[upd_ne hne] at hd
      refine ⟨rfl,dx,_,e1,e2,hd,?_⟩
      have eH:upd (del H' a) dx (.xd (ns.zip vs).reverse)=upd H1 dx (.xd (ns.zip vs).reverse):=by
        funext b
        by_cases h1:b=dx
        · subst h1; rw[upd_same,upd_same]
        · rw[upd_ne h1,upd_ne h1]
          by_cases h2:b=a
          · subst h2; rw[del_same,na]
          · rw[del_ne h2,e3 b h2 h1,upd_ne h2]
      rw[eH]
      have sm:Sm H1 (upd H1 dx (.xd (ns.zip vs).reverse)):=.upd hd
      have st2:Step μ1 H1 μ1 (upd H1 dx (.xd (ns.zip vs).reverse)):=.of_sm sm
      refine o1 μ1 _ σ (.ref C) (some dx) st2 ((rl.env.step st).step st2) (rs.sm sm) ⟨C,gC,rfl,.inr ⟨?_,dx,vs.reverse,rfl,?_,?_⟩⟩
      · intro z
        have z:(ns.zip ds).reverse=[]:=z
        rw[List.reverse_eq_nil_iff,List.zip_eq_nil_iff] at z
        rcases z with z|z
        · exact hn z
        · rw[z] at hl
          exact hn (List.eq_nil_of_length_eq_zero hl.symm)
      · rw[upd_same]
        show some (HO.xd _)=some (HO.xd _)
        rw[List.map_reverse,map_fst_zip hl.symm,uS hlv.symm]
      · show RepAll _ _ _ _ (((ns.zip ds).reverse).map (·.2)) _
        rw[List.map_reverse,map_snd_zip hl.symm]
        exact RepAll.step st2 _ _ ra.rev
    · exact o1.elim
end
end DL
namespace DL
open PySem PySem.Spec PyProof.Rows L2
def sU (cn:Str) (n k:Nat) (mi:MF) (r rk:MA):ME:=fun env S=>(r env S).bind fun ds S=>(rk env S).bind fun zs S=>if ds.length+1=k then (chk n mi (.loc S.length::(ds++zs)) (S++[.ins cn []])).bind (fun d S'=>match d with
  | .none=>.ok (.loc S.length) S'
  | _=>.stuck) else .stuck
section
variable {X:Cx} {W:WX} {k n:Nat} {f C A:Addr} {ps ks:List Str} {m mi:MF} {x y nm cn kn:Str} {dv:Int} {p p1 p2 pos kpos:Pos} {e ek:Expr} {es:List Expr} {r:MA} {mk:ME}
theorem fJ {x:Str} {fI:Addr} {ns:List Str} {pos':Pos} (hc:X.calm=true) (tk:Takes X W) (T:ExcI X.K C fI A ns) (F:∃fd,FnOk X.prog X.w X.K X.mg X.base C8.CX0 k fI fd ps (spI C ns)∧Binds X.K fd ps []) (hr:Room (k+1) X.A) (gC:X.mg x=some (.ref C)) (hg:Gl X x)
    (ha:PA X (e::es) (tAs X W r)) (hdb:(x == ("__debug__":Str))=false:=by decide) (he:starEach (e::es) X.env=(false,eval e X.env)::starEach es X.env:=by rfl) (hpl:(backTo pos (starEach es X.env)).any (·.1)=false:=by rfl) :
    PS X (.Raise (some (.Call (.Name x p) (e::es) [] pos)) none pos') (tS X W (dn x ns r)):=by
  obtain ⟨fd,F,hb⟩:=F
  exact qf hc tk T F hb hr gC hg ha hdb he hpl
end
end DL
namespace DL
open PySem PySem.Spec PyProof.Rows L2
def j4:List (ME × ME)→En→Sto→Res (List (D × D))
  | [],_,S=>.ok [] S
  | p::r,env,S=>(p.1 env S).bind fun k S=>(p.2 env S).bind fun v S=>(j4 r env S).bind fun ps S=>.ok ((k,v)::ps) S
def jL (r:List (ME × ME)):ME:=fun env S=>match j4 r env S with
  | .ok ps S=>if (ps.all fun p=>bh false p.1)=true∧ps.length≤15 then .ok (.loc S.length) (S++[.dct false (cQ [] ps)]) else .stuck
  | _=>.stuck
def RPs (K:PySem.W.Frag) (mg:Str→Option Value):Mu→Hp→List (D × D)→List (V × V)→Prop:=fun μ H kvs ps=>RepAll K mg μ H (kvs.map (·.1)) (ps.map (·.1))∧RepAll K mg μ H (kvs.map (·.2)) (ps.map (·.2))
section
variable {X:Cx}
theorem lH:∀(r:List (ME × ME)) {σ:L2.St} {H:Hp} {Q:List (V × V)→Hp→Prop} {env:En} {S:Sto} {μ:Mu},Rl X.K X.mg μ H env σ S→Out X.K X.mg W0 σ μ H (RPs X.K X.mg) Q (j4 r env S)→tPairs (r.map fun p=>(tE X W0 p.1,tE X W0 p.2)) σ H Q
  | [],σ,H,Q,env,S,μ,rl,o=>o μ H [] .refl rl.sto ⟨.nil,.nil⟩
  | p::r,σ,H,Q,env,S,μ,rl,o=>by
    show tE X W0 p.1 σ H _
    refine ⟨env,S,μ,rl,(Out.bind o).mono fun x H1 ⟨μ1,S1,k,st1,rs1,r1,o1⟩=>?_⟩
    refine ⟨env,S1,μ1,⟨rl.env.step st1,rs1⟩,(Out.bind o1).mono fun y H2 ⟨μ2,S2,v,st2,rs2,r2,o2⟩=>?_⟩
    refine lH r (env:=env) (S:=S2) (μ:=μ2) ⟨(rl.env.step st1).step st2,rs2⟩ ?_
    refine (Out.bind o2).mono fun ps H3 ⟨μ3,S3,kvs,st3,rs3,r3,o3⟩=>?_
    exact o3 μ3 H3 ((x,y)::ps) .refl rs3 ⟨.cons (Rep.step st3 _ _ (Rep.step st2 _ _ r1)) r3.1,.cons (Rep.step st3 _ _ r2) r3.2⟩
theorem nY {K:PySem.W.Frag} {mg:Str→Option Value} {μ:Mu} {H:Hp}:∀ {ps:List (D × D)} {vs:List (V × V)},(ps.all fun p=>bh false p.1)=true→RepAll K mg μ H (ps.map (·.1)) (vs.map (·.1))→RepAll K mg μ H (ps.map (·.2)) (vs.map (·.2))→
    ∃kvs:List (Key × V),vs=kvs.map (fun kv=>(kV kv.1,kv.2))∧ps.map (·.1)=kvs.map (fun kv=>cy kv.1)∧RepAll K mg μ H (ps.map (·.2)) (kvs.map (·.2))∧kvs.length=ps.length
  | [],vs,_,h,_=>by
    unfold RepAll at h
    have:vs=[]:=List.map_eq_nil_iff.mp h
    subst this
    exact ⟨[],rfl,rfl,.nil,rfl⟩
  | p::ps,vs,hk,h1,h2=>by
    cases vs with
    | nil=>
      have h1:=h1.length
      simp at h1
    | cons v vs=>
      rw[List.map_cons,List.map_cons] at h1 h2
      unfold RepAll at h1 h2
      obtain ⟨x,xs,e1,r1,t1⟩:=h1
      obtain ⟨y,ys,e2,r2,t2⟩:=h2
      cases e1
      cases e2
      rw[List.all_cons,Bool.and_eq_true] at hk
      obtain ⟨kvs,g1,g2,g3,g4⟩:=nY hk.2 t1 t2
      obtain ⟨k,ek⟩:=pe hk.1
      obtain ⟨p1,p2⟩:=p
      obtain ⟨v1,v2⟩:=v
      dsimp only at ek r1 r2
      subst ek
      have e:=iA r1
      subst e
      exact ⟨(k,v2)::kvs,by rw[g1,List.map_cons],by simp[g2],.cons r2 g3,by simp[g4]⟩
theorem qC {W:WX} {keys:List (Option Expr)} {values:List Expr} {pos:Pos} {r:List (ME × ME)} (h:PPs X pos keys values (r.map fun p=>(tE X W0 p.1,tE X W0 p.2))) (hall:keys.all (·.isSome)=true:=by rfl) (hl:keys.length=values.length:=by rfl) (h0:keys≠[]:=by simp)
    (h15:keys.length≤15:=by decide):PE X (.Dict keys values pos) (tE X W (jL r)):=
  cB (pe_disp h hall hl h0 h15) fun σ H Q ⟨env,S,μ,rl,o⟩ p hp=>by
    unfold jL at o
    split at o
    · rename_i ps S1 em
      split at o
      · rename_i hc
        have sh:Stp μ H (μ.hide p) (upd H p (.dK [])):=.new_hid hp
        refine lH r (env:=env) (S:=S) (μ:=μ.hide p) ⟨rl.env.stp sh,rl.sto.hide hp⟩ ?_
        rw[em]
        intro μ2 H2 vs st rs2 ⟨r1,r2⟩
        have hpm:p∈(μ.hide p).h:=List.mem_cons_self
        have hp2:H2 p=some (.dK []):=st.hk _ _ hpm upd_same
        obtain ⟨kvs,g1,g2,g3,g4⟩:=nY hc.1 r1 r2
        refine ⟨hp2,kvs,g1,by rw[g4]; exact hc.2,?_⟩
        have np2:p∈μ2.h:=by rw[st.hid]; exact hpm
        have sw:Stp μ2 H2 μ2 (upd H2 p (.dK (mergeK [] kvs))):=.write_hid np2 (.of hp2)
        have rs3:RelS X.K X.mg μ2 (upd H2 p (.dK (mergeK [] kvs))) S1:=rs2.write_hid np2
        have sub:∀a∈μ.h,a∈μ2.h:=fun a ha=>by rw[st.hid]; exact List.mem_cons_of_mem _ ha
        have su:Stp μ2 (upd H2 p (.dK (mergeK [] kvs))) ⟨μ2.l++[p],μ.h⟩ (upd H2 p (.dK (mergeK [] kvs))):=.reveal np2 sub
        obtain ⟨ks,us,m1,m2,m3⟩:=mB (ds:=[]) (acc:=[]) g2 (RepAll.stp sw _ _ g3) ⟨[],[],rfl,rfl,.nil⟩
        have rr:=rs3.reveal (o:=.dct false (cQ [] ps)) np2 sub (rl.sto.notinH hp) ⟨us,ks,⟨by rw[upd_same,m1],m2⟩,m3⟩
        refine o ⟨μ2.l++[p],μ.h⟩ _ (.ref p) ⟨((sh.trans st.toStp).trans sw).trans su,rfl,fun a u ha e nt=>?_⟩ rr ?_
        · have hap:a≠p:=ne_of_none e hp
          rw[upd_ne hap]
          exact st.hk a u (List.mem_cons_of_mem _ ha) (by rw[upd_ne hap]; exact e) nt
        · unfold Rep
          exact ⟨p,rfl,by rw[rs2.len]; simp⟩
      · exact o.elim
    · exact o.elim
end
end DL
namespace DL
open PySem PySem.Spec PyProof.Rows L2 LamX
/-- keeps what is wanted from being rewritten ahead of its time -/
inductive Dum {α:Type} (x:α):Type where
  | mk
/-- what holds behind an expression -/
@[irreducible] def Res.wp {α:Type} (r:Res α) (Q:α→Sto→Prop) (E:XV→Sto→Prop) (_:Dum Q:=.mk) (_:Dum E:=.mk) (_:True:=trivial):Prop:=match r with
  | .ok a S=>Q a S
  | .exc e S=>E e S
  | .stuck=>False
/-- what holds behind statements: next,return,raise,break,continue -/
@[irreducible] def RS.wp (x:RS) (N:En→Sto→Prop) (R:D→Sto→Prop) (E:XV→Sto→Prop) (B C:En→Sto→Prop) (_:Dum N:=.mk) (_:Dum R:=.mk) (_:Dum E:=.mk) (_:Dum B:=.mk) (_:Dum C:=.mk) (_:True:=trivial):Prop:=match x with
  | .next e S=>N e S
  | .brk e S=>B e S
  | .cont e S=>C e S
  | .ret d S=>R d S
  | .exc e _ S=>E e S
  | .stuck=>False
abbrev NoE:XV→Sto→Prop:=fun _ _=>False
abbrev NoB:En→Sto→Prop:=fun _ _=>False
@[simp] theorem NoE_at (e:XV) (S:Sto):NoE e S=False:=rfl
@[simp] theorem NoB_at (e:En) (S:Sto):NoB e S=False:=rfl
section
variable {α β:Type} {Q Q':α→Sto→Prop} {E E':XV→Sto→Prop} {N N' B B' C C':En→Sto→Prop} {R R':D→Sto→Prop} {S:Sto} {env:En}
@[simp] theorem fK {a:α}:Res.wp (.ok a S) Q E=Q a S:=by unfold Res.wp; rfl
@[simp] theorem j5:Res.wp (.stuck:Res α) Q E=False:=by unfold Res.wp; rfl
@[simp] theorem sV {a:XV}:Res.wp (.exc a S:Res α) Q E=E a S:=by unfold Res.wp; rfl
@[simp] theorem lI:RS.wp .stuck N R E B C=False:=by unfold RS.wp; rfl
@[simp] theorem dL {a:En}:RS.wp (.next a S) N R E B C=N a S:=by unfold RS.wp; rfl
@[simp] theorem wpS_ret {a:D}:RS.wp (.ret a S) N R E B C=R a S:=by unfold RS.wp; rfl
@[simp] theorem wpS_exc {a:XV}:RS.wp (.exc a env S) N R E B C=E a S:=by unfold RS.wp; rfl
@[simp] theorem wpS_brk {a:En}:RS.wp (.brk a S) N R E B C=B a S:=by unfold RS.wp; rfl
@[simp] theorem iK {a:En}:RS.wp (.cont a S) N R E B C=C a S:=by unfold RS.wp; rfl
@[simp ↓] theorem wp_bind {r:Res β} {f:β→Sto→Res α}:Res.wp (r.bind f) Q E=Res.wp r (fun a S=>Res.wp (f a S) Q E) E:=by cases r<;>simp[Res.bind]
@[simp ↓] theorem wp_rs {r:Res β} {k:β→Sto→RS}:RS.wp (r.rs env k) N R E B C=Res.wp r (fun a S=>RS.wp (k a S) N R E B C) E:=by cases r<;>simp[Res.rs]
@[simp ↓] theorem wp_then {r:RS} {k:MS}:RS.wp (r.andThen k) N R E B C=RS.wp r (fun e S=>RS.wp (k e S) N R E B C) R E B C:=by cases r<;>simp[RS.andThen]
theorem dp {r:Res α} (h:Res.wp r Q E) (i:∀a S,Q a S→Q' a S) (j:∀a S,E a S→E' a S):Res.wp r Q' E':=by
  cases r with
  | ok a S=>rw[fK] at *; exact i a S h
  | exc e S=>rw[sV] at *; exact j e S h
  | stuck=>rw[j5] at *; exact h
/-- a call whose rule is known; nothing is raised -/
theorem gY {r:Res α} (h:Res.wp r Q NoE) (i:∀a S,Q a S→Q' a S):Res.wp r Q' E':=dp h i fun _ _ z=>z.elim
/-- what a def gives -/
theorem ac {n:Nat} {m:MS} {ds:List D} {Q:D→Sto→Prop} (h:RS.wp (m (ds.map some++List.replicate n none) S) (fun _ S=>Q .none S) Q E NoB NoB):Res.wp (bD n m ds S) Q E:=by
  rw[sG]
  generalize m (ds.map some++List.replicate n none) S=x at h
  cases x<;>simpa using h
theorem uT {τ:Type} {g:MG} {b:MS} {f:τ→D} (I:List τ→List τ→En→Sto→Prop) (xs:List τ)
    (step:∀pre x rest env S,pre++x::rest=xs→I pre (x::rest) env S→∃p,g (f x) env S=some p∧RS.wp (b p.1 p.2) (I (pre++[x]) rest) R E N (I (pre++[x]) rest))
    (fin:∀env S,I xs [] env S→N env S):∀(pre rest:List τ) (env:En) (S:Sto),pre++rest=xs→I pre rest env S→RS.wp (dI g b (rest.map f) env S) N R E B C:=by
  intro pre rest
  induction rest generalizing pre with
  | nil=>
    intro env S e h
    rw[List.append_nil] at e
    subst e
    show RS.wp (.next env S) N R E B C
    rw[dL]
    exact fin env S h
  | cons x rest ih=>
    intro env S e h
    obtain ⟨p,e1,hb⟩:=step pre x rest env S e h
    rw[List.map_cons]
    unfold dI
    rw[e1]
    simp only[]
    generalize b p.1 p.2=y at hb
    cases y with
    | next e' S'=>rw[dL] at hb; exact ih (pre++[x]) e' S' (by rw[←e]; simp) hb
    | cont e' S'=>rw[iK] at hb; exact ih (pre++[x]) e' S' (by rw[←e]; simp) hb
    | brk e' S'=>simpa using hb
    | ret d S'=>simpa using hb
    | exc x e' S'=>simpa using hb
    | stuck=>simpa using hb
theorem fY {τ:Type} {g:MG} {b:MS} {f:τ→D} {ds:List D} {env:En} {S:Sto} (xs:List τ) (I:List τ→List τ→En→Sto→Prop) (e:ds=xs.map f) (h:I [] xs env S)
    (step:∀pre x rest env S,pre++x::rest=xs→I pre (x::rest) env S→∃p,g (f x) env S=some p∧RS.wp (b p.1 p.2) (I (pre++[x]) rest) R E N (I (pre++[x]) rest))
    (fin:∀env S,I xs [] env S→N env S):RS.wp (dI g b ds env S) N R E B C:=by
  subst e
  exact uT I xs step fin [] xs env S rfl h
/-- a comprehension -/
theorem nZ {τ:Type} {g:MG} {tc:MT} {m:ME} {w:En} {f:τ→D} {ds:List D} {Q:List D→Sto→Prop} (xs:List τ) (I:List τ→List τ→List D→Sto→Prop) (e:ds=xs.map f) (h:I [] xs [] S)
    (step:∀pre x rest acc S,pre++x::rest=xs→I pre (x::rest) acc S→∃p,g (f x) w S=some p∧Res.wp (tc p.1 p.2) (fun c S=>if c=true then Res.wp (m p.1 S) (fun v S=>acc.length<1000000∧I (pre++[x]) rest (acc++[v]) S) NoE else I (pre++[x]) rest acc S) NoE)
    (fin:∀acc S,I xs [] acc S→Q acc S):Res.wp (cr g tc m w ds [] S) Q E:=by
  subst e
  have loop:∀(rest pre:List τ) (acc:List D) (S:Sto),pre++rest=xs→I pre rest acc S→Res.wp (cr g tc m w (rest.map f) acc S) Q E:=by
    intro rest
    induction rest with
    | nil=>
      intro pre acc S e h
      rw[List.append_nil] at e
      rw[e] at h
      show Res.wp (.ok acc S) Q E
      rw[fK]
      exact fin acc S h
    | cons x rest ih=>
      intro pre acc S e h
      obtain ⟨p,e1,ht⟩:=step pre x rest acc S e h
      rw[List.map_cons]
      unfold cr jx
      simp only[e1]
      generalize tc p.1 p.2=y at ht
      cases y with
      | exc _ _=>simp at ht
      | stuck=>simp at ht
      | ok c S1=>
        rw[fK] at ht
        have ht:if c=true then Res.wp (m p.1 S1) (fun v S=>acc.length<1000000∧I (pre++[x]) rest (acc++[v]) S) NoE else I (pre++[x]) rest acc S1:=ht
        cases c with
        | false=>
          simp only[fH,Bool.false_eq_true,if_false] at ht ⊢
          exact ih (pre++[x]) acc S1 (by rw[←e]; simp) ht
        | true=>
          simp only[fH,if_true] at ht ⊢
          generalize m p.1 S1=z at ht
          cases z with
          | exc _ _=>simp at ht
          | stuck=>simp at ht
          | ok v S2=>
            rw[fK] at ht
            obtain ⟨hl,hi⟩:=ht
            simp only[fH,hl,if_true]
            exact ih (pre++[x]) (acc++[v]) S2 (by rw[←e]; simp) hi
  exact loop xs [] [] S rfl h
/-- a comprehension of what changes nothing,by an own filter and function -/
theorem eI {τ:Type} {g:MG} {tc:MT} {m:ME} {w:En} {f:τ→D} {S:Sto} (xs:List τ) (p:τ→Bool) (v:τ→D) (hl:xs.length≤1000000)
    (hx:∀x∈xs,∃e,g (f x) w S=some (e,S)∧tc e S=.ok (p x) S∧(p x=true→m e S=.ok (v x) S)):cr g tc m w (xs.map f) [] S=.ok ((xs.filter p).map v) S:=by
  have loop:∀(rest:List τ) (acc:List D),(∀x∈rest,x∈xs)→acc.length+rest.length≤1000000→cr g tc m w (rest.map f) acc S=.ok (acc++(rest.filter p).map v) S:=by
    intro rest
    induction rest with
    | nil=>intro acc _ _; simp[cr]
    | cons x rest ih=>
      intro acc hm hl
      obtain ⟨e,e1,e2,e3⟩:=hx x (hm x List.mem_cons_self)
      rw[List.length_cons] at hl
      rw[List.map_cons]
      unfold cr jx
      simp only[e1,e2,fH]
      cases hp:p x with
      | false=>
        simp only[Bool.false_eq_true,if_false,fH]
        rw[ih acc (fun y hy=>hm y (List.mem_cons_of_mem _ hy)) (by omega)]
        simp[hp]
      | true=>
        have ha:acc.length<1000000:=by omega
        simp only[if_true,e3 hp,fH,ha]
        rw[ih (acc++[v x]) (fun y hy=>hm y (List.mem_cons_of_mem _ hy)) (by simp; omega)]
        simp[hp]
  exact (loop xs [] (fun _ h=>h) (by simpa using hl)).trans (by simp)
end
end DL
namespace DL
open PySem PySem.Spec PyProof.Rows L2 LamX
@[simp] theorem uU (a b:String):(Str.ofString a=Str.ofString b)↔a=b:=by
  refine ⟨fun h=>?_,fun h=>by rw[h]⟩
  rw[Str.ofString_eq_toList,Str.ofString_eq_toList] at h
  have h1:a.toList.map Char.toNat=b.toList.map Char.toNat:=by simpa using h
  have h2:a.toList=b.toList:=(List.map_inj_right fun x y e=>Char.toNat_inj.mp e).mp h1
  exact String.toList_inj.mp h2
@[simp] theorem lookup_if (k a:Str) (v:D) (r:List (Str × D)):List.lookup k ((a,v)::r)=if k=a then some v else List.lookup k r:=by
  rw[List.lookup_cons]
  by_cases h:k=a
  · rw[if_pos h,show (k == a)=true by simp[h]]
  · rw[if_neg h,show (k == a)=false by simp[h]]
def cg (xs ys:List D):Bool:=PyData.eqvAll (pdFs xs) (pdFs ys)
@[simp] theorem peqAll_nil:cg [] []=true:=by simp[cg,pdFs,PyData.eqvAll]
@[simp] theorem vG (x:D) (xs:List D):cg [] (x::xs)=false:=by simp[cg,pdFs,PyData.eqvAll]
@[simp] theorem vH (x:D) (xs:List D):cg (x::xs) []=false:=by simp[cg,pdFs,PyData.eqvAll]
@[simp] theorem vI (x y:D) (xs ys:List D):cg (x::xs) (y::ys)=(peq x y&&cg xs ys):=by simp[cg,peq,pdFs,PyData.eqvAll]
@[simp] theorem peq_int (i j:Int):peq (.int i) (.int j)=decide (i=j):=by unfold peq pdF PyData.eqv; exact Bool.beq_eq_decide_eq i j
@[simp] theorem peq_str (i j:Str):peq (.str i) (.str j)=decide (i=j):=by unfold peq pdF PyData.eqv; exact Bool.beq_eq_decide_eq i j
@[simp] theorem peq_bool (i j:Bool):peq (.bool i) (.bool j)=(i == j):=by unfold peq pdF PyData.eqv; rfl
@[simp] theorem peq_tt (xs ys:List D):peq (.tup xs) (.tup ys)=cg xs ys:=by unfold peq pdF PyData.eqv; rfl
@[simp] theorem peq_tp (xs ys:List D):peq (.tup xs) (.tpn ys)=cg xs ys:=by unfold peq pdF PyData.eqv; rfl
@[simp] theorem peq_pt (xs ys:List D):peq (.tpn xs) (.tup ys)=cg xs ys:=by unfold peq pdF PyData.eqv; rfl
@[simp] theorem peq_pp (xs ys:List D):peq (.tpn xs) (.tpn ys)=cg xs ys:=by unfold peq pdF PyData.eqv; rfl
@[simp] theorem mI (xs ys:List D):peq (.lst xs) (.lst ys)=cg xs ys:=by unfold peq pdF PyData.eqv; rfl
@[simp] theorem sW:peq .none .none=true:=by unfold peq pdF PyData.eqv; rfl
@[simp] theorem peq_lt (xs ys:List D):peq (.lst xs) (.tup ys)=false:=by unfold peq pdF PyData.eqv; rfl
@[simp] theorem peq_tl (xs ys:List D):peq (.tup xs) (.lst ys)=false:=by unfold peq pdF PyData.eqv; rfl
@[simp] theorem peq_sl (x:Str) (ys:List D):peq (.str x) (.lst ys)=false:=by unfold peq pdF PyData.eqv; rfl
@[simp] theorem peq_ls (x:Str) (ys:List D):peq (.lst ys) (.str x)=false:=by unfold peq pdF PyData.eqv; rfl
@[simp] theorem peq_st (x:Str) (ys:List D):peq (.str x) (.tup ys)=false:=by unfold peq pdF PyData.eqv; rfl
@[simp] theorem peq_ts (x:Str) (ys:List D):peq (.tup ys) (.str x)=false:=by unfold peq pdF PyData.eqv; rfl
@[simp] theorem peq_nt (ys:List D):peq .none (.tup ys)=false:=by unfold peq pdF PyData.eqv; rfl
@[simp] theorem peq_tn (ys:List D):peq (.tup ys) .none=false:=by unfold peq pdF PyData.eqv; rfl
@[simp] theorem peq_is (i:Int) (x:Str):peq (.int i) (.str x)=false:=by unfold peq pdF PyData.eqv; rfl
@[simp] theorem peq_si (i:Int) (x:Str):peq (.str x) (.int i)=false:=by unfold peq pdF PyData.eqv; rfl
@[simp] theorem peq_it (i:Int) (x:List D):peq (.int i) (.tup x)=false:=by unfold peq pdF PyData.eqv; rfl
@[simp] theorem peq_ti (i:Int) (x:List D):peq (.tup x) (.int i)=false:=by unfold peq pdF PyData.eqv; rfl
@[simp] theorem peq_ni (i:Int):peq .none (.int i)=false:=by unfold peq pdF PyData.eqv; rfl
@[simp] theorem peq_in (i:Int):peq (.int i) .none=false:=by unfold peq pdF PyData.eqv; rfl
@[simp] theorem peq_ns (i:Str):peq .none (.str i)=false:=by unfold peq pdF PyData.eqv; rfl
@[simp] theorem peq_sn (i:Str):peq (.str i) .none=false:=by unfold peq pdF PyData.eqv; rfl
@[simp] theorem ng (n:Nat):dok n .none=true:=by cases n<;>rfl
@[simp] theorem nh (n:Nat) (b:Bool):dok n (.bool b)=true:=by cases n<;>rfl
@[simp] theorem mJ (n:Nat) (i:Int):dok n (.int i)=true:=by cases n<;>rfl
@[simp] theorem mK (n:Nat) (x:Str):dok n (.str x)=PyData.strOk x:=by cases n<;>rfl
@[simp] theorem mL (n:Nat) (xs:List D):dok (n+1) (.tup xs)=xs.all (dok n):=rfl
@[simp] theorem mM (n:Nat) (xs:List D):dok (n+1) (.lst xs)=xs.all (dok n):=rfl
@[simp] theorem mN (n:Nat) (xs:List D):dok (n+1) (.tpn xs)=xs.all (dok n):=rfl
@[simp] theorem qg (xs:List D):dok 60 (.tup xs)=xs.all (dok 59):=rfl
@[simp] theorem dok_lst60 (xs:List D):dok 60 (.lst xs)=xs.all (dok 59):=rfl
@[simp] theorem qh (xs:List D):dok 60 (.tpn xs)=xs.all (dok 59):=rfl
@[simp] theorem dok_tup59 (xs:List D):dok 59 (.tup xs)=xs.all (dok 58):=rfl
@[simp] theorem dok_lst59 (xs:List D):dok 59 (.lst xs)=xs.all (dok 58):=rfl
@[simp] theorem dok_tpn59 (xs:List D):dok 59 (.tpn xs)=xs.all (dok 58):=rfl
@[simp] theorem dok_tup58 (xs:List D):dok 58 (.tup xs)=xs.all (dok 57):=rfl
@[simp] theorem dok_lst58 (xs:List D):dok 58 (.lst xs)=xs.all (dok 57):=rfl
@[simp] theorem dok_tpn58 (xs:List D):dok 58 (.tpn xs)=xs.all (dok 57):=rfl
/-- what stands for values of one kind -/
structure Enc {τ:Type} (k:Nat) (f:τ→D):Prop where
  dok:∀n a,k≤n→dok n (f a)=true
  peq:∀a b,peq (f a) (f b)=true↔a=b
theorem Enc.int:Enc 0 D.int:=⟨fun n a _=>mJ n a,fun a b=>by simp⟩
theorem Enc.all {τ:Type} {k:Nat} {f:τ→D} (h:Enc k f):∀xs ys:List τ,cg (xs.map f) (ys.map f)=true↔xs=ys
  | [],[]=>by simp
  | [],y::ys=>by simp
  | x::xs,[]=>by simp
  | x::xs,y::ys=>by simp[h.peq,h.all xs ys]
theorem Enc.tup {τ:Type} {k:Nat} {f:τ→D} (h:Enc k f):Enc (k+1) fun xs:List τ=>D.tup (xs.map f):=
  ⟨fun n a hn=>by
    obtain ⟨m,rfl⟩:∃m,n=m+1:=⟨n - 1,by omega⟩
    rw[mL,List.all_map,List.all_eq_true]
    exact fun x _=>h.dok m x (by omega),fun a b=>by rw[peq_tt,h.all]⟩
theorem Enc.tpn {τ:Type} {k:Nat} {f:τ→D} (h:Enc k f):Enc (k+1) fun xs:List τ=>D.tpn (xs.map f):=
  ⟨fun n a hn=>by
    obtain ⟨m,rfl⟩:∃m,n=m+1:=⟨n - 1,by omega⟩
    rw[mN,List.all_map,List.all_eq_true]
    exact fun x _=>h.dok m x (by omega),fun a b=>by rw[peq_pp,h.all]⟩
theorem Enc.lst {τ:Type} {k:Nat} {f:τ→D} (h:Enc k f):Enc (k+1) fun xs:List τ=>D.lst (xs.map f):=
  ⟨fun n a hn=>by
    obtain ⟨m,rfl⟩:∃m,n=m+1:=⟨n - 1,by omega⟩
    rw[mM,List.all_map,List.all_eq_true]
    exact fun x _=>h.dok m x (by omega),fun a b=>by rw[mI,h.all]⟩
theorem jh {α:Type} {xs:List α} {i:Int} (h0:0≤i) (h1:i<xs.length):atI xs i=xs[i.toNat]?:=by
  unfold atI ixN
  simp[h0,h1]
theorem gZ {α:Type} {xs:List α} {i:Nat} (h1:i<xs.length):atI xs i=xs[i]?:=by
  rw[jh (by omega) (by omega),Int.toNat_natCast]
@[simp] theorem atI_0 {α:Type} (x:α) (xs:List α):atI (x::xs) 0=some x:=by rw[jh (by omega) (by simp)]; rfl
theorem lJ {α:Type} {x:α} {xs:List α} {i:Int} (h:0<i):atI (x::xs) i=atI xs (i - 1):=by
  unfold atI ixN
  by_cases hl:i<xs.length+1
  · rw[if_pos (by omega),if_pos (by simpa using hl),if_pos (by omega),if_pos (by omega)]
    simp only[Option.bind_some]
    obtain ⟨j,rfl⟩:∃j:Nat,i=j+1:=⟨(i - 1).toNat,by omega⟩
    rw[show ((j:Int)+1).toNat=j+1 by omega,show ((j:Int)+1 - 1).toNat=j by omega]
    rfl
  · rw[if_pos (by omega),if_neg (by simpa using hl),if_pos (by omega),if_neg (by omega)]; rfl
@[simp] theorem atI_1 {α:Type} (x:α) (xs:List α):atI (x::xs) 1=atI xs 0:=lJ (by omega)
@[simp] theorem atI_2 {α:Type} (x:α) (xs:List α):atI (x::xs) 2=atI xs 1:=lJ (by omega)
@[simp] theorem atI_3 {α:Type} (x:α) (xs:List α):atI (x::xs) 3=atI xs 2:=lJ (by omega)
@[simp] theorem atI_4 {α:Type} (x:α) (xs:List α):atI (x::xs) 4=atI xs 3:=lJ (by omega)
@[simp] theorem atI_5 {α:Type} (x:α) (xs:List α):atI (x::xs) 5=atI xs 4:=lJ (by omega)
@[simp] theorem atI_6 {α:Type} (x:α) (xs:List α):atI (x::xs) 6=atI xs 5:=lJ (by omega)
@[simp] theorem fIx_tup (S:Sto) (xs:List D) (i:Int):fIx S (.tup xs) (.int i)=atI xs i:=rfl
@[simp] theorem fIx_tpn (S:Sto) (xs:List D) (i:Int):fIx S (.tpn xs) (.int i)=atI xs i:=rfl
@[simp] theorem iL (S:Sto) (xs:List D) (i:Int):fIx S (.lst xs) (.int i)=atI xs i:=rfl
@[simp] theorem fIx_ro (S:Sto) (xs:List D) (i:Int):fIx S (.ro xs) (.int i)=atI xs i:=rfl
theorem uV {S:Sto} {l:Nat} {xs:List D} (h:S[l]?=some (.lst xs)) (i:Int):fIx S (.loc l) (.int i)=atI xs i:=by simp[fIx,h]
@[simp] theorem dctOf_dct (t:Bool) (kvs:List (D × D)):b9 (some (.dct t kvs))=some (t,kvs):=rfl
@[simp] theorem dctOf_fdc (t:Bool) (kvs:List (D × D)):b9 (some (.fdc t kvs))=some (t,kvs):=rfl
@[simp] theorem dctOf_lst (xs:List D):b9 (some (.lst xs))=none:=rfl
@[simp] theorem dctOf_none:b9 none=none:=rfl
@[simp] theorem fLen_tup (S:Sto) (xs:List D):bF S [.tup xs]=some (.int xs.length):=rfl
@[simp] theorem fLen_tpn (S:Sto) (xs:List D):bF S [.tpn xs]=some (.int xs.length):=rfl
@[simp] theorem fLen_lst (S:Sto) (xs:List D):bF S [.lst xs]=some (.int xs.length):=rfl
@[simp] theorem fLen_ro (S:Sto) (xs:List D):bF S [.ro xs]=some (.int xs.length):=rfl
theorem sX {S:Sto} {l:Nat} {xs:List D} (h:S[l]?=some (.lst xs)):bF S [.loc l]=some (.int xs.length):=by simp[bF,h]
@[simp] theorem fInt_int (S:Sto) (i:Int):fInt S [.int i]=some (.int i):=rfl
@[simp] theorem fTup_lst (S:Sto) (xs:List D):jW S [.lst xs]=some (.tpn xs):=rfl
@[simp] theorem fSum_ints (S:Sto) (xs:List Int):fSum S [.lst (xs.map .int)]=some (.int xs.sum):=by
  have h:l7 (xs.map .int)=some xs:=by
    induction xs with
    | nil=>rfl
    | cons x xs ih=>simp[l7,ih]
  simp[fSum,h]
@[simp] theorem ou (S:Sto) (xs:List Bool):kh S [.lst (xs.map .bool)]=some (.bool (xs.all id)):=by
  have h:gR (xs.map .bool)=some xs:=by
    induction xs with
    | nil=>rfl
    | cons x xs ih=>simp[gR,ih]
  simp[kh,h]
@[simp] theorem fMax2_int (S:Sto) (i j:Int):fMax2 S [.int i,.int j]=some (.int (max i j)):=by
  unfold fMax2
  simp only[Option.some.injEq,D.int.injEq]
  split<;>omega
@[simp] theorem fMin2_int (S:Sto) (i j:Int):fMin2 S [.int i,.int j]=some (.int (min i j)):=by
  unfold fMin2
  simp only[Option.some.injEq,D.int.injEq]
  split<;>omega
@[simp] theorem dTru_bool (S:Sto) (b:Bool):eP S (.bool b)=some b:=rfl
@[simp] theorem dTru_tup (S:Sto) (xs:List D):eP S (.tup xs)=some (!xs.isEmpty):=rfl
@[simp] theorem dTru_lst (S:Sto) (xs:List D):eP S (.lst xs)=some (!xs.isEmpty):=rfl
@[simp] theorem dTru_int (S:Sto) (i:Int):eP S (.int i)=some (i != 0):=rfl
@[simp] theorem iterD_tup (S:Sto) (xs:List D):cJ S (.tup xs)=some (.items xs):=by simp[cJ]
@[simp] theorem iterD_tpn (S:Sto) (xs:List D):cJ S (.tpn xs)=some (.items xs):=by simp[cJ]
@[simp] theorem iterD_lst (S:Sto) (xs:List D):cJ S (.lst xs)=some (.items xs):=by simp[cJ]
@[simp] theorem iterD_ro (S:Sto) (xs:List D):cJ S (.ro xs)=some (.items xs):=by simp[cJ]
theorem j6 {α:Type} (xs:List α) (i:Nat):bc xs (some (i:Int)) none=xs.drop i:=by
  unfold bc
  rw[HT.sIx_nat,HT.sIx_none]
  by_cases h:i≤xs.length
  · rw[Nat.min_eq_left h]; exact List.take_of_length_le (by simp)
  · rw[Nat.min_eq_right (by omega),List.drop_length,List.drop_eq_nil_of_le (by omega),List.take_nil]
theorem ow {α:Type} (xs:List α) (i:Nat):bc xs none (some (i:Int))=xs.take i:=by
  unfold bc
  rw[HT.sIx_nat,HT.sIx_none,List.drop_zero,Nat.sub_zero]
  by_cases h:i≤xs.length
  · rw[Nat.min_eq_left h]
  · rw[Nat.min_eq_right (by omega),List.take_of_length_le (Nat.le_refl _),List.take_of_length_le (by omega)]
theorem sY {α:Type} (xs:List α) {i j:Nat} (hj:j≤xs.length) (h:i≤j):bc xs (some (i:Int)) (some (j:Int))=(xs.drop i).take (j - i):=by
  unfold bc
  rw[HT.sIx_nat,HT.sIx_nat,Nat.min_eq_left hj,Nat.min_eq_left (by omega)]
theorem vt_cut {d:D} {xs:List D} (h:d=.tup xs∨d=.tpn xs) (lo hi:Option Int):∃d',jV d lo hi=some d'∧(d'=.tup (bc xs lo hi)∨d'=.tpn (bc xs lo hi)):=by
  rcases h with rfl|rfl
  · exact ⟨_,rfl,.inl rfl⟩
  · refine ⟨_,rfl,?_⟩
    split
    · rename_i h
      right
      congr 1
      unfold bc
      rw[h.1,h.2]
      simp
    · exact .inl rfl
@[simp] theorem fCut_lst (xs:List D) (lo hi:Option Int):jV (.lst xs) lo hi=some (.lst (bc xs lo hi)):=rfl
@[simp] theorem fCut_tup (xs:List D) (lo hi:Option Int):jV (.tup xs) lo hi=some (.tup (bc xs lo hi)):=rfl
@[simp] theorem keyOk_int (i:Int):bh false (.int i)=true:=rfl
@[simp] theorem keyOk_str (i:Str):bh false (.str i)=true:=rfl
theorem qD {τ:Type} (f:τ→D):∀xs ys:List τ,cU (xs.map f) (ys.map f)=(xs.zip ys).map fun p=>D.tup [f p.1,f p.2]
  | [],ys=>by cases ys<;>rfl
  | x::xs,[]=>rfl
  | x::xs,y::ys=>by simp[cU,qD f xs ys]
theorem ni {τ:Type} (f:τ→D):∀(xs:List τ) (n:Nat),cC n (xs.map f)=(xs.zipIdx n).map fun p=>D.tup [.int (p.2:Nat),f p.1]
  | [],_=>rfl
  | x::xs,n=>by simp[cC,ni f xs (n+1)]
@[simp] theorem cMul_l2 (j:Int):bP 2 j=true:=by simp[bP]
@[simp] theorem cMul_r2 (j:Int):bP j 2=true:=by simp[bP]
@[simp] theorem cMul_l3 (j:Int):bP 3 j=true:=by simp[bP]
@[simp] theorem cMul_r3 (j:Int):bP j 3=true:=by simp[bP]
@[simp] theorem cMul_l5 (j:Int):bP 5 j=true:=by simp[bP]
@[simp] theorem cMul_r5 (j:Int):bP j 5=true:=by simp[bP]
@[simp] theorem cMul_l7 (j:Int):bP 7 j=true:=by simp[bP]
@[simp] theorem cMul_r7 (j:Int):bP j 7=true:=by simp[bP]
@[simp] theorem cMul_l10 (j:Int):bP 10 j=true:=by simp[bP]
@[simp] theorem cMul_r10 (j:Int):bP j 10=true:=by simp[bP]
@[simp] theorem cMul_l20 (j:Int):bP 20 j=true:=by simp[bP]
@[simp] theorem cMul_r20 (j:Int):bP j 20=true:=by simp[bP]
@[simp] theorem cMul_l30 (j:Int):bP 30 j=true:=by simp[bP]
@[simp] theorem cMul_r30 (j:Int):bP j 30=true:=by simp[bP]
@[simp] theorem cMul_l60 (j:Int):bP 60 j=true:=by simp[bP]
@[simp] theorem cMul_r60 (j:Int):bP j 60=true:=by simp[bP]
@[simp] theorem cMul_l100 (j:Int):bP 100 j=true:=by simp[bP]
@[simp] theorem cMul_r100 (j:Int):bP j 100=true:=by simp[bP]
@[simp] theorem cMul_l1440 (j:Int):bP 1440 j=true:=by simp[bP]
@[simp] theorem cMul_r1440 (j:Int):bP j 1440=true:=by simp[bP]
@[simp] theorem vJ (j:Int):bP 48271 j=true:=by simp[bP]
@[simp] theorem vK (j:Int):bP j 48271=true:=by simp[bP]
@[simp] theorem cMod_2 (j:Int):eh j 2=true:=by simp[eh]
@[simp] theorem cMod_3 (j:Int):eh j 3=true:=by simp[eh]
@[simp] theorem cMod_4 (j:Int):eh j 4=true:=by simp[eh]
@[simp] theorem cMod_7 (j:Int):eh j 7=true:=by simp[eh]
@[simp] theorem cMod_100 (j:Int):eh j 100=true:=by simp[eh]
@[simp] theorem cMod_1440 (j:Int):eh j 1440=true:=by simp[eh]
@[simp] theorem rH (j:Int):eh j 2147483647=true:=by simp[eh]
@[simp] theorem cDiv_2 (j:Int):gj j 2=true:=by simp[gj]
@[simp] theorem cDiv_4 (j:Int):gj j 4=true:=by simp[gj]
@[simp] theorem cDiv_7 (j:Int):gj j 7=true:=by simp[gj]
@[simp] theorem cDiv_100 (j:Int):gj j 100=true:=by simp[gj]
@[simp] theorem cDiv_1440 (j:Int):gj j 1440=true:=by simp[gj]
@[simp] theorem smallI_0:a5 0=true:=smallI_iff.mpr (by decide)
@[simp] theorem smallI_1:a5 1=true:=smallI_iff.mpr (by decide)
@[simp] theorem smallI_2:a5 2=true:=smallI_iff.mpr (by decide)
@[simp] theorem smallI_3:a5 3=true:=smallI_iff.mpr (by decide)
@[simp] theorem smallI_4:a5 4=true:=smallI_iff.mpr (by decide)
@[simp] theorem smallI_5:a5 5=true:=smallI_iff.mpr (by decide)
@[simp] theorem smallI_7:a5 7=true:=smallI_iff.mpr (by decide)
@[simp] theorem smallI_8:a5 8=true:=smallI_iff.mpr (by decide)
theorem ck {i:Int} (h : -4611686018427387904≤i∧i<4611686018427387904):a5 i=true:=by
  exact smallI_iff.mpr ⟨by omega,by omega⟩
@[simp] theorem set_concat {α:Type} (T:List α) (x y:α):(T++[x]).set T.length y=T++[y]:=by
  rw[List.set_append_right _ _ (Nat.le_refl _)]; simp
@[simp] theorem wipe_nil (e:En):bn e []=e:=rfl
@[simp] theorem wipe_cons (e:En) (v:Nat) (vs:List Nat):bn e (v::vs)=(bn e vs).set v none:=rfl
end DL
namespace DL
open PySem PySem.Spec PyProof.Rows L2 LamX
section
variable {N B B2:En→Sto→Prop} {R:D→Sto→Prop} {E:XV→Sto→Prop}
@[simp ↓] theorem wq_eBin (f:Sto→D→D→Option D) (ma mb:ME) (env:En) (S:Sto) {Q:D→Sto→Prop}:Res.wp (aJ f ma mb env S) Q E=Res.wp ((ma env S).bind fun a S=>(mb env S).bind fun b S=>ofO S (f S a b)) Q E:=rfl
@[simp ↓] theorem wq_tOf (m:ME) (env:En) (S:Sto) {Q:Bool→Sto→Prop}:Res.wp (tOf m env S) Q E=Res.wp ((m env S).bind fun d S=>match d with
  | .bool b=>.ok b S
  | _=>.stuck) Q E:=rfl
@[simp ↓] theorem wq_pNo (x0:En) (S:Sto) {Q:Option Int→Sto→Prop}:Res.wp (pNo  x0 S) Q E=Res.wp (.ok none S) Q E:=rfl
@[simp ↓] theorem wq_pSome (m:ME) (env:En) (S:Sto) {Q:Option Int→Sto→Prop}:Res.wp (cR m env S) Q E=Res.wp ((m env S).bind fun d S=>match d with
  | .int i=>.ok (some i) S
  | _=>.stuck) Q E:=rfl
@[simp ↓] theorem wq_eCut (m:ME) (ml mh:MP) (env:En) (S:Sto) {Q:D→Sto→Prop}:Res.wp (fm m ml mh env S) Q E=Res.wp ((m env S).bind fun d S=>(ml env S).bind fun lo S=>(mh env S).bind fun hi S=>ofO S (jV (view0 S d) lo hi)) Q E:=rfl
@[simp ↓] theorem wq_eC (d:D) (x0:En) (S:Sto) {Q:D→Sto→Prop}:Res.wp (eC d x0 S) Q E=Res.wp (.ok d S) Q E:=rfl
@[simp ↓] theorem wq_eV (i:Nat) (env:En) (S:Sto) {Q:D→Sto→Prop}:Res.wp (eV i env S) Q E=Res.wp (match env[i]? with
  | some (some d)=>.ok d S
  | _=>.stuck) Q E:=rfl
@[simp ↓] theorem wq_tTru (m:ME) (env:En) (S:Sto) {Q:Bool→Sto→Prop}:Res.wp (cI m env S) Q E=Res.wp ((m env S).bind fun d S=>ofO S (eP S d)) Q E:=rfl
@[simp ↓] theorem wq_tAndM (ma mb:MT) (env:En) (S:Sto) {Q:Bool→Sto→Prop}:Res.wp (pi ma mb env S) Q E=Res.wp ((ma env S).bind fun c S=>if c=true then mb env S else .ok false S) Q E:=rfl
@[simp ↓] theorem wq_tOrM (ma mb:MT) (env:En) (S:Sto) {Q:Bool→Sto→Prop}:Res.wp (eq ma mb env S) Q E=Res.wp ((ma env S).bind fun c S=>if c=true then .ok true S else mb env S) Q E:=rfl
@[simp ↓] theorem wq_tNotM (ma:MT) (env:En) (S:Sto) {Q:Bool→Sto→Prop}:Res.wp (bi ma env S) Q E=Res.wp ((ma env S).bind fun c S=>.ok (!c) S) Q E:=rfl
@[simp ↓] theorem wq_eAnd (ma mb:ME) (env:En) (S:Sto) {Q:D→Sto→Prop}:Res.wp (fz ma mb env S) Q E=Res.wp ((ma env S).bind fun d S=>(ofO S (eP S d)).bind fun c S=>if c=true then mb env S else .ok d S) Q E:=rfl
@[simp ↓] theorem wq_eOr (ma mb:ME) (env:En) (S:Sto) {Q:D→Sto→Prop}:Res.wp (eOr ma mb env S) Q E=Res.wp ((ma env S).bind fun d S=>(ofO S (eP S d)).bind fun c S=>if c=true then .ok d S else mb env S) Q E:=rfl
@[simp ↓] theorem wq_eNot (ma:ME) (env:En) (S:Sto) {Q:D→Sto→Prop}:Res.wp (eNot ma env S) Q E=Res.wp ((ma env S).bind fun d S=>(ofO S (eP S d)).bind fun c S=>.ok (.bool (!c)) S) Q E:=rfl
@[simp ↓] theorem wq_eIf (tc:MT) (ma mb:ME) (env:En) (S:Sto) {Q:D→Sto→Prop}:Res.wp (eIf tc ma mb env S) Q E=Res.wp ((tc env S).bind fun c S=>if c=true then ma env S else mb env S) Q E:=rfl
@[simp ↓] theorem wq_eNeg (ma:ME) (env:En) (S:Sto) {Q:D→Sto→Prop}:Res.wp (eNeg ma env S) Q E=Res.wp ((ma env S).bind fun d S=>match d with
  | .int i=>.ok (.int (-i)) S
  | _=>.stuck) Q E:=rfl
@[simp ↓] theorem wq_eChain (f g:Sto→D→D→Option D) (ma mb mc:ME) (env:En) (S:Sto) {Q:D→Sto→Prop}:Res.wp (f7 f g ma mb mc env S) Q E=Res.wp ((ma env S).bind fun a S=>(mb env S).bind fun b S=>match f S a b with
  | some (.bool true)=>(mc env S).bind fun c S=>ofO S (g S b c)
  | some (.bool false)=>.ok (.bool false) S
  | _=>.stuck) Q E:=rfl
@[simp ↓] theorem wq_aNil (x0:En) (S:Sto) {Q:List D→Sto→Prop}:Res.wp (aE  x0 S) Q E=Res.wp (.ok [] S) Q E:=rfl
@[simp ↓] theorem wq_aCons (m:ME) (r:MA) (env:En) (S:Sto) {Q:List D→Sto→Prop}:Res.wp (aB m r env S) Q E=Res.wp ((m env S).bind fun d S=>(r env S).bind fun ds S=>.ok (d::ds) S) Q E:=rfl
@[simp ↓] theorem wq_eTup (r:MA) (env:En) (S:Sto) {Q:D→Sto→Prop}:Res.wp (bB r env S) Q E=Res.wp ((r env S).bind fun ds S=>if ds.length≤1000000 then .ok (.tup ds) S else .stuck) Q E:=rfl
@[simp ↓] theorem wq_eLst (r:MA) (env:En) (S:Sto) {Q:D→Sto→Prop}:Res.wp (cS r env S) Q E=Res.wp ((r env S).bind fun ds S=>if ds.length≤1000000 then .ok (.lst ds) S else .stuck) Q E:=rfl
@[simp ↓] theorem wq_eLstM (r:MA) (env:En) (S:Sto) {Q:D→Sto→Prop}:Res.wp (iB r env S) Q E=Res.wp ((r env S).bind fun ds S=>if ds.length≤1000000 then .ok (.loc S.length) (S++[.lst ds]) else .stuck) Q E:=rfl
@[simp ↓] theorem wq_eDct (t:Bool) (x0:En) (S:Sto) {Q:D→Sto→Prop}:Res.wp (eDct t x0 S) Q E=Res.wp (.ok (.loc S.length) (S++[.dct t []])) Q E:=rfl
@[simp ↓] theorem wq_sNil (env:En) (S:Sto):RS.wp (bQ  env S) N R E B B2=RS.wp (.next env S) N R E B B2:=rfl
@[simp ↓] theorem wq_sSeq (a b:MS) (env:En) (S:Sto):RS.wp (aO a b env S) N R E B B2=RS.wp ((a env S).andThen b) N R E B B2:=rfl
@[simp ↓] theorem wq_sExpr (m:ME) (env:En) (S:Sto):RS.wp (fB m env S) N R E B B2=RS.wp ((m env S).rs env fun _ S=>.next env S) N R E B B2:=rfl
@[simp ↓] theorem wq_sRet (m:ME) (env:En) (S:Sto):RS.wp (aq m env S) N R E B B2=RS.wp ((m env S).rs env fun d S=>.ret d S) N R E B B2:=rfl
@[simp ↓] theorem wq_sRetN (x0:En) (S:Sto):RS.wp (sRetN  x0 S) N R E B B2=RS.wp (.ret .none S) N R E B B2:=rfl
@[simp ↓] theorem wq_sBreak (env:En) (S:Sto):RS.wp (rY  env S) N R E B B2=RS.wp (.brk env S) N R E B B2:=rfl
@[simp ↓] theorem wq_sCont (env:En) (S:Sto):RS.wp (sCont  env S) N R E B B2=RS.wp (.cont env S) N R E B B2:=rfl
@[simp ↓] theorem wq_sStuck (x0:En) (x1:Sto):RS.wp (eA  x0 x1) N R E B B2=RS.wp (.stuck) N R E B B2:=rfl
@[simp ↓] theorem wq_eStuck (x0:En) (x1:Sto) {Q:D→Sto→Prop}:Res.wp (rZ  x0 x1) Q E=Res.wp (.stuck) Q E:=rfl
@[simp ↓] theorem sZ (tc:MT) (a b:MS) (env:En) (S:Sto):RS.wp (sIf tc a b env S) N R E B B2=RS.wp ((tc env S).rs env fun c S=>if c=true then a env S else b env S) N R E B B2:=rfl
@[simp ↓] theorem wq_sAsg (m:ME) (g:MG) (env:En) (S:Sto):RS.wp (nI m g env S) N R E B B2=RS.wp ((m env S).rs env fun d S=>ofG (g d env S)) N R E B B2:=rfl
@[simp ↓] theorem wq_sPar (i j:Nat) (r:MA) (env:En) (S:Sto):RS.wp (sPar i j r env S) N R E B B2=RS.wp ((r env S).rs env fun ds S=>match ds with
  | [a,b]=>.next ((env.set i (some a)).set j (some b)) S
  | _=>.stuck) N R E B B2:=rfl
@[simp ↓] theorem wq_sSet (i:Nat) (m:ME) (env:En) (S:Sto):RS.wp (ao i m env S) N R E B B2=RS.wp ((m env S).rs env fun d S=>.next (env.set i (some d)) S) N R E B B2:=rfl
@[simp ↓] theorem wq_sAug (i:Nat) (f:Sto→D→D→Option D) (m:ME) (env:En) (S:Sto):RS.wp (sAug i f m env S) N R E B B2=RS.wp (match env[i]? with
  | some (some a)=>(m env S).rs env fun b S=>match f S a b with
    | some d=>.next (env.set i (some d)) S
    | none=>.stuck
  | _=>.stuck) N R E B B2:=rfl
@[simp ↓] theorem wq_iAny (m:ME) (env:En) (S:Sto) {Q:ItD→Sto→Prop}:Res.wp (dj m env S) Q E=Res.wp ((m env S).bind fun d S=>ofO S (cJ S d)) Q E:=rfl
@[simp ↓] theorem wq_iRng1D (r:MA) (env:En) (S:Sto) {Q:ItD→Sto→Prop}:Res.wp (c7 r env S) Q E=Res.wp ((r env S).bind fun ds S=>match ds with
  | [.int j]=>if a5 j then .ok (.items (ij 0 j.toNat)) S else .stuck
  | _=>.stuck) Q E:=rfl
@[simp ↓] theorem wq_iRng2D (r:MA) (env:En) (S:Sto) {Q:ItD→Sto→Prop}:Res.wp (rh r env S) Q E=Res.wp ((r env S).bind fun ds S=>match ds with
  | [.int i,.int j]=>if a5 i&&a5 j then .ok (.items (ij i (j - i).toNat)) S else .stuck
  | _=>.stuck) Q E:=rfl
@[simp ↓] theorem wq_iEnumD (r:MA) (env:En) (S:Sto) {Q:ItD→Sto→Prop}:Res.wp (fX r env S) Q E=Res.wp ((r env S).bind fun ds S=>match ds.map vt with
  | [.tup xs]=>.ok (.items (cC 0 xs)) S
  | [.lst xs]=>.ok (.items (cC 0 xs)) S
  | [.loc l]=>match S[l]? with
    | some (.lst _)=>.ok (.liveE l) S
    | _=>.stuck
  | _=>.stuck) Q E:=rfl
@[simp ↓] theorem wq_iZipD (r:MA) (env:En) (S:Sto) {Q:ItD→Sto→Prop}:Res.wp (iZipD r env S) Q E=Res.wp ((r env S).bind fun ds S=>match ds.map vt with
  | [.tup xs,.tup ys]=>.ok (.items (cU xs ys)) S
  | [.lst xs,.lst ys]=>.ok (.items (cU xs ys)) S
  | _=>.stuck) Q E:=rfl
@[simp ↓] theorem iM (mi:MI) (g:MG) (b:MS) (env:En) (S:Sto):RS.wp (eR mi g b env S) N R E B B2=RS.wp ((mi env S).rs env fun it S=>match it with
  | .items ds=>dI g b ds env S
  | .live l=>fC g b l (eQ S l+1) 0 env S
  | .liveE l=>fD g b l (eQ S l+1) 0 env S) N R E B B2:=rfl
@[simp ↓] theorem wq_compR (mi:MI) (g:MG) (tc:MT) (m:ME) (vs:List Nat) (env:En) (S:Sto) {Q:List D→Sto→Prop}:Res.wp (gn mi g tc m vs env S) Q E=Res.wp ((mi env S).bind fun it S=>match it with
  | .items ds=>cr g tc m (bn env vs) ds [] S
  | .live l=>jy g tc m (bn env vs) l (eQ S l+1) 0 [] S
  | .liveE l=>jz g tc m (bn env vs) l (eQ S l+1) 0 [] S) Q E:=rfl
@[simp ↓] theorem wq_eComp (mi:MI) (g:MG) (tc:MT) (m:ME) (vs:List Nat) (env:En) (S:Sto) {Q:D→Sto→Prop}:Res.wp (cD mi g tc m vs env S) Q E=Res.wp ((gn mi g tc m vs env S).bind fun ds S=>.ok (.lst ds) S) Q E:=rfl
@[simp ↓] theorem wq_eCompM (mi:MI) (g:MG) (tc:MT) (m:ME) (vs:List Nat) (env:En) (S:Sto) {Q:D→Sto→Prop}:Res.wp (rj mi g tc m vs env S) Q E=Res.wp ((gn mi g tc m vs env S).bind fun ds S=>.ok (.loc S.length) (S++[.lst ds])) Q E:=rfl
@[simp ↓] theorem wq_tYesM (x0:En) (S:Sto) {Q:Bool→Sto→Prop}:Res.wp (bv  x0 S) Q E=Res.wp (.ok true S) Q E:=rfl
@[simp ↓] theorem wq_chk (n:Nat) (m:MF) (ds:List D) (S:Sto) {Q:D→Sto→Prop}:Res.wp (chk n m ds S) Q E=Res.wp (if ds.length=n then m ds S else .stuck) Q E:=rfl
@[simp ↓] theorem wq_eCall (n:Nat) (m:MF) (r:MA) (env:En) (S:Sto) {Q:D→Sto→Prop}:Res.wp (aN n m r env S) Q E=Res.wp ((r env S).bind fun ds S=>chk n m ds S) Q E:=rfl
@[simp ↓] theorem wq_eMeth (cn nm:Str) (n:Nat) (m:MF) (ma:ME) (r:MA) (env:En) (S:Sto) {Q:D→Sto→Prop}:Res.wp (eMeth cn nm n m ma r env S) Q E=Res.wp ((ma env S).bind fun d S=>match d with
  | .loc l=>match S[l]? with
    | some (.ins C fs)=>if C=cn∧(fs.map (·.1)).contains nm=false then (r env S).bind fun ds S=>chk n m (.loc l::ds) S else .stuck
    | _=>.stuck
  | _=>.stuck) Q E:=rfl
@[simp ↓] theorem wq_eMake (cn:Str) (n:Nat) (mi:MF) (r:MA) (env:En) (S:Sto) {Q:D→Sto→Prop}:Res.wp (eMake cn n mi r env S) Q E=Res.wp ((r env S).bind fun ds S=>(chk n mi (.loc S.length::ds) (S++[.ins cn []])).bind fun d S'=>match d with
  | .none=>.ok (.loc S.length) S'
  | _=>.stuck) Q E:=rfl
@[simp ↓] theorem wq_eFld (cn f:Str) (ma:ME) (env:En) (S:Sto) {Q:D→Sto→Prop}:Res.wp (eFld cn f ma env S) Q E=Res.wp ((ma env S).bind fun d S=>match d with
  | .loc l=>match S[l]? with
    | some (.ins C fs)=>if C=cn then ofO S (fs.lookup f) else .stuck
    | _=>.stuck
  | _=>.stuck) Q E:=rfl
@[simp ↓] theorem wq_sFldM (cn f:Str) (ma mv:ME) (env:En) (S:Sto):RS.wp (sFldM cn f ma mv env S) N R E B B2=RS.wp ((mv env S).rs env fun d S=>(ma env S).rs env fun o S=>match o with
  | .loc l=>match S[l]? with
    | some (.ins C fs)=>if C=cn∧fs.length<1000 then .next env (S.set l (.ins C (l5 f d fs))) else .stuck
    | _=>.stuck
  | _=>.stuck) N R E B B2:=rfl
@[simp ↓] theorem wq_eB (f:BF) (r:MA) (env:En) (S:Sto) {Q:D→Sto→Prop}:Res.wp (eB f r env S) Q E=Res.wp ((r env S).bind fun ds S=>ofO S (f S ds)) Q E:=rfl
@[simp ↓] theorem wq_eM (ok:Sto→D→Bool) (f:BM) (ma:ME) (r:MA) (env:En) (S:Sto) {Q:D→Sto→Prop}:Res.wp (eM ok f ma r env S) Q E=Res.wp ((ma env S).bind fun d S=>if ok S d then (r env S).bind fun ds S=>match f S d ds with
  | some p=>.ok p.1 p.2
  | none=>.stuck else .stuck) Q E:=rfl
@[simp ↓] theorem wq_eRev (m:ME) (env:En) (S:Sto) {Q:D→Sto→Prop}:Res.wp (eRev m env S) Q E=Res.wp ((m env S).bind fun d S=>match view S d with
  | .lst xs=>.ok (.lst xs.reverse) S
  | _=>.stuck) Q E:=rfl
@[simp ↓] theorem wq_eDictP (r:MA) (env:En) (S:Sto) {Q:D→Sto→Prop}:Res.wp (r6 r env S) Q E=Res.wp ((r env S).bind fun ds S=>match ds with
  | [.tpn xs]=>match gS xs with
    | some ps=>if xs.length≤1000000 then .ok (.loc S.length) (S++[.dct false (cQ [] ps)]) else .stuck
    | none=>.stuck
  | _=>.stuck) Q E:=rfl
@[simp ↓] theorem wq_eDComp (mi:MI) (g:MG) (tc:MT) (mk mv:ME) (vs:List Nat) (env:En) (S:Sto) {Q:D→Sto→Prop}:Res.wp (r7 mi g tc mk mv vs env S) Q E=Res.wp ((mi env S).bind fun it S=>match it with
  | .items ds=>(mC g tc mk mv (bn env vs) ds [] S).bind kD
  | .live _=>.stuck
  | .liveE _=>.stuck) Q E:=rfl
@[simp ↓] theorem wq_sRaise (C:Str) (env:En) (S:Sto):RS.wp (r8 C env S) N R E B B2=RS.wp (.exc ⟨C,[]⟩ env S) N R E B B2:=rfl
@[simp ↓] theorem wq_eKind (hd:Hdr) (m:ME) (env:En) (S:Sto) {Q:D→Sto→Prop}:Res.wp (fG hd m env S) Q E=Res.wp (j3 hd (m env S)) Q E:=rfl
@[simp ↓] theorem wq_kD (kvs:List (D × D)) (S:Sto) {Q:D→Sto→Prop}:Res.wp (kD kvs S) Q E=Res.wp (.ok (.loc S.length) (S++[.dct false kvs])) Q E:=rfl
end
end DL
namespace DL
open PySem PySem.Spec PyProof.Rows L2 LamX
def dlt (a b:D):Bool:=PySem.W.dataLt (pdF a) (pdF b)
def c8 (xs ys:List D):Bool:=PySem.W.rowLt (pdFs xs) (pdFs ys)
def alk (a b:D):Bool:=PySem.W.alike (pdF a) (pdF b)
def c9 (xs ys:List D):Bool:=PySem.W.alikeAll (pdFs xs) (pdFs ys)
@[simp] theorem alk_int (i j:Int):alk (.int i) (.int j)=true:=by simp[alk,pdF,PySem.W.alike]
@[simp] theorem alk_str (i j:Str):alk (.str i) (.str j)=true:=by simp[alk,pdF,PySem.W.alike]
@[simp] theorem alk_tup (i j:List D):alk (.tup i) (.tup j)=c9 i j:=by simp[alk,c9,pdF,PySem.W.alike]
@[simp] theorem alk_tpn (i j:List D):alk (.tpn i) (.tpn j)=c9 i j:=by simp[alk,c9,pdF,PySem.W.alike]
@[simp] theorem alk_lst (i j:List D):alk (.lst i) (.lst j)=c9 i j:=by simp[alk,c9,pdF,PySem.W.alike]
@[simp] theorem vL (x y:D) (i j:List D):c9 (x::i) (y::j)=(alk x y&&c9 i j):=by simp[alk,c9,pdFs,PySem.W.alikeAll]
@[simp] theorem vM (j:List D):c9 [] j=true:=by simp[c9,pdFs,PySem.W.alikeAll]
@[simp] theorem vN (j:List D):c9 j []=true:=by cases j<;>simp[c9,pdFs,PySem.W.alikeAll]
@[simp] theorem dlt_int (i j:Int):dlt (.int i) (.int j)=decide (i<j):=by unfold dlt pdF; rw[PySem.W.dataLt_int]
@[simp] theorem dlt_str (i j:Str):dlt (.str i) (.str j)=decide (i.cps.toList<j.cps.toList):=by unfold dlt pdF; rw[PySem.W.dataLt_str]
@[simp] theorem dlt_tup (i j:List D):dlt (.tup i) (.tup j)=c8 i j:=by unfold dlt pdF; rw[PySem.W.dataLt_tuple]; rfl
@[simp] theorem dlt_tpn (i j:List D):dlt (.tpn i) (.tpn j)=c8 i j:=by unfold dlt pdF; rw[PySem.W.dataLt_tuple]; rfl
@[simp] theorem dlt_tp (i j:List D):dlt (.tup i) (.tpn j)=c8 i j:=by unfold dlt pdF; rw[PySem.W.dataLt_tuple]; rfl
@[simp] theorem dlt_pt (i j:List D):dlt (.tpn i) (.tup j)=c8 i j:=by unfold dlt pdF; rw[PySem.W.dataLt_tuple]; rfl
@[simp] theorem dltAll_nil:c8 [] []=false:=by unfold c8 PySem.W.rowLt; exact lex_irrefl _
theorem jM {x y:D} (h:alk x y=true) (i j:List D):c8 (x::i) (y::j)=if peq x y=true then c8 i j else dlt x y:=by
  simp only[c8,PySem.W.rowLt,pdFs]
  exact PySem.W.dataLt_cons h _ _
@[simp] theorem dltAll_int (x y:Int) (i j:List D):c8 (.int x::i) (.int y::j)=if x=y then c8 i j else decide (x<y):=by
  rw[jM (by simp)]; simp
@[simp] theorem dltAll_str (x y:Str) (i j:List D):c8 (.str x::i) (.str y::j)=if x=y then c8 i j else decide (x.cps.toList<y.cps.toList):=by
  rw[jM (by simp)]; simp
@[simp] theorem sortOf_lst (S:Sto) (xs:List D):og S (.lst xs)=some xs:=rfl
end DL
namespace DL
open PySem PySem.Spec PyProof.Rows L2 LamX
/-- the dict that is told by d -/
def qE (S:Sto) (d:D) (f:Nat→Bool→List (D × D)→Prop) (_:Dum f:=.mk) (_:True:=trivial):Prop:=match d with
  | .loc l=>match S[l]? with
    | some (.dct t kvs)=>f l t kvs
    | _=>False
  | _=>False
section
variable {N B C:En→Sto→Prop} {R:D→Sto→Prop} {E:XV→Sto→Prop} {Q:D→Sto→Prop}
@[simp ↓] theorem wq_eLock (ml mb:ME) (env:En) (S:Sto):Res.wp (eLock ml mb env S) Q E=Res.wp (ml env S) (fun d _=>qE S d fun l t kvs=>Res.wp (mb env (S.set l (.fdc t kvs))) (fun d S'=>Q d (S'.set l (.dct t kvs))) NoE) NoE:=by
  unfold eLock
  cases ml env S with
  | exc _ _=>simp
  | stuck=>simp
  | ok d S1=>
    rw[fK]
    cases d<;>simp only[qE,j5]
    rename_i l
    cases S[l]? with
    | none=>simp
    | some o=>
      cases o<;>simp only[j5]
      cases mb env _<;>simp
@[simp ↓] theorem wq_sLock (ml:ME) (mb:MS) (env:En) (S:Sto):RS.wp (sLock ml mb env S) N R E B C=Res.wp (ml env S) (fun d _=>qE S d fun l t kvs=>RS.wp (mb env (S.set l (.fdc t kvs))) (fun e S'=>N e (S'.set l (.dct t kvs))) (fun d S'=>R d (S'.set l (.dct t kvs))) NoE (fun e S'=>B e (S'.set l (.dct t kvs))) (fun e S'=>C e (S'.set l (.dct t kvs)))) NoE:=by
  unfold sLock
  cases ml env S with
  | exc _ _=>simp
  | stuck=>simp
  | ok d S1=>
    rw[fK]
    cases d<;>simp only[qE,lI]
    rename_i l
    cases S[l]? with
    | none=>simp
    | some o=>
      cases o<;>simp only[lI]
      cases mb env _<;>simp
end
@[simp ↓] theorem vO (m:ME) (i:Nat) (mk:ME) (env:En) (S:Sto) {Q:D→Sto→Prop} {E:XV→Sto→Prop}:Res.wp (sP m i mk env S) Q E=Res.wp ((m env S).bind fun d S=>match og S d with
  | some xs=>(sN mk i env xs [] S).bindS fun ks S=>if rq ks=true∧xs.length≤1000000 then .ok (.loc S.length) (S++[.lst (sO xs ks)]) else .stuck
  | none=>.stuck) Q E:=rfl
@[simp ↓] theorem wp_bindS {α β:Type} {r:Res β} {f:β→Sto→Res α} {Q:α→Sto→Prop} {E:XV→Sto→Prop}:Res.wp (r.bindS f) Q E=Res.wp r (fun a S=>Res.wp (f a S) Q E) NoE:=by cases r<;>simp[Res.bindS]
end DL
namespace DL
open PySem PySem.Spec PyProof.Rows L2 LamX
section
variable {α β:Type} {N B C:En→Sto→Prop} {R:D→Sto→Prop} {E:XV→Sto→Prop} {S:Sto} {env:En}
theorem uW {τ:Type} {g:MG} {b:MS} {f:τ→D} {l:Nat} (xs:List τ) (I:List τ→List τ→En→Sto→Prop) (keep:∀pre rest env S,pre++rest=xs→I pre rest env S→S[l]?=some (.lst (xs.map f))) (h:I [] xs env S)
    (step:∀pre x rest env S,pre++x::rest=xs→I pre (x::rest) env S→∃p,g (f x) env S=some p∧RS.wp (b p.1 p.2) (I (pre++[x]) rest) R E N (I (pre++[x]) rest))
    (fin:∀env S,I xs [] env S→N env S):RS.wp (fC g b l (eQ S l+1) 0 env S) N R E B C:=by
  have hlen:eQ S l=xs.length:=by
    have:=keep [] xs env S rfl h
    simp[eQ,this]
  rw[hlen]
  have loop:∀(rest pre:List τ) (env:En) (S:Sto),pre++rest=xs→I pre rest env S→RS.wp (fC g b l (rest.length+1) pre.length env S) N R E B C:=by
    intro rest
    induction rest with
    | nil=>
      intro pre env S e h
      have hk:=keep pre [] env S e h
      rw[List.append_nil] at e
      unfold fC
      simp only[hk]
      rw[show (xs.map f)[pre.length]?=none by rw[←e]; simp]
      simp only[dL]
      rw[e] at h
      exact fin env S h
    | cons x rest ih=>
      intro pre env S e h
      have hk:=keep pre (x::rest) env S e h
      obtain ⟨p,e1,hb⟩:=step pre x rest env S e h
      rw[List.length_cons]
      unfold fC
      simp only[hk]
      rw[show (xs.map f)[pre.length]?=some (f x) by rw[←e]; simp]
      simp only[e1]
      have hl:(pre++[x]).length=pre.length+1:=by simp
      generalize b p.1 p.2=y at hb
      cases y with
      | next e' S'=>rw[dL] at hb; simpa only [hl] using ih (pre++[x]) e' S' (by rw[←e]; simp) hb
      | cont e' S'=>rw[iK] at hb; simpa only [hl] using ih (pre++[x]) e' S' (by rw[←e]; simp) hb
      | brk e' S'=>simpa using hb
      | ret d S'=>simpa using hb
      | exc x e' S'=>simpa using hb
      | stuck=>simpa using hb
  exact loop xs [] env S rfl h
end
section
variable {Q:D→Sto→Prop} {E:XV→Sto→Prop}
@[simp ↓] theorem wq_eGet (md mk mz:ME) (env:En) (S:Sto):Res.wp (eGet md mk mz env S) Q E=Res.wp ((md env S).bind fun d S=>if isD S d=true then (mk env S).bind fun k S=>(mz env S).bind fun z S=>ofO S (sQ S d k z) else .stuck) Q E:=rfl
@[simp] theorem eGet_at (md mk mz:ME) (env:En) (S:Sto):eGet md mk mz env S=((md env S).bind fun d S=>if isD S d=true then (mk env S).bind fun k S=>(mz env S).bind fun z S=>ofO S (sQ S d k z) else .stuck):=rfl
/-- what setdefault does at last -/
def kSetd (l:Nat) (k z:D) (S:Sto):Res D:=match S[l]? with
    | some (.dct false kvs)=>if bh false k=true∧kvs.length<1000000 then (match df false kvs k with
      | some v=>.ok v S
      | none=>.ok z (S.set l (.dct false (jX false kvs k z)))) else .stuck
    | _=>.stuck
def se (d k z:D) (S:Sto):Res D:=match d with
  | .loc l=>kSetd l k z S
  | _=>.stuck
@[simp] theorem kSetD_loc (l:Nat) (k z:D) (S:Sto):se (.loc l) k z S=kSetd l k z S:=rfl
theorem sf (md mk mz:ME) (env:En) (S:Sto):eSetd md mk mz env S=((md env S).bind fun d S=>if isD S d=true then (mk env S).bind fun k S=>(mz env S).bind fun z S=>se d k z S else .stuck):=rfl
@[simp ↓] theorem wq_eSetd (md mk mz:ME) (env:En) (S:Sto):Res.wp (eSetd md mk mz env S) Q E=Res.wp ((md env S).bind fun d S=>if isD S d=true then (mk env S).bind fun k S=>(mz env S).bind fun z S=>se d k z S else .stuck) Q E:=by rw[sf]
@[simp ↓] theorem wq_eCallD (n:Nat) (d:D) (m:MF) (r:MA) (env:En) (S:Sto):Res.wp (sR n d m r env S) Q E=Res.wp ((r env S).bind fun ds S=>chk n m (ds++[d]) S) Q E:=rfl
@[simp ↓] theorem wq_eCallK (n k:Nat) (m:MF) (r rk:MA) (env:En) (S:Sto):Res.wp (sS n k m r rk env S) Q E=Res.wp ((r env S).bind fun ds S=>(rk env S).bind fun zs S=>if ds.length=k then chk n m (ds++zs) S else .stuck) Q E:=rfl
@[simp] theorem eCallD_at (n:Nat) (d:D) (m:MF) (r:MA) (env:En) (S:Sto):sR n d m r env S=((r env S).bind fun ds S=>chk n m (ds++[d]) S):=rfl
@[simp] theorem eCallK_at (n k:Nat) (m:MF) (r rk:MA) (env:En) (S:Sto):sS n k m r rk env S=((r env S).bind fun ds S=>(rk env S).bind fun zs S=>if ds.length=k then chk n m (ds++zs) S else .stuck):=rfl
end
@[simp] theorem sPar3_at (i j l:Nat) (r:MA) (env:En) (S:Sto):sPar3 i j l r env S=(r env S).rs env fun ds S=>match ds with
  | [a,b,c]=>.next (((env.set i (some a)).set j (some b)).set l (some c)) S
  | _=>.stuck:=rfl
@[simp ↓] theorem wq_sPar3 (i j l:Nat) (r:MA) (env:En) (S:Sto) {N B C:En→Sto→Prop} {R:D→Sto→Prop} {E:XV→Sto→Prop}:RS.wp (sPar3 i j l r env S) N R E B C=RS.wp ((r env S).rs env fun ds S=>match ds with
  | [a,b,c]=>.next (((env.set i (some a)).set j (some b)).set l (some c)) S
  | _=>.stuck) N R E B C:=rfl
@[simp] theorem isD_loc (S:Sto) (l:Nat):isD S (.loc l)=(b9 S[l]?).isSome:=rfl
end DL
namespace DL
open PySem PySem.Spec PyProof.Rows L2
section
variable {N:En→Sto→Prop} {R:D→Sto→Prop} {E:XV→Sto→Prop} {B B2:En→Sto→Prop}
@[simp] theorem sRaiseF_at (C:Str) (ns:List Str) (r:MA) (env:En) (S:Sto):dn C ns r env S=(r env S).rs env fun ds S=>if ds.length=ns.length∧ns≠[]∧ns.length≤1000 then .exc ⟨C,(ns.zip ds).reverse⟩ env S else .stuck:=rfl
@[simp ↓] theorem wq_sRaiseF (C:Str) (ns:List Str) (r:MA) (env:En) (S:Sto):RS.wp (dn C ns r env S) N R E B B2=RS.wp ((r env S).rs env fun ds S=>if ds.length=ns.length∧ns≠[]∧ns.length≤1000 then .exc ⟨C,(ns.zip ds).reverse⟩ env S else .stuck) N R E B B2:=rfl
@[simp] theorem eMakeK_at (cn:Str) (n k:Nat) (mi:MF) (r rk:MA) (env:En) (S:Sto):sU cn n k mi r rk env S=(r env S).bind fun ds S=>(rk env S).bind fun zs S=>if ds.length+1=k then (chk n mi (.loc S.length::(ds++zs)) (S++[.ins cn []])).bind (fun d S'=>match d with
  | .none=>.ok (.loc S.length) S'
  | _=>.stuck) else .stuck:=rfl
@[simp ↓] theorem wq_eMakeK (cn:Str) (n k:Nat) (mi:MF) (r rk:MA) (env:En) (S:Sto) {Q:D→Sto→Prop}:Res.wp (sU cn n k mi r rk env S) Q E=Res.wp ((r env S).bind fun ds S=>(rk env S).bind fun zs S=>if ds.length+1=k then (chk n mi (.loc S.length::(ds++zs)) (S++[.ins cn []])).bind (fun d S'=>match d with
  | .none=>.ok (.loc S.length) S'
  | _=>.stuck) else .stuck) Q E:=rfl
end
end DL
namespace DL
open PySem PySem.Spec PyProof.Rows L2
def nj (cn f:Str) (op:Sto→D→D→Option D) (ma mv:ME):MS:=fun env S=>(ma env S).rs env fun o S=>match o with
  | .loc l=>match S[l]? with
    | some (.ins C fs)=>if C=cn then match fs.lookup f with
        | some a=>(mv env S).rs env fun b S=>match op S a b with
          | some d=>match S[l]? with
            | some (.ins C' fs')=>if C'=cn∧fs'.length<1000 then .next env (S.set l (.ins C' (l5 f d fs'))) else .stuck
            | _=>.stuck
          | none=>.stuck
        | none=>.stuck
      else .stuck
    | _=>.stuck
  | _=>.stuck
def nk (op:Sto→D→D→Option D) (mo mi mv:ME):MS:=fun env S=>(mo env S).rs env fun o S=>match o with
  | .loc l=>(mi env S).rs env fun i S=>match fIx S (.loc l) i with
    | some a=>(mv env S).rs env fun b S=>match op S a b with
      | some d=>match dZ S (.loc l) i d with
        | some S'=>.next env S'
        | none=>.stuck
      | none=>.stuck
    | none=>.stuck
  | _=>.stuck
def fMax3 (_:Sto) (ds:List D):Option D:=match ds with
  | [.int i,.int j,.int k]=>some (.int (if j>i then (if k>j then k else j) else (if k>i then k else i)))
  | _=>none
@[simp] theorem fMax3_int (S:Sto) (i j k:Int):fMax3 S [.int i,.int j,.int k]=some (.int (max (max i j) k)):=by
  unfold fMax3
  simp only[Option.some.injEq,D.int.injEq]
  split<;>split<;>omega
end DL
namespace DL
open PySem PySem.Spec PyProof.Rows L2
def lK (m:ME):ME:=fun env S=>(m env S).bind fun d S=>match d with
  | .loc l=>match S[l]? with
    | some (.dct false kvs)=>.ok (.lst (kvs.map (·.2))) S
    | _=>.stuck
  | _=>.stuck
end DL
namespace DL
open PySem PySem.Spec PyProof.Rows L2
/-- the unlike ones of the first texts -/
def unl:List Str→List Str
  | []=>[]
  | x::r=>if x∈r then unl r else x::unl r
/-- how many unlike ones stand in the first i -/
def cntU (xs:List Str) (i:Nat):Nat:=(unl (xs.take i).reverse).length
/-- the texts of a list -/
def gw:List D→Option (List Str)
  | []=>some []
  | .str z::r=>(gw r).map (z::·)
  | _=>none
theorem j7:∀xs:List Str,gw (xs.map D.str)=some xs
  | []=>rfl
  | x::r=>by rw[List.map_cons,gw,j7 r]; rfl
def qF (m:ME):ME:=fun env S=>(m env S).bind fun d S=>match view S d with
  | .lst ds=>match gw ds with
    | some xs=>if xs.length≤100 then .ok (.int (cntU xs xs.length:Nat)) S else .stuck
    | none=>.stuck
  | _=>.stuck
end DL
namespace DL
open PySem PySem.Spec PyProof.Rows L2
end DL
namespace DL
open PySem PySem.Spec PyProof.Rows L2
def lL (p:D × D):D:=.tup [p.1,p.2]
def iItmD (m:ME):MI:=fun env S=>(m env S).bind fun d S=>match d with
  | .loc l=>match S[l]? with
    | some (.dct true kvs)=>.ok (.items (kvs.map lL)) (S.set l (.fdc true kvs))
    | some (.fdc false kvs)=>.ok (.items (kvs.map lL)) S
    | _=>.stuck
  | _=>.stuck
end DL
namespace DL
open PySem PySem.Spec PyProof.Rows L2
def si (cn:Str) (n:Nat) (z:D) (mi:MF) (r:MA):ME:=fun env S=>(r env S).bind fun ds S=>(chk n mi (.loc S.length::(ds++[z])) (S++[.ins cn []])).bind fun d S'=>match d with
  | .none=>.ok (.loc S.length) S'
  | _=>.stuck
end DL
namespace DL
open PySem PySem.Spec PyProof.Rows L2
end DL
namespace DL
open PySem PySem.Spec PyProof.Rows L2 LamX PySem.W
end DL
namespace DL
open PySem PySem.Spec PyProof.Rows L2
def leS (a b:Str):Bool:=!decide (b.cps.toList<a.cps.toList)
def lM (S:Sto) (ds:List D):Option D:=match ds with
  | [.loc l]=>match b9 S[l]? with
    | some (false,kvs)=>match gw (kvs.map (·.1)) with
      | some ks=>if ks.length<64 then some (.lst ((ks.mergeSort leS).map .str)) else none
      | none=>none
    | _=>none
  | _=>none
@[simp] theorem uX {S:Sto} {l:Nat} {kvs:List (D × D)} {ks:List Str} (h:b9 S[l]?=some (false,kvs)) (hk:kvs.map (·.1)=ks.map D.str) (hl:ks.length<64):lM S [.loc l]=some (.lst ((ks.mergeSort leS).map .str)):=by
  unfold lM
  simp only[h,hk,j7,if_pos hl]
end DL
namespace DL
open PySem PySem.Spec PyProof.Rows L2
def eDictC (r:MA):ME:=fun env S=>(r env S).bind fun ds S=>match ds with
  | [.loc l]=>match b9 S[l]? with
    | some (false,kvs)=>.ok (.loc S.length) (S++[.dct false kvs])
    | _=>.stuck
  | _=>.stuck
variable {Q:D→Sto→Prop} {E:XV→Sto→Prop}
@[simp] theorem eDictC_at (r:MA) (env:En) (S:Sto):eDictC r env S=(r env S).bind fun ds S=>match ds with
  | [.loc l]=>match b9 S[l]? with
    | some (false,kvs)=>.ok (.loc S.length) (S++[.dct false kvs])
    | _=>.stuck
  | _=>.stuck:=rfl
end DL
namespace DL
open PySem PySem.Spec PyProof.Rows L2
def rUpdK:V→List V→Hp→VK→Prop:=fun x xs H Q=>∃(a b:Addr) (kvs more:List (L2.Key × V)),x=.ref a∧xs=[.ref b]∧a≠b∧H a=some (.dK kvs)∧Rd H b (.dK more)∧kvs.length+more.length≤sizeLine∧Q .non (upd H a (.dK (mergeK kvs more)))
section
variable {X:Cx}
theorem uY:MtR X "dict.update" rUpdK:=by
  intro pins s σ H x xs v us Q I rx rxs h
  obtain ⟨a,b,kvs,more,rfl,rfl,hne,ha,hb,hsz,q⟩:=h
  cases rx
  obtain ⟨u1,rfl,r1⟩:=vals1 rxs
  cases r1
  obtain ⟨z,hd,vs,rel,dd⟩:=dk_of I.hok ha
  obtain ⟨z2,hd2,vs2,rel2,dd2⟩:=dk_rd I.hok hb
  have hl:vs.length+vs2.length≤sizeLine:=by rw[←rel.length,←rel2.length]; exact hsz
  refine call_meetsIn PySem.F.slot_dict_update dd.typeIs PySem.F.entry_dict_update (PySem.F.args_dict_update_2 _ _) (meets_dict_update (mixKind X.prog X.w) a b hne hd2) ⟨vs,vs2,dd,dd2,hl,fun h' hmm _ hs=>?_⟩
  have I2:Inv X pins σ (upd H a (.dK (mergeK kvs more))) { s with heap:=h' }:=
    d_write (t':=s.toks) I (by rw[ha]; exact True.intro) hs (by obtain ⟨o,_,_,hg,_⟩:=hmm; exact ⟨_,hg⟩) (dk_new (Nat.le_trans (length_mergeK more kvs) hsz) hd (KV.merge rel2 rel) hmm)
  exact ⟨.non,_,I2,rfl,q⟩
def nl:BM:=fun S d ds=>match d,ds with
  | .loc l,[.loc m]=>if l=m then none else match S[l]?,b9 S[m]? with
    | some (.dct false kvs),some (false,more)=>if kvs.length+more.length≤1000000 then some (.none,S.set l (.dct false (cQ kvs more))) else none
    | _,_=>none
  | _,_=>none
theorem m_updD:MtR X "dict.update" (rM X.K X.mg nl):=im uY fun x xs H Q ⟨μ,S,d,ds,r,S',rs,rd,rds,e,q⟩=>by
  unfold nl at e
  split at e
  · rename_i l m
    unfold Rep at rd
    obtain ⟨ad,rfl,hμ⟩:=rd
    obtain ⟨v,rfl,rv⟩:=bW rds
    unfold Rep at rv
    obtain ⟨bd,rfl,hν⟩:=rv
    split at e
    · cases e
    · rename_i hlm
      split at e
      · rename_i kvs more es em
        split at e
        · rename_i hsz
          cases e
          obtain ⟨a',h1,vs,ks,⟨h2,h3⟩,h4⟩:=rs.at_ _ _ es
          rw[hμ] at h1; cases h1
          have key:∃vs,∃ks:List L2.Key,(Rd H bd (.dK (ks.zip vs))∧more.map (·.1)=ks.map cy)∧RepAll X.K X.mg μ H (more.map (·.2)) vs:=by
            rcases ju em with es|es
            · obtain ⟨a',h1,vs,ks,⟨h2,h3⟩,h4⟩:=rs.at_ _ _ es
              rw[hν] at h1; cases h1
              exact ⟨vs,ks,⟨.of h2,h3⟩,h4⟩
            · obtain ⟨a',h1,vs,ks,⟨⟨od,h2⟩,h3⟩,h4⟩:=rs.at_ _ _ es
              rw[hν] at h1; cases h1
              exact ⟨vs,ks,⟨.inr ⟨od,h2⟩,h3⟩,h4⟩
          obtain ⟨vs2,ks2,⟨g2,g3⟩,g4⟩:=key
          have hne:ad≠bd:=fun e=>hlm (by
            subst e
            obtain ⟨l1,p1⟩:=List.getElem?_eq_some_iff.mp hμ
            obtain ⟨l2,p2⟩:=List.getElem?_eq_some_iff.mp hν
            exact (List.getElem_inj rs.nd).mp (p1.trans p2.symm))
          have n1:ks.length=vs.length:=by
            have e1:=congrArg List.length h3
            have e2:=h4.length
            simp at e1 e2
            omega
          have n2:ks2.length=vs2.length:=by
            have e1:=congrArg List.length g3
            have e2:=g4.length
            simp at e1 e2
            omega
          have k1:kvs.length=ks.length:=by have:=congrArg List.length h3; simpa using this
          have k2:more.length=ks2.length:=by have:=congrArg List.length g3; simpa using this
          have z1:(ks2.zip vs2).map (·.1)=ks2:=by rw[List.map_fst_zip]; omega
          have z2:(ks2.zip vs2).map (·.2)=vs2:=by rw[List.map_snd_zip]; omega
          obtain ⟨ks',vs',m1,m2,m3⟩:=mB (ps:=more) (kvs:=ks2.zip vs2) (ds:=kvs) (acc:=ks.zip vs) (by
            rw[g3]
            conv=>lhs; rw[←z1]
            rw[List.map_map]
            rfl) (by rw[z2]; exact g4) ⟨ks,vs,rfl,h3,h4⟩
          refine ⟨ad,bd,ks.zip vs,ks2.zip vs2,rfl,rfl,hne,h2,g2,cH (by rw[List.length_zip,List.length_zip]; omega),?_⟩
          rw[m1]
          have st:Step μ H μ (upd H ad (.dK (ks'.zip vs'))):=Step.write rs hμ (.of h2)
          exact q μ _ .non st (rs.write hμ (.of h2) ⟨vs',ks',⟨upd_same,m2⟩,RepAll.step st _ _ m3⟩) (by unfold Rep; rfl)
        · cases e
      · cases e
  · cases e
end
end DL
namespace DL
open PySem PySem.Spec PyProof.Rows L2
def eDictL (r:MA):ME:=fun env S=>(r env S).bind fun ds S=>match ds with
  | [.lst xs]=>match gS xs with
    | some ps=>if xs.length≤1000000 then .ok (.loc S.length) (S++[.dct false (cQ [] ps)]) else .stuck
    | none=>.stuck
  | _=>.stuck
@[simp] theorem eDictL_at (r:MA) (env:En) (S:Sto):eDictL r env S=(r env S).bind fun ds S=>match ds with
  | [.lst xs]=>match gS xs with
    | some ps=>if xs.length≤1000000 then .ok (.loc S.length) (S++[.dct false (cQ [] ps)]) else .stuck
    | none=>.stuck
  | _=>.stuck:=rfl
end DL
namespace DL
open PySem PySem.Spec PyProof.Rows L2
section
variable {N:En→Sto→Prop} {R:D→Sto→Prop} {E:XV→Sto→Prop} {B B2:En→Sto→Prop} {Q:D→Sto→Prop}
@[simp] theorem vP (cn f:Str) (op:Sto→D→D→Option D) (ma mv:ME) (env:En) (S:Sto):nj cn f op ma mv env S=(ma env S).rs env fun o S=>match o with
  | .loc l=>match S[l]? with
    | some (.ins C fs)=>if C=cn then match fs.lookup f with
        | some a=>(mv env S).rs env fun b S=>match op S a b with
          | some d=>match S[l]? with
            | some (.ins C' fs')=>if C'=cn∧fs'.length<1000 then .next env (S.set l (.ins C' (l5 f d fs'))) else .stuck
            | _=>.stuck
          | none=>.stuck
        | none=>.stuck
      else .stuck
    | _=>.stuck
  | _=>.stuck:=rfl
@[simp ↓] theorem vQ (cn f:Str) (op:Sto→D→D→Option D) (ma mv:ME) (env:En) (S:Sto):RS.wp (nj cn f op ma mv env S) N R E B B2=RS.wp ((ma env S).rs env fun o S=>match o with
  | .loc l=>match S[l]? with
    | some (.ins C fs)=>if C=cn then match fs.lookup f with
        | some a=>(mv env S).rs env fun b S=>match op S a b with
          | some d=>match S[l]? with
            | some (.ins C' fs')=>if C'=cn∧fs'.length<1000 then .next env (S.set l (.ins C' (l5 f d fs'))) else .stuck
            | _=>.stuck
          | none=>.stuck
        | none=>.stuck
      else .stuck
    | _=>.stuck
  | _=>.stuck) N R E B B2:=rfl
@[simp] theorem vR (op:Sto→D→D→Option D) (mo mi mv:ME) (env:En) (S:Sto):nk op mo mi mv env S=(mo env S).rs env fun o S=>match o with
  | .loc l=>(mi env S).rs env fun i S=>match fIx S (.loc l) i with
    | some a=>(mv env S).rs env fun b S=>match op S a b with
      | some d=>match dZ S (.loc l) i d with
        | some S'=>.next env S'
        | none=>.stuck
      | none=>.stuck
    | none=>.stuck
  | _=>.stuck:=rfl
@[simp ↓] theorem vS (op:Sto→D→D→Option D) (mo mi mv:ME) (env:En) (S:Sto):RS.wp (nk op mo mi mv env S) N R E B B2=RS.wp ((mo env S).rs env fun o S=>match o with
  | .loc l=>(mi env S).rs env fun i S=>match fIx S (.loc l) i with
    | some a=>(mv env S).rs env fun b S=>match op S a b with
      | some d=>match dZ S (.loc l) i d with
        | some S'=>.next env S'
        | none=>.stuck
      | none=>.stuck
    | none=>.stuck
  | _=>.stuck) N R E B B2:=rfl
@[simp] theorem uZ (m:ME) (env:En) (S:Sto):lK m env S=(m env S).bind fun d S=>match d with
  | .loc l=>match S[l]? with
    | some (.dct false kvs)=>.ok (.lst (kvs.map (·.2))) S
    | _=>.stuck
  | _=>.stuck:=rfl
@[simp ↓] theorem ua (m:ME) (env:En) (S:Sto):Res.wp (lK m env S) Q E=Res.wp ((m env S).bind fun d S=>match d with
  | .loc l=>match S[l]? with
    | some (.dct false kvs)=>.ok (.lst (kvs.map (·.2))) S
    | _=>.stuck
  | _=>.stuck) Q E:=rfl
@[simp] theorem eLenSet_at (m:ME) (env:En) (S:Sto):qF m env S=(m env S).bind fun d S=>match view S d with
  | .lst ds=>match gw ds with
    | some xs=>if xs.length≤100 then .ok (.int (cntU xs xs.length:Nat)) S else .stuck
    | none=>.stuck
  | _=>.stuck:=rfl
@[simp ↓] theorem wq_eLenSet (m:ME) (env:En) (S:Sto):Res.wp (qF m env S) Q E=Res.wp ((m env S).bind fun d S=>match view S d with
  | .lst ds=>match gw ds with
    | some xs=>if xs.length≤100 then .ok (.int (cntU xs xs.length:Nat)) S else .stuck
    | none=>.stuck
  | _=>.stuck) Q E:=rfl
@[simp] theorem iItmD_at (m:ME) (env:En) (S:Sto):iItmD m env S=(m env S).bind fun d S=>match d with
  | .loc l=>match S[l]? with
    | some (.dct true kvs)=>.ok (.items (kvs.map lL)) (S.set l (.fdc true kvs))
    | some (.fdc false kvs)=>.ok (.items (kvs.map lL)) S
    | _=>.stuck
  | _=>.stuck:=rfl
@[simp ↓] theorem wq_iItmD (m:ME) (env:En) (S:Sto) {Q:ItD→Sto→Prop}:Res.wp (iItmD m env S) Q E=Res.wp ((m env S).bind fun d S=>match d with
  | .loc l=>match S[l]? with
    | some (.dct true kvs)=>.ok (.items (kvs.map lL)) (S.set l (.fdc true kvs))
    | some (.fdc false kvs)=>.ok (.items (kvs.map lL)) S
    | _=>.stuck
  | _=>.stuck) Q E:=rfl
@[simp] theorem eMakeD_at (cn:Str) (n:Nat) (z:D) (mi:MF) (r:MA) (env:En) (S:Sto):si cn n z mi r env S=(r env S).bind fun ds S=>(chk n mi (.loc S.length::(ds++[z])) (S++[.ins cn []])).bind fun d S'=>match d with
  | .none=>.ok (.loc S.length) S'
  | _=>.stuck:=rfl
@[simp ↓] theorem wq_eMakeD (cn:Str) (n:Nat) (z:D) (mi:MF) (r:MA) (env:En) (S:Sto):Res.wp (si cn n z mi r env S) Q E=Res.wp ((r env S).bind fun ds S=>(chk n mi (.loc S.length::(ds++[z])) (S++[.ins cn []])).bind fun d S'=>match d with
  | .none=>.ok (.loc S.length) S'
  | _=>.stuck) Q E:=rfl
end
end DL
namespace DL
open PySem PySem.Spec PyProof.Rows L2 LamX
/-- a list,told by itself or as it stands in the store -/
def LV (S:Sto) (v:D) (xs:List D):Prop:=v=.lst xs∨∃l,v=.loc l∧S[l]?=some (.lst xs)
section
variable {S:Sto} {v:D} {xs:List D}
theorem LV.lst:LV S (.lst xs) xs:=.inl rfl
theorem LV.loc {l:Nat} (h:S[l]?=some (.lst xs)):LV S (.loc l) xs:=.inr ⟨l,rfl,h⟩
theorem LV.view0 (h:LV S v xs):view0 S v=.lst xs:=by
  rcases h with rfl|⟨l,rfl,e⟩
  · rfl
  · simp[e]
theorem LV.view (h:LV S v xs):view S v=.lst xs:=by
  unfold DL.view
  rw[h.view0]; rfl
theorem LV.ix (h:LV S v xs) (i:Int):fIx S v (.int i)=atI xs i:=by
  rcases h with rfl|⟨l,rfl,e⟩
  · rfl
  · exact uV e i
theorem LV.len (h:LV S v xs):bF S [v]=some (.int xs.length):=by
  rcases h with rfl|⟨l,rfl,e⟩
  · rfl
  · exact sX e
theorem LV.ty (h:LV S v xs):eF S v=some "list":=by
  rcases h with rfl|⟨l,rfl,e⟩
  · rfl
  · simp[eF,e]
end
section
variable {α β:Type} {N B C:En→Sto→Prop} {R:D→Sto→Prop} {E:XV→Sto→Prop} {S:Sto} {env:En}
theorem sk {τ:Type} {g:MG} {b:MS} {f:τ→D} {l:Nat} (xs:List τ) (I:List τ→List τ→En→Sto→Prop) (keep:∀pre rest env S,pre++rest=xs→I pre rest env S→S[l]?=some (.lst (xs.map f))) (h:I [] xs env S)
    (step:∀pre x rest env S,pre++x::rest=xs→I pre (x::rest) env S→∃p,g (.tup [.int (pre.length:Nat),f x]) env S=some p∧RS.wp (b p.1 p.2) (I (pre++[x]) rest) R E N (I (pre++[x]) rest))
    (fin:∀env S,I xs [] env S→N env S):RS.wp (fD g b l (eQ S l+1) 0 env S) N R E B C:=by
  have hlen:eQ S l=xs.length:=by
    have:=keep [] xs env S rfl h
    simp[eQ,this]
  rw[hlen]
  have loop:∀(rest pre:List τ) (env:En) (S:Sto),pre++rest=xs→I pre rest env S→RS.wp (fD g b l (rest.length+1) pre.length env S) N R E B C:=by
    intro rest
    induction rest with
    | nil=>
      intro pre env S e h
      have hk:=keep pre [] env S e h
      rw[List.append_nil] at e
      unfold fD
      simp only[hk]
      rw[show (xs.map f)[pre.length]?=none by rw[←e]; simp]
      simp only[dL]
      rw[e] at h
      exact fin env S h
    | cons x rest ih=>
      intro pre env S e h
      have hk:=keep pre (x::rest) env S e h
      obtain ⟨p,e1,hb⟩:=step pre x rest env S e h
      rw[List.length_cons]
      unfold fD
      simp only[hk]
      rw[show (xs.map f)[pre.length]?=some (f x) by rw[←e]; simp]
      simp only[e1]
      have hl:(pre++[x]).length=pre.length+1:=by simp
      generalize b p.1 p.2=y at hb
      cases y with
      | next e' S'=>rw[dL] at hb; simpa only [hl] using ih (pre++[x]) e' S' (by rw[←e]; simp) hb
      | cont e' S'=>rw[iK] at hb; simpa only [hl] using ih (pre++[x]) e' S' (by rw[←e]; simp) hb
      | brk e' S'=>simpa using hb
      | ret d S'=>simpa using hb
      | exc x e' S'=>simpa using hb
      | stuck=>simpa using hb
  exact loop xs [] env S rfl h
theorem j8 {τ:Type} {g:MG} {b:MS} {f:τ→D} (I:List τ→List τ→En→Sto→Prop) {xs:List τ}
    (step:∀pre x rest env S,pre++x::rest=xs→I pre (x::rest) env S→∃p,g (.tup [.int (pre.length:Nat),f x]) env S=some p∧RS.wp (b p.1 p.2) (I (pre++[x]) rest) R E N (I (pre++[x]) rest))
    (fin:∀env S,I xs [] env S→N env S):∀(rest pre:List τ) (env:En) (S:Sto),pre++rest=xs→I pre rest env S→RS.wp (dI g b (cC pre.length (rest.map f)) env S) N R E B C
  | [],pre,env,S,e,h=>by
    rw[List.append_nil] at e
    rw[e] at h
    show RS.wp (.next env S) N R E B C
    rw[dL]
    exact fin env S h
  | x::rest,pre,env,S,e,h=>by
    obtain ⟨p,e1,hb⟩:=step pre x rest env S e h
    have hl:(pre++[x]).length=pre.length+1:=by simp
    show RS.wp (match g (.tup [.int (pre.length:Nat),f x]) env S with
    | none=>.stuck
    | some p=>match b p.1 p.2 with
      | .next env S=>dI g b (cC (pre.length+1) (rest.map f)) env S
      | .cont env S=>dI g b (cC (pre.length+1) (rest.map f)) env S
      | .brk env S=>.next env S
      | .ret d S=>.ret d S
      | .exc e env S=>.exc e env S
      | .stuck=>.stuck) N R E B C
    simp only[e1]
    generalize b p.1 p.2=y at hb
    cases y with
    | next e' S'=>rw[dL] at hb; simpa only [hl] using j8 I step fin rest (pre++[x]) e' S' (by rw[←e]; simp) hb
    | cont e' S'=>rw[iK] at hb; simpa only [hl] using j8 I step fin rest (pre++[x]) e' S' (by rw[←e]; simp) hb
    | brk e' S'=>simpa using hb
    | ret d S'=>simpa using hb
    | exc x e' S'=>simpa using hb
    | stuck=>simpa using hb
/-- for x in v -/
theorem qi {τ:Type} {m:ME} {v:D} {g:MG} {b:MS} {f:τ→D} (xs:List τ) (I:List τ→List τ→En→Sto→Prop) (hm:m env S=.ok v S) (hv:LV S v (xs.map f)) (keep:∀pre rest env S,pre++rest=xs→I pre rest env S→LV S v (xs.map f)) (h:I [] xs env S)
    (step:∀pre x rest env S,pre++x::rest=xs→I pre (x::rest) env S→∃p,g (f x) env S=some p∧RS.wp (b p.1 p.2) (I (pre++[x]) rest) R E N (I (pre++[x]) rest))
    (fin:∀env S,I xs [] env S→N env S):RS.wp (eR (dj m) g b env S) N R E B C:=by
  rcases hv with rfl|⟨l,rfl,e⟩
  · have:dj m env S=.ok (.items (xs.map f)) S:=by simp[hm]
    unfold eR
    rw[this]
    show RS.wp (dI g b (xs.map f) env S) N R E B C
    exact fY xs I rfl h step fin
  · have:dj m env S=.ok (.live l) S:=by simp[hm,cJ,e]
    unfold eR
    rw[this]
    show RS.wp (fC g b l (eQ S l+1) 0 env S) N R E B C
    refine uW xs I (fun pre rest env S hp hI=>?_) h step fin
    rcases keep pre rest env S hp hI with z|⟨l',z,e'⟩
    · cases z
    · cases z; exact e'
/-- for i,x in enumerate(v) -/
theorem j9 {τ:Type} {r:MA} {v:D} {g:MG} {b:MS} {f:τ→D} (xs:List τ) (I:List τ→List τ→En→Sto→Prop) (hm:r env S=.ok [v] S) (hv:LV S v (xs.map f)) (keep:∀pre rest env S,pre++rest=xs→I pre rest env S→LV S v (xs.map f)) (h:I [] xs env S)
    (step:∀pre x rest env S,pre++x::rest=xs→I pre (x::rest) env S→∃p,g (.tup [.int (pre.length:Nat),f x]) env S=some p∧RS.wp (b p.1 p.2) (I (pre++[x]) rest) R E N (I (pre++[x]) rest))
    (fin:∀env S,I xs [] env S→N env S):RS.wp (eR (fX r) g b env S) N R E B C:=by
  rcases hv with rfl|⟨l,rfl,e⟩
  · have:fX r env S=.ok (.items (cC 0 (xs.map f))) S:=by simp[hm]
    unfold eR
    rw[this]
    show RS.wp (dI g b (cC 0 (xs.map f)) env S) N R E B C
    exact j8 I step fin xs [] env S rfl h
  · have:fX r env S=.ok (.liveE l) S:=by
      simp only[qd,hm,Res.bind,List.map_cons,List.map_nil]
      show (match S[l]? with|some (.lst _)=>Res.ok (ItD.liveE l) S|_=>.stuck)=_
      rw[e]
    unfold eR
    rw[this]
    show RS.wp (fD g b l (eQ S l+1) 0 env S) N R E B C
    refine sk xs I (fun pre rest env S hp hI=>?_) h step fin
    rcases keep pre rest env S hp hI with z|⟨l',z,e'⟩
    · cases z
    · cases z; exact e'
end
end DL
namespace DL
open PySem PySem.Spec PyProof.Rows L2
section
variable {X:Cx} {W:WX} {e o:Expr} {es:List Expr} {pos apos:Pos} {k:Nat}
/-- an attribute as a target -/
def gFld (cn g:Str) (mo:ME):MG:=fun v env S=>match mo env S with
  | .ok (.loc l) S1=>match S1[l]? with
    | some (.ins C fs)=>if C=cn∧fs.length<1000 then some (env,S1.set l (.ins C (l5 g v fs))) else none
    | _=>none
  | _=>none
end
end DL
namespace DL
open PySem PySem.Spec PyProof.Rows L2
end DL
namespace DL
open PySem PySem.Spec PyProof.Rows L2
end DL
namespace DL
open PySem PySem.Spec PyProof.Rows L2
end DL
namespace DL
open PySem PySem.Spec PyProof.Rows L2
structure KdF (K:PySem.W.Frag) (w:World) (a:Addr) (tbl:List (Str × Int)):Prop where
  at_:∃es n,KDict K w a es n
  ns:∀x,∃r,PySem.W.nsIn K a x=some r∧r.isSome=(tbl.map (·.1)).contains x∧∀i,tbl.lookup x=some i→∃t,r=some (.int i t)
theorem ns_kv {x:Str}:∀ {es:List DictEntry} {tbl:List (Str × Int)},es.map kvOf=tbl.map some→
    (es.any fun e=>e.refKey)=false∧((es.find? fun e=>e.key.isStr x).map (·.val)).isSome=(tbl.map (·.1)).contains x∧∀i,tbl.lookup x=some i→∃t,(es.find? fun e=>e.key.isStr x).map (·.val)=some (.int i t)
  | [],[],_=>by simp
  | [],_::_,h=>by simp at h
  | _::_,[],h=>by simp at h
  | e::es,(k,i)::tbl,h=>by
    rw[List.map_cons,List.map_cons,List.cons.injEq] at h
    obtain ⟨h1,h2⟩:=h
    obtain ⟨a,b,c⟩:=ns_kv (x:=x) h2
    obtain ⟨hash,key,val⟩:=e
    unfold kvOf at h1
    split at h1
    · rename_i y t i' t' e1 e2
      dsimp only at e1 e2
      subst e1 e2
      simp only[Option.some.injEq,Prod.mk.injEq] at h1
      obtain ⟨rfl,rfl⟩:=h1
      refine ⟨by rw[List.any_cons,a]; rfl,?_,?_⟩
      · rw[List.find?_cons,List.map_cons,List.contains_cons]
        show (Option.map (·.val) (match y == x with|true=>some ⟨hash,.str y t,.int i' t'⟩|false=>es.find? fun e=>e.key.isStr x)).isSome=(x == y||(tbl.map (·.1)).contains x)
        by_cases hxy:y=x
        · subst hxy; simp
        · have h1:(y == x)=false:=by simpa using hxy
          have h2:(x == y)=false:=by simpa using Ne.symm hxy
          rw[h1,h2,Bool.false_or]
          exact b
      · intro j hj
        rw[List.find?_cons]
        show ∃t_1,Option.map (·.val) (match y == x with|true=>some ⟨hash,.str y t,.int i' t'⟩|false=>es.find? fun e=>e.key.isStr x)=some (.int j t_1)
        rw[List.lookup_cons] at hj
        by_cases hxy:y=x
        · subst hxy
          simp at hj ⊢
          exact hj
        · have h1:(y == x)=false:=by simpa using hxy
          have h2:(x == y)=false:=by simpa using Ne.symm hxy
          rw[h2] at hj
          rw[h1]
          exact c j hj
    · cases h1
theorem kdF_of {K:PySem.W.Frag} {w:World} {a:Addr} {tbl:List (Str × Int)} (h:∃es n,KDict K w a es n) (hb:kdVB K a tbl=true):KdF K w a tbl:=by
  refine ⟨h,fun x=>?_⟩
  obtain ⟨es,n,D⟩:=h
  unfold kdVB at hb
  rw[D.at_] at hb
  have hb:=of_decide_eq_true hb
  obtain ⟨h1,h2,h3⟩:=ns_kv (x:=x) hb
  refine ⟨(es.toList.find? fun e=>e.key.isStr x).map (·.val),?_,h2,h3⟩
  unfold PySem.W.nsIn
  rw[D.at_]
  dsimp only
  cases es.toList.find? fun e=>e.key.isStr x with
  | some e=>rfl
  | none=>simp only[h1]; rfl
def iN (neg:Bool) (tbl:List (Str × Int)) (m:ME):ME:=fun env S=>(m env S).bind fun d S=>match d with
  | .str x=>.ok (.bool (if neg then !(tbl.map (·.1)).contains x else (tbl.map (·.1)).contains x)) S
  | _=>.stuck
def kA (tbl:List (Str × Int)) (m:ME):ME:=fun env S=>(m env S).bind fun d S=>match d with
  | .str x=>ofO S ((tbl.lookup x).map .int)
  | _=>.stuck
section
variable {X:Cx} {W:WX} {e:Expr} {m:ME} {p pos:Pos} {nm:Str} {a:Addr} {tbl:List (Str × Int)}
theorem sr {neg:Bool} {r:R2} (F:KdF X.K X.w a tbl) (hm:X.mg nm=some (.ref a)) (hr:∀z b H Q,(∃r0,PySem.W.nsIn X.K a z=some r0∧b=(if neg then !r0.isSome else r0.isSome)∧Q (.bl b) H)→r (.str z) (.ref a) H Q) {σ:L2.St} {H:Hp} {Q:VK} (h:tE X W (iN neg tbl m) σ H Q):tOp r (tE X W m) (tE X W (eC (.glo nm))) σ H Q:=by
  obtain ⟨env,S,μ,rl,o⟩:=h
  refine ⟨env,S,μ,rl,(Out.bind o).mono fun x H1 ⟨μ1,S1,d,st,rs,rd,o1⟩=>?_⟩
  split at o1
  · rename_i x'
    obtain rfl:=(RepW.str (by exact rd.w))
    refine ⟨env,S1,μ1,⟨rl.env.step st,rs⟩,fun μ2 H2 y st2 rs2 ry=>?_⟩
    unfold Rep at ry
    obtain ⟨a',rfl,hm'⟩:=ry
    rw[hm] at hm'
    cases hm'
    obtain ⟨r0,h1,h2,_⟩:=F.ns x'
    exact hr _ _ _ _ ⟨r0,h1,rfl,o1 μ2 H2 _ st2 rs2 (by rw[h2]; exact bJ _)⟩
  · exact o1.elim
theorem qG {op:CmpOp} {neg:Bool} (hop:(op=.In∧neg=false)∨(op=.NotIn∧neg=true)) (F:KdF X.K X.w a tbl) (hm:X.mg nm=some (.ref a)) (hg:Gl X nm) (he:PE X e (tE X W m)) (hd:(nm == ("__debug__":Str))=false:=by decide) :
    PT X (.Compare e [op] [.Name nm p] pos) (tT X W (tOf (iN neg tbl m))):=by
  obtain ⟨es,n,D⟩:=F.at_
  rcases hop with ⟨rfl,rfl⟩|⟨rfl,rfl⟩
  · exact k7 (pt_cmpR (op_in_kd D) he (bC hg hm hd) rfl) fun σ H Q h=>sr F hm (fun z b H Q ⟨r0,h1,h2,h3⟩=>⟨z,r0,rfl,rfl,h1,by subst h2; exact h3⟩) (t_of h)
  · exact k7 (pt_cmpR (op_notIn_kd D) he (bC hg hm hd) rfl) fun σ H Q h=>sr F hm (fun z b H Q ⟨r0,h1,h2,h3⟩=>⟨z,r0,rfl,rfl,h1,by subst h2; exact h3⟩) (t_of h)
theorem qH (F:KdF X.K X.w a tbl) (hm:X.mg nm=some (.ref a)) (hg:Gl X nm) (he:PE X e (tE X W m)) (hs:PlainIx e:=by exact fun _ _=>rfl) (hd:(nm == ("__debug__":Str))=false:=by decide) :
    PE X (.Subscript (.Name nm p) e pos) (tE X W (kA tbl m)):=by
  obtain ⟨es,n,D⟩:=F.at_
  refine cB (pe_ix ix_kdict (bC (W:=W) hg hm hd) he hs) fun σ H Q ⟨env,S,μ,rl,o⟩=>?_
  refine ⟨env,S,μ,rl,fun μ0 H0 y st0 rs0 ry=>?_⟩
  unfold Rep at ry
  obtain ⟨a',rfl,hm'⟩:=ry
  rw[hm] at hm'
  cases hm'
  refine ⟨env,S,μ0,⟨rl.env.step st0,rs0⟩,(Out.of_step st0 (Out.bind o)).mono fun x H1 ⟨μ1,S1,d,st,rs,rd,o1⟩=>?_⟩
  split at o1
  · rename_i x'
    obtain rfl:=(RepW.str (by exact rd.w))
    obtain ⟨r0,h1,_,h2⟩:=F.ns x'
    cases hl:tbl.lookup x' with
    | none=>rw[hl] at o1; exact o1.elim
    | some i=>
      rw[hl] at o1
      obtain ⟨t,rfl⟩:=h2 i hl
      exact ⟨a,x',.int i,rfl,rfl,⟨es,n,_,D.at_,D.lit,h1,⟨t,rfl⟩⟩,o1 μ1 H1 _ .refl rs (bA i)⟩
  · exact o1.elim
end
end DL
namespace DL
open PySem PySem.Spec PyProof.Rows L2
def hM:Nat:=2 ^ 64
def hP1:Nat:=11400714785074694791
def hP2:Nat:=14029467366897019727
def hP5:Nat:=2870177450012600261
def hQ1:Nat:=614540362697595703
def hQ2:Nat:=839798700976720815
def hC:Nat:=2870177450013471924
def hRot (x:Nat):Nat:=x*2 ^ 31 % hM+x / 2 ^ 33
def hF (a:Nat):Nat:=hRot ((hP5+a*hP2) % hM)*hP1 % hM
def hG (a:Nat):Nat:=hF a*hQ2 % hM
def hU (a b:Nat):Nat:=(hF a+b*hP2) % hM
def hZ (a b:Nat):Nat:=(hRot (hU a b)*hP1 % hM+hC) % hM
def unrot (v:Nat):Nat:=(v % 2 ^ 31)*2 ^ 33+v / 2 ^ 31
def hT0:Nat:=unrot ((hM - 1 - hC)*hQ1 % hM)*hQ2 % hM
def oy (r:Int × Int):Bool:=decide (0≤r.1)&&decide (r.1<61)&&decide (0≤r.2)&&decide (r.2<10000)
end DL
namespace DL
open PySem PySem.Spec PyProof.Rows L2
/-- dict(d),a copy of a dict of rides -/
def qI (r:MA):ME:=fun env S=>(r env S).bind fun ds S=>match ds with
  | [.loc l]=>match b9 S[l]? with
    | some (true,kvs)=>if (kvs.all fun p=>match p.1 with
      | .tup [.int x,.int y]=>oy (x,y)
      | _=>false)=true then .ok (.loc S.length) (S++[.dct true kvs]) else .stuck
    | _=>.stuck
  | _=>.stuck
@[simp] theorem eDictCT_at (r:MA) (env:En) (S:Sto):qI r env S=(r env S).bind fun ds S=>match ds with
  | [.loc l]=>match b9 S[l]? with
    | some (true,kvs)=>if (kvs.all fun p=>match p.1 with
      | .tup [.int x,.int y]=>oy (x,y)
      | _=>false)=true then .ok (.loc S.length) (S++[.dct true kvs]) else .stuck
    | _=>.stuck
  | _=>.stuck:=rfl
end DL
namespace DL
open PySem PySem.Spec PyProof.Rows L2
end DL
namespace DL
open PySem PySem.Spec PyProof.Rows L2
def sv (r:MA):ME:=fun env S=>(r env S).bind fun ds S=>match ds.map (view S) with
  | [.lst ys]=>.ok (.loc S.length) (S++[.lst ys])
  | _=>.stuck
def eCutM (m:ME) (ml mh:MP):ME:=fun env S=>(m env S).bind fun d S=>(ml env S).bind fun lo S=>(mh env S).bind fun hi S=>match view0 S d with
  | .lst xs=>.ok (.loc S.length) (S++[.lst (bc xs lo hi)])
  | _=>.stuck
@[simp] theorem eListM_at (r:MA) (env:En) (S:Sto):sv r env S=(r env S).bind fun ds S=>match ds.map (view S) with
  | [.lst ys]=>.ok (.loc S.length) (S++[.lst ys])
  | _=>.stuck:=rfl
@[simp] theorem eCutM_at (m:ME) (ml mh:MP) (env:En) (S:Sto):eCutM m ml mh env S=(m env S).bind fun d S=>(ml env S).bind fun lo S=>(mh env S).bind fun hi S=>match view0 S d with
  | .lst xs=>.ok (.loc S.length) (S++[.lst (bc xs lo hi)])
  | _=>.stuck:=rfl
end DL
namespace DL
open PySem PySem.Spec PyProof.Rows L2
@[simp] theorem dM (neg:Bool) (tbl:List (Str × Int)) (m:ME) (env:En) (S:Sto):iN neg tbl m env S=(m env S).bind fun d S=>match d with
  | .str x=>.ok (.bool (if neg then !(tbl.map (·.1)).contains x else (tbl.map (·.1)).contains x)) S
  | _=>.stuck:=rfl
@[simp] theorem fL (tbl:List (Str × Int)) (m:ME) (env:En) (S:Sto):kA tbl m env S=(m env S).bind fun d S=>match d with
  | .str x=>ofO S ((tbl.lookup x).map .int)
  | _=>.stuck:=rfl
end DL
namespace DL
open PySem PySem.Spec PyProof.Rows L2 LamX
section
variable {Q:D→Sto→Prop} {E:XV→Sto→Prop} {N B C:En→Sto→Prop} {R:D→Sto→Prop}
@[simp ↓] theorem wq_eCompX (mi:MI) (g:MG) (m:ME) (vs:List Nat) (env:En) (S:Sto):Res.wp (eCompX mi g m vs env S) Q E=Res.wp ((ot mi g m vs env S).bind fun ds S=>.ok (.lst ds) S) Q E:=rfl
@[simp] theorem compRX_at (mi:MI) (g:MG) (m:ME) (vs:List Nat) (env:En) (S:Sto):ot mi g m vs env S=(mi env S).bind fun it S=>match it with
  | .items ds=>ip g m (bn env vs) ds [] S
  | .live l=>oq g m (bn env vs) l (eQ S l+1) 0 [] S
  | .liveE _=>.stuck:=rfl
@[simp] theorem compIX_nil (g:MG) (m:ME) (w:En) (acc:List D) (S:Sto):ip g m w [] acc S=.ok acc S:=rfl
@[simp] theorem vT (g:MG) (m:ME) (w:En) (d:D) (ds acc:List D) (S:Sto):ip g m w (d::ds) acc S=(qB g m w d acc S).bind fun acc S=>ip g m w ds acc S:=rfl
@[simp] theorem turnX_at (g:MG) (m:ME) (w:En) (d:D) (acc:List D) (S:Sto):qB g m w d acc S=match g d w S with
  | none=>.stuck
  | some p=>(m p.1 p.2).bind fun v S3=>if acc.length<1000000 then .ok (acc++[v]) S3 else .stuck:=rfl
@[simp] theorem gFld_at (cn g:Str) (mo:ME) (v:D) (env:En) (S:Sto):gFld cn g mo v env S=match mo env S with
  | .ok (.loc l) S1=>match S1[l]? with
    | some (.ins C fs)=>if C=cn∧fs.length<1000 then some (env,S1.set l (.ins C (l5 g v fs))) else none
    | _=>none
  | _=>none:=rfl
def isRd:D→Bool
  | .tup [.int x,.int y]=>oy (x,y)
  | _=>false
@[simp ↓] theorem wq_eDictCT (r:MA) (env:En) (S:Sto):Res.wp (qI r env S) Q E=Res.wp ((r env S).bind fun ds S=>match ds with
  | [.loc l]=>match b9 S[l]? with
    | some (true,kvs)=>if (kvs.all fun p=>isRd p.1)=true then .ok (.loc S.length) (S++[.dct true kvs]) else .stuck
    | _=>.stuck
  | _=>.stuck) Q E:=rfl
@[simp ↓] theorem wq_eListM (r:MA) (env:En) (S:Sto):Res.wp (sv r env S) Q E=Res.wp ((r env S).bind fun ds S=>match ds.map (view S) with
  | [.lst ys]=>.ok (.loc S.length) (S++[.lst ys])
  | _=>.stuck) Q E:=rfl
@[simp ↓] theorem wq_eCutM (m:ME) (ml mh:MP) (env:En) (S:Sto):Res.wp (eCutM m ml mh env S) Q E=Res.wp ((m env S).bind fun d S=>(ml env S).bind fun lo S=>(mh env S).bind fun hi S=>match view0 S d with
  | .lst xs=>.ok (.loc S.length) (S++[.lst (bc xs lo hi)])
  | _=>.stuck) Q E:=rfl
end
end DL
namespace DL
open PySem PySem.Spec PyProof.Rows L2
end DL
namespace DL
open PySem PySem.Spec PyProof.Rows L2
/-- what a list holds is named -/
def gTupL (n:Nat) (gs:MGs):MG:=fun d env S=>match view0 S d with
  | .lst ds=>if ds.length=n then gs ds env S else none
  | _=>none
@[simp] theorem gTupL_at (n:Nat) (gs:MGs) (d:D) (env:En) (S:Sto):gTupL n gs d env S=match view0 S d with
  | .lst ds=>if ds.length=n then gs ds env S else none
  | _=>none:=rfl
@[simp ↓] theorem wq_eCatM {Q:D→Sto→Prop} {E:XV→Sto→Prop} (ma mb:ME) (env:En) (S:Sto):Res.wp (eCatM ma mb env S) Q E=Res.wp ((ma env S).bind fun a S=>(mb env S).bind fun b S=>match view0 S a,view0 S b with
  | .lst xs,.lst ys=>if xs.length+ys.length≤1000000 then .ok (.loc S.length) (S++[.lst (xs++ys)]) else .stuck
  | _,_=>.stuck) Q E:=rfl
end DL
namespace DL
open PySem PySem.Spec PyProof.Rows L2 LamX
theorem LamHere.blk {X:Cx} {p:Str × Option Str} (lh:LamHere X p) {s:Shared} {H:Hp} {sc:Scope} {cl:List (Str × Addr)} {C:Addr} {fp:List Addr}:LamHere (X.blk s H sc (compEnvC sc cl C X.env) fp) p:=⟨lh.tb,lh.code,lh.mem,lh.uniq⟩
end DL
namespace DL
open PySem PySem.Spec PyProof.Rows L2
open PySem.SeqAt PySem.MeetsSeq PySem.MeetsSeq2 PySem.MeetsSeq3 PySem.SeqRoads2 PySem.AutoSeq1
end DL
namespace DL
open PySem PySem.Spec PyProof.Rows L2
end DL
namespace DL
open PySem PySem.Spec PyProof.Rows L2 LamX
section
variable {X:Cx} {W:WX}
/-- the slot of a lambda's own name,as its default has it -/
def eZ (i:Nat) (m:ME):ME:=fun env S=>m (env.set i (some (.int 0))) S
@[simp] theorem eZ_at (i:Nat) (m:ME) (env:En) (S:Sto):eZ i m env S=m (env.set i (some (.int 0))) S:=rfl
end
end DL
namespace DL
open PySem PySem.Spec PyProof.Rows L2
theorem zsep (n a:Nat) (h:a<n):ZipSep2 (n+4) (n+2) (n+3) n (n+1) [n,a] [n+1]:=by
  have k:∀p q:Nat,p≠q→¬((p:Addr)=q):=fun _ _ h=>h
  refine ⟨k (n+2) (n+4) (by omega),k (n+3) (n+4) (by omega),k (n+2) (n+3) (by omega),k (n+2) n (by omega),by simp,fun hm=>?_,fun hm=>?_,k (n+2) (n+1) (by omega),by simp,fun hm=>?_,fun hm=>?_,fun hm=>?_,fun hm=>?_⟩
  · rcases List.mem_cons.mp hm with e|e
    · exact k (n+4) n (by omega) e
    · exact k (n+4) a (by omega) (List.mem_singleton.mp e)
  · rcases List.mem_cons.mp hm with e|e
    · exact k (n+3) n (by omega) e
    · exact k (n+3) a (by omega) (List.mem_singleton.mp e)
  · exact k (n+4) (n+1) (by omega) (List.mem_singleton.mp hm)
  · exact k (n+3) (n+1) (by omega) (List.mem_singleton.mp hm)
  · exact k n (n+1) (by omega) (List.mem_singleton.mp hm)
  · rcases List.mem_cons.mp hm with e|e
    · exact k (n+1) n (by omega) e
    · exact k (n+1) a (by omega) (List.mem_singleton.mp e)
/-- the LIST at a,and a text's bj,in new pairs -/
def ItzST (K:PySem.W.Frag) (a:Addr) (y:Str):It:=
  ⟨fun i H=>∃(xs:List V) (x:V) (c:Nat),SqT K H a xs∧xs[i]?=some x∧y.cps[i]?=some c,
    fun i H v H'=>∃T x c,v=.ref T∧H T=none∧H'=upd H T (.tup [x,.str ⟨#[c]⟩])∧(∀xs,SqT K H a xs→xs[i]?=some x)∧y.cps[i]?=some c,
    fun i H=>∃xs:List V,SqT K H a xs∧i=min xs.length y.cps.size⟩
theorem oz {P:Program} {w:World} {K:PySem.W.Frag} {elts:List Expr} {kk:Nat} {tpos:Pos} {a z TI TO i1 i2:Addr} {y:Str} {t:Tok} (D:ZipSep2 z TI TO i1 i2 [i1,a] [i2]) :
    Turn P w K (.Tuple elts kk tpos) (ItzST K a y) [z,TI,TO,i1,i2] z (fun i h=>IsZip h z TI TO .none∧IsTupOf2 h TI (.ref i1) (.ref i2)∧(∃x y,IsTupOf2 h TO x y)∧h.IsTupleIter i1 a i∧h.IsStrIter i2 (strIterType y) y t i) where
  mem:=by simp
  obj:=fun i h st c hc=>by
    obtain ⟨hz,hTI,⟨x,y,hTO⟩,⟨o1,e1,_,d1⟩,⟨o2,e2,_,d2⟩⟩:=st
    have e':c=z∨c=TI∨c=TO∨c=i1∨c=i2:=by simpa using hc
    rcases e' with q|q|q|q|q
    · rw[q]; exact ⟨_,hz,fun v q=>nomatch q⟩
    · rw[q]; exact ⟨_,hTI,fun v q=>nomatch q⟩
    · rw[q]; exact ⟨_,hTO,fun v q=>nomatch q⟩
    · rw[q]; exact ⟨o1,e1,fun v q=>by rw[d1] at q; cases q⟩
    · rw[q]; exact ⟨o2,e2,fun v q=>by rw[d2] at q; cases q⟩
  keep:=fun i h h' st k=>by
    obtain ⟨hz,hTI,⟨x,y,hTO⟩,h1,⟨o2,e2,r2⟩⟩:=st
    exact ⟨k z (by simp) _ hz,k TI (by simp) _ hTI,⟨x,y,k TO (by simp) _ hTO⟩,h1.at fun o q=>k i1 (by simp) o q,⟨o2,k i2 (by simp) o2 e2,r2⟩⟩
  item:=by
    intro X hP hw hK hc i pins s σ H E I hf st hg
    subst hP hw hK
    obtain ⟨hz,hTI,⟨x0,y0,hTO⟩,h1,h2⟩:=st
    obtain ⟨xs,x,c,hqx,hx,hy⟩:=hg
    obtain ⟨its,rv,p,_⟩:=I.tuple hqx
    obtain ⟨u,hu,ru⟩:=rv.get hx
    have hzl:z<s.heap.objs.size:=Heap.lt_size hz
    have hh:X.A.in1.handled=none:=I.ok.hd hc
    have hal:a≠i1:=fun e=>by
      obtain ⟨o1,e1,c1,_⟩:=id h1
      obtain ⟨o3,e3,c3,_⟩:=(show s.heap.IsTuple a its.toArray from p)
      rw[e,e1] at e3
      cases e3
      rw[c1] at c3
      exact absurd c3 (by decide)
    have hil:i<its.toArray.size:=by
      have:=(List.getElem?_eq_some_iff.mp hu).1
      simpa using this
    have hyl:i<y.cps.size:=(Array.getElem?_eq_some_iff.mp hy).1
    refine wpAny_pyNext_zipD2_item D (Draws.tuple hh i1 a hal its.toArray) (Draws.text hh i2 y t) hz hTI hTO ⟨h1,p⟩ h2 hil hyl fun x1 x2 h' tk gx1 gx2 z' TO' st1 st2 hT hsz hk=>?_
    obtain ⟨c2,u2,gc,rfl⟩:=gx2
    have e1:x1=u:=by
      have q:its.toArray[i]?=some x1:=gx1
      rw[List.getElem?_toArray,hu] at q
      exact (Option.some.inj q).symm
    subst e1
    have e2:c2=c:=by rw[hy] at gc; exact (Option.some.inj gc).symm
    subst e2
    refine ⟨_,rfl,wpAny_letOwnedTupleGo_zip (s:={ s with heap:=h',toks:=tk }) z' fun h'' z'' sb=>?_⟩
    have hT2:h''.get? s.heap.objs.size=some { cls:=.type "tuple",data:=.seq #[x1,.str ⟨#[c2]⟩ u2] }:=(sb.2 _ (Nat.ne_of_gt hzl)).trans hT
    have new:ObjOk X.prog X.w (upd H s.heap.objs.size (.tup [x,.str ⟨#[c2]⟩])) h'' s.heap.objs.size (.tup [x,.str ⟨#[c2]⟩]):=
      ⟨by show 2≤sizeLine; decide,[x1,.str ⟨#[c2]⟩ u2],.cons ru (.cons ⟨u2,rfl⟩ .nil),⟨_,hT2,rfl,_,rfl⟩⟩
    have I1:Inv X pins σ (upd H s.heap.objs.size (.tup [x,.str ⟨#[c2]⟩])) { s with heap:=h'',toks:=tk }:=
      I.turnedNew (ch:=[z,TI,TO,i1,i2]) (fun c o hb q=>(sb.2 c (fun q'=>hb (by simp[q']))).trans (hk c o (fun q'=>hb (by simp[q'])) (fun q'=>hb (by simp[q'])) (fun q'=>hb (by simp[q'])) (fun q'=>hb (by simp[q'])) q)) hf (Nat.le_refl _) new
    have i2z:i2≠z:=fun e=>D.zf2 (by rw[←e]; simp)
    have i1z:i1≠z:=fun e=>D.zf1 (by rw[←e]; simp)
    refine ⟨.ref s.heap.objs.size,_,I1,rfl,⟨_,x,c2,rfl,I.hok.fresh (Nat.le_refl _),rfl,fun l hl=>by rw[I.tuple_inj hl hqx]; exact hx,hy⟩,⟨z'',?_,⟨x1,.str ⟨#[c2]⟩ u2,?_⟩,?_,?_⟩,fun c hcm=>?_⟩
    · exact (sb.2 _ D.TIz).trans (hk _ _ D.TIz D.TITO D.TIi1 D.TIi2 hTI)
    · exact (sb.2 _ D.TOz).trans TO'
    · exact st1.1.at fun o q=>(sb.2 _ i1z).trans q
    · obtain ⟨o2,q2,r2⟩:=st2
      exact ⟨o2,(sb.2 _ i2z).trans q2,r2⟩
    · have hlt:c<s.heap.objs.size:=by
        have e':c=z∨c=TI∨c=TO∨c=i1∨c=i2:=by simpa using hcm
        rcases e' with q|q|q|q|q
        · rw[q]; exact hzl
        · rw[q]; exact Heap.lt_size hTI
        · rw[q]; exact Heap.lt_size hTO
        · rw[q]; obtain ⟨_,e1,_⟩:=h1; exact Heap.lt_size e1
        · rw[q]; obtain ⟨_,e2,_⟩:=h2; exact Heap.lt_size e2
      rw[upd_ne (Nat.ne_of_lt hlt)]
      exact (hf c hcm).1
  done:=by
    intro X hP hw hK hc i pins s σ H E I hf st hg
    subst hP hw hK
    obtain ⟨hz,hTI,⟨x0,y0,hTO⟩,h1,h2⟩:=st
    obtain ⟨xs,hqx,hend⟩:=hg
    obtain ⟨its,rv,p,_⟩:=I.tuple hqx
    have l1:=rv.length
    have hh:X.A.in1.handled=none:=I.ok.hd hc
    have hal:a≠i1:=fun e=>by
      obtain ⟨o1,e1,c1,_⟩:=id h1
      obtain ⟨o3,e3,c3,_⟩:=(show s.heap.IsTuple a its.toArray from p)
      rw[e,e1] at e3
      cases e3
      rw[c1] at c3
      exact absurd c3 (by decide)
    have hn:its.toArray.size=xs.length:=by simpa using l1.symm
    exact wpAny_pyNext_zipD2_end D (Draws.tuple hh i1 a hal its.toArray) (Draws.text hh i2 y t) hz hTI hTO ⟨h1,p⟩ h2 (by omega) (by omega) (by omega) fun h' tk hk=>⟨rfl,I.turnedL (t':=tk) (ch:=[z,TI,TO,i1,i2]) (fun c o hb q=>
      hk c o (fun q'=>hb (by simp[q'])) (fun q'=>hb (by simp[q'])) (fun q'=>hb (by simp[q'])) (fun q'=>hb (by simp[q'])) q) hf⟩
  self:=fun A i s Q E st h=>wpAny_pyIter_zip st.1 h
/-- the LIST at a,and a text's bj,in new pairs -/
def ItzSL (K:PySem.W.Frag) (a:Addr) (y:Str):It:=
  ⟨fun i H=>∃(xs:List V) (x:V) (c:Nat),SqL K H a xs∧xs[i]?=some x∧y.cps[i]?=some c,
    fun i H v H'=>∃T x c,v=.ref T∧H T=none∧H'=upd H T (.tup [x,.str ⟨#[c]⟩])∧(∀xs,SqL K H a xs→xs[i]?=some x)∧y.cps[i]?=some c,
    fun i H=>∃xs:List V,SqL K H a xs∧i=min xs.length y.cps.size⟩
theorem o0 {P:Program} {w:World} {K:PySem.W.Frag} {elts:List Expr} {kk:Nat} {tpos:Pos} {a z TI TO i1 i2:Addr} {y:Str} {t:Tok} (D:ZipSep2 z TI TO i1 i2 [i1,a] [i2]) :
    Turn P w K (.Tuple elts kk tpos) (ItzSL K a y) [z,TI,TO,i1,i2] z (fun i h=>IsZip h z TI TO .none∧IsTupOf2 h TI (.ref i1) (.ref i2)∧(∃x y,IsTupOf2 h TO x y)∧h.IsListIter i1 a i∧h.IsStrIter i2 (strIterType y) y t i) where
  mem:=by simp
  obj:=fun i h st c hc=>by
    obtain ⟨hz,hTI,⟨x,y,hTO⟩,⟨o1,e1,_,d1⟩,⟨o2,e2,_,d2⟩⟩:=st
    have e':c=z∨c=TI∨c=TO∨c=i1∨c=i2:=by simpa using hc
    rcases e' with q|q|q|q|q
    · rw[q]; exact ⟨_,hz,fun v q=>nomatch q⟩
    · rw[q]; exact ⟨_,hTI,fun v q=>nomatch q⟩
    · rw[q]; exact ⟨_,hTO,fun v q=>nomatch q⟩
    · rw[q]; exact ⟨o1,e1,fun v q=>by rw[d1] at q; cases q⟩
    · rw[q]; exact ⟨o2,e2,fun v q=>by rw[d2] at q; cases q⟩
  keep:=fun i h h' st k=>by
    obtain ⟨hz,hTI,⟨x,y,hTO⟩,h1,⟨o2,e2,r2⟩⟩:=st
    exact ⟨k z (by simp) _ hz,k TI (by simp) _ hTI,⟨x,y,k TO (by simp) _ hTO⟩,h1.at fun o q=>k i1 (by simp) o q,⟨o2,k i2 (by simp) o2 e2,r2⟩⟩
  item:=by
    intro X hP hw hK hc i pins s σ H E I hf st hg
    subst hP hw hK
    obtain ⟨hz,hTI,⟨x0,y0,hTO⟩,h1,h2⟩:=st
    obtain ⟨xs,x,c,hqx,hx,hy⟩:=hg
    obtain ⟨its,rv,p,_⟩:=I.list hqx
    obtain ⟨u,hu,ru⟩:=rv.get hx
    have hzl:z<s.heap.objs.size:=Heap.lt_size hz
    have hh:X.A.in1.handled=none:=I.ok.hd hc
    have hal:a≠i1:=fun e=>by
      obtain ⟨o1,e1,c1,_⟩:=id h1
      obtain ⟨o3,e3,c3,_⟩:=(show s.heap.IsList a its.toArray from p.isList)
      rw[e,e1] at e3
      cases e3
      rw[c1] at c3
      exact absurd c3 (by decide)
    have hil:i<its.toArray.size:=by
      have:=(List.getElem?_eq_some_iff.mp hu).1
      simpa using this
    have hyl:i<y.cps.size:=(Array.getElem?_eq_some_iff.mp hy).1
    refine wpAny_pyNext_zipD2_item D (Draws.list hh i1 a hal its.toArray) (Draws.text hh i2 y t) hz hTI hTO ⟨h1,p.isList⟩ h2 hil hyl fun x1 x2 h' tk gx1 gx2 z' TO' st1 st2 hT hsz hk=>?_
    obtain ⟨c2,u2,gc,rfl⟩:=gx2
    have e1:x1=u:=by
      have q:its.toArray[i]?=some x1:=gx1
      rw[List.getElem?_toArray,hu] at q
      exact (Option.some.inj q).symm
    subst e1
    have e2:c2=c:=by rw[hy] at gc; exact (Option.some.inj gc).symm
    subst e2
    refine ⟨_,rfl,wpAny_letOwnedTupleGo_zip (s:={ s with heap:=h',toks:=tk }) z' fun h'' z'' sb=>?_⟩
    have hT2:h''.get? s.heap.objs.size=some { cls:=.type "tuple",data:=.seq #[x1,.str ⟨#[c2]⟩ u2] }:=(sb.2 _ (Nat.ne_of_gt hzl)).trans hT
    have new:ObjOk X.prog X.w (upd H s.heap.objs.size (.tup [x,.str ⟨#[c2]⟩])) h'' s.heap.objs.size (.tup [x,.str ⟨#[c2]⟩]):=
      ⟨by show 2≤sizeLine; decide,[x1,.str ⟨#[c2]⟩ u2],.cons ru (.cons ⟨u2,rfl⟩ .nil),⟨_,hT2,rfl,_,rfl⟩⟩
    have I1:Inv X pins σ (upd H s.heap.objs.size (.tup [x,.str ⟨#[c2]⟩])) { s with heap:=h'',toks:=tk }:=
      I.turnedNew (ch:=[z,TI,TO,i1,i2]) (fun c o hb q=>(sb.2 c (fun q'=>hb (by simp[q']))).trans (hk c o (fun q'=>hb (by simp[q'])) (fun q'=>hb (by simp[q'])) (fun q'=>hb (by simp[q'])) (fun q'=>hb (by simp[q'])) q)) hf (Nat.le_refl _) new
    have i2z:i2≠z:=fun e=>D.zf2 (by rw[←e]; simp)
    have i1z:i1≠z:=fun e=>D.zf1 (by rw[←e]; simp)
    refine ⟨.ref s.heap.objs.size,_,I1,rfl,⟨_,x,c2,rfl,I.hok.fresh (Nat.le_refl _),rfl,fun l hl=>by rw[I.list_inj hl hqx]; exact hx,hy⟩,⟨z'',?_,⟨x1,.str ⟨#[c2]⟩ u2,?_⟩,?_,?_⟩,fun c hcm=>?_⟩
    · exact (sb.2 _ D.TIz).trans (hk _ _ D.TIz D.TITO D.TIi1 D.TIi2 hTI)
    · exact (sb.2 _ D.TOz).trans TO'
    · exact st1.1.at fun o q=>(sb.2 _ i1z).trans q
    · obtain ⟨o2,q2,r2⟩:=st2
      exact ⟨o2,(sb.2 _ i2z).trans q2,r2⟩
    · have hlt:c<s.heap.objs.size:=by
        have e':c=z∨c=TI∨c=TO∨c=i1∨c=i2:=by simpa using hcm
        rcases e' with q|q|q|q|q
        · rw[q]; exact hzl
        · rw[q]; exact Heap.lt_size hTI
        · rw[q]; exact Heap.lt_size hTO
        · rw[q]; obtain ⟨_,e1,_⟩:=h1; exact Heap.lt_size e1
        · rw[q]; obtain ⟨_,e2,_⟩:=h2; exact Heap.lt_size e2
      rw[upd_ne (Nat.ne_of_lt hlt)]
      exact (hf c hcm).1
  done:=by
    intro X hP hw hK hc i pins s σ H E I hf st hg
    subst hP hw hK
    obtain ⟨hz,hTI,⟨x0,y0,hTO⟩,h1,h2⟩:=st
    obtain ⟨xs,hqx,hend⟩:=hg
    obtain ⟨its,rv,p,_⟩:=I.list hqx
    have l1:=rv.length
    have hh:X.A.in1.handled=none:=I.ok.hd hc
    have hal:a≠i1:=fun e=>by
      obtain ⟨o1,e1,c1,_⟩:=id h1
      obtain ⟨o3,e3,c3,_⟩:=(show s.heap.IsList a its.toArray from p.isList)
      rw[e,e1] at e3
      cases e3
      rw[c1] at c3
      exact absurd c3 (by decide)
    have hn:its.toArray.size=xs.length:=by simpa using l1.symm
    exact wpAny_pyNext_zipD2_end D (Draws.list hh i1 a hal its.toArray) (Draws.text hh i2 y t) hz hTI hTO ⟨h1,p.isList⟩ h2 (by omega) (by omega) (by omega) fun h' tk hk=>⟨rfl,I.turnedL (t':=tk) (ch:=[z,TI,TO,i1,i2]) (fun c o hb q=>
      hk c o (fun q'=>hb (by simp[q'])) (fun q'=>hb (by simp[q'])) (fun q'=>hb (by simp[q'])) (fun q'=>hb (by simp[q'])) q) hf⟩
  self:=fun A i s Q E st h=>wpAny_pyIter_zip st.1 h
section
variable {K:PySem.W.Frag} {mg:Str→Option Value} {μ:Mu} {H:Hp} {a:Addr} {xs:List D} {vs:List V}
theorem iq {y:Str} {i:Nat} {d:D} (h:(bj y)[i]?=some d):∃c,y.cps[i]?=some c∧d=.str ⟨#[c]⟩:=by
  unfold bj at h
  rw[List.getElem?_map,Array.getElem?_toList] at h
  obtain ⟨c,e1,e2⟩:=Option.map_eq_some_iff.mp h
  exact ⟨c,e1,e2.symm⟩
theorem fM (y:Str):(bj y).length=y.cps.size:=by unfold bj; simp
theorem nq {y:Str} (h:Rd H a (.tup vs)) (n:a∉μ) (r:RepAll K mg μ H xs vs):eD K mg μ H (cU xs (bj y)) (ItzST K a y) where
  goes:=fun i μ' H' hi st=>by
    rw[cj,fM] at hi
    have h1:i<vs.length:=by rw[←r.length]; omega
    have h2:i<y.cps.size:=by omega
    exact ⟨vs,vs[i],y.cps[i],.inl (di st h n).1,by simp,by simp[h2]⟩
  stops:=fun μ' H' st=>⟨vs,.inl (di st h n).1,by rw[cj,fM,←r.length]⟩
  yields:=fun i d μ' H' S x H2 e st rs z=>by
    obtain ⟨T,w1,c,rfl,hT,rfl,y1,y2⟩:=z
    obtain ⟨da,db,e1,e2,rfl⟩:=iF _ _ _ _ e
    obtain ⟨u1,g1,k1⟩:=r.get e1
    obtain ⟨c2,g2,rfl⟩:=iq e2
    have q1:=y1 vs (.inl (di st h n).1)
    rw[g1] at q1; cases q1
    rw[g2] at y2; cases y2
    exact ⟨.upd hT,bO rs hT (.cons (Rep.stp st _ _ k1) (.cons (bV _) .nil))⟩
theorem nr {y:Str} (h:H a=some (.lst vs)) (n:a∉μ) (r:RepAll K mg μ H xs vs):eD K mg μ H (cU xs (bj y)) (ItzSL K a y) where
  goes:=fun i μ' H' hi st=>by
    rw[cj,fM] at hi
    have h1:i<vs.length:=by rw[←r.length]; omega
    have h2:i<y.cps.size:=by omega
    exact ⟨vs,vs[i],y.cps[i],.of (st.keep _ _ h n),by simp,by simp[h2]⟩
  stops:=fun μ' H' st=>⟨vs,.of (st.keep _ _ h n),by rw[cj,fM,←r.length]⟩
  yields:=fun i d μ' H' S x H2 e st rs z=>by
    obtain ⟨T,w1,c,rfl,hT,rfl,y1,y2⟩:=z
    obtain ⟨da,db,e1,e2,rfl⟩:=iF _ _ _ _ e
    obtain ⟨u1,g1,k1⟩:=r.get e1
    obtain ⟨c2,g2,rfl⟩:=iq e2
    have q1:=y1 vs (.of (st.keep _ _ h n))
    rw[g1] at q1; cases q1
    rw[g2] at y2; cases y2
    exact ⟨.upd hT,bO rs hT (.cons (Rep.stp st _ _ k1) (.cons (bV _) .nil))⟩
end
def lN:List D→Option (List D)
  | [.tup xs,.str y]=>some (cU xs (bj y))
  | [.lst xs,.str y]=>some (cU xs (bj y))
  | _=>none
def sy (r:MA):MI:=fun env S=>(r env S).bind fun ds S=>ofO S ((lN (ds.map vt)).map .items)
theorem ub {X:Cx} {W:WX} {e e2:Expr} {r:MA} {p pos:Pos} {tpos:Pos} {elts:List Expr} {kk:Nat} (hg:Gl X "zip") (hm:X.mg "zip"=none) (ha:PA X [e,e2] (tAs X W r))
    (hs:starEach [e,e2] X.env=(false,eval e X.env)::starEach [e2] X.env:=by rfl) (hpl:(backTo pos (starEach [e2] X.env)).any (·.1)=false:=by rfl) :
    PI X (.Tuple elts kk tpos) (.Call (.Name "zip" p) [e,e2] [] pos) (tI X W (sy r)):=by
  refine ⟨fun pins s σ H R I ⟨env,S,μ,rl,o⟩=>?_⟩
  refine Call_ (ld_blt I hg hm PyProof.Rows.boot_zip (PyProof.Rows.callWith_type1 (thn (ha.run pos pins s σ H _ I ⟨env,S,μ,rl,Out.bind o⟩) fun us s1 ⟨vs,H1,I1,r1,μ1,S1,ds,st,rs,rd,o1⟩=>?_) hs hpl))
  have fresh5:∀c,c∈[s1.heap.objs.size+4,s1.heap.objs.size+2,s1.heap.objs.size+3,s1.heap.objs.size,s1.heap.objs.size+1]→FpOk X pins H1 c:=fun c hcm=>by
    have e':c=s1.heap.objs.size+4∨c=s1.heap.objs.size+2∨c=s1.heap.objs.size+3∨c=s1.heap.objs.size∨c=s1.heap.objs.size+1:=by simpa using hcm
    have hle:s1.heap.objs.size≤c:=by
      rcases e' with z|z|z|z|z
      · rw[z]; exact Nat.le_add_right _ _
      · rw[z]; exact Nat.le_add_right _ _
      · rw[z]; exact Nat.le_add_right _ _
      · rw[z]; exact Nat.le_refl _
      · rw[z]; exact Nat.le_add_right _ _
    exact I1.fpOk hle (I1.hok.fresh hle)
  obtain ⟨zs,ez⟩:∃zs,lN (ds.map vt)=some zs:=by
    cases ez:lN (ds.map vt) with
    | none=>rw[ez] at o1; exact o1.elim
    | some zs=>exact ⟨zs,rfl⟩
  rw[ez] at o1
  unfold lN at ez
  split at ez
  · rename_i xs y ev
    cases ez
    obtain ⟨d,d',v,w,rfl,⟨e1,e2⟩,rfl,k1,k2⟩:=gu rd ev
    have k1:=k1.wv.vt
    have k2:=k2.wv.vt
    rw[e1] at k1
    rw[e2] at k2
    obtain ⟨a,va,rfl,h1,l1,n1⟩:=k1
    obtain rfl:w=V.str y:=k2
    cases r1 with
    | cons ra rr=>
      cases rr with
      | cons rb rr=>
        cases rr
        cases ra
        obtain ⟨t,rfl⟩:=rb
        obtain ⟨its,rv,p',hz⟩:=I1.tuple (.inl h1)
        obtain ⟨oa,hoa,_⟩:=id p'
        refine zip_begins2 (begins_tuple a its.toArray) (begins_text y t) (show s1.heap.IsTuple a its.toArray from p') trivial fun h' hz hTI hTO g1 g2 hsz hk=>wpAny_pyIter_zip hz ?_
        have I2:L2.Inv X pins σ H1 { s1 with heap:=h' }:=I1.kept (t':=s1.toks) hk
        exact ⟨s1.heap.objs.size+4,_,_,_,H1,rfl,I2,oz (zsep _ a (Heap.lt_size hoa)),⟨hz,hTI,⟨_,_,hTO⟩,⟨_,g1,rfl,rfl⟩,⟨_,g2,rfl,rfl⟩⟩,fresh5,o1 _ _ _ .refl rs (nq h1 n1 l1)⟩
  · rename_i xs y ev
    cases ez
    obtain ⟨d,d',v,w,rfl,⟨e1,e2⟩,rfl,k1,k2⟩:=gu rd ev
    rw[jG e1 nofun] at k1
    have k2:=k2.wv.vt
    rw[e2] at k2
    unfold Rep at k1
    obtain ⟨a,va,rfl,h1,n1,l1⟩:=k1
    obtain rfl:w=V.str y:=k2
    cases r1 with
    | cons ra rr=>
      cases rr with
      | cons rb rr=>
        cases rr
        cases ra
        obtain ⟨t,rfl⟩:=rb
        obtain ⟨its,rv,p',hz⟩:=I1.list (.of h1)
        obtain ⟨oa,hoa,_⟩:=id p'.isList
        refine zip_begins2 (begins_list a its.toArray) (begins_text y t) p'.isList trivial fun h' hz hTI hTO g1 g2 hsz hk=>wpAny_pyIter_zip hz ?_
        have I2:L2.Inv X pins σ H1 { s1 with heap:=h' }:=I1.kept (t':=s1.toks) hk
        exact ⟨s1.heap.objs.size+4,_,_,_,H1,rfl,I2,o0 (zsep _ a (Heap.lt_size hoa)),⟨hz,hTI,⟨_,_,hTO⟩,⟨_,g1,rfl,rfl⟩,⟨_,g2,rfl,rfl⟩⟩,fresh5,o1 _ _ _ .refl rs (nr h1 n1 l1)⟩
  · cases ez
end DL
namespace DL
open PySem PySem.Spec PyProof.Rows
open PySem.Sem (wp)
section
variable {prog:Program} {w:World} {A:Around} {E:Value→Shared→Prop} {s:Shared} {z TI TO i1 i2:Addr} {fp1 fp2:List Addr} {n1 n2 i:Nat} {P1 P2:Nat→Value→Prop} {St1 St2:Nat→Heap→Prop} {a1 a2:Value}
theorem jY {T:Addr} {f:Bool} {oT:Obj} {Q:Value→Shared→Prop} (S:ZipSep2 z TI TO i1 i2 fp1 fp2) (D1:Draws prog w A i1 fp1 n1 P1 St1) (D2:Draws prog w A i2 fp2 n2 P2 St2)
    (hz:IsZipHeld s.heap z TI TO T f) (hT:s.heap.get? T=some oT) (hTI:IsTupOf2 s.heap TI (.ref i1) (.ref i2)) (st1:St1 i s.heap) (st2:St2 i s.heap) (hlt1:i<n1) (hlt2:i<n2)
    (hQ:∀x1 x2 h' tk,P1 i x1→P2 i x2→IsZipHeld h' z TI TO T true→St1 (i+1) h'→St2 (i+1) h'→IsTupOf2 h' s.heap.objs.size x1 x2→h'.objs.size=s.heap.objs.size+1→
      (∀c o,c≠z→c≠i1→c≠i2→s.heap.get? c=some o→h'.get? c=some o)→Q (.ref s.heap.objs.size) { s with heap:=h',toks:=tk }) :
    wpAny (model prog w) A (Builtin.«zip.__next__» ⟨[.ref z],[]⟩) (fun fin s'=>∃v,fin=.done (.ret v)∧Q v s') E s:=by
  obtain ⟨hp,g,d,tk0,os⟩:=s
  show wpAny _ _ (field (.ref z) 2 >>= _) _ _ _
  refine wpAny_bind (wpAny_field hz rfl (x:=.bool false) rfl ?_)
  show wpAny _ _ (field (.ref z) 3 >>= _) _ _ _
  refine wpAny_bind (wpAny_field hz rfl (x:=.ref TI) rfl ?_)
  refine wpAny_bind (wpAny_seqItems hTI rfl ?_)
  show wpAny _ _ (Builtin.SmallTypes.ownedTupleIsFree (.ref z) >>= _) _ _ _
  refine wpAny_bind (wpAny_tupleHeld_zip hz hT fun g0 hz0 hs0=>?_)
  replace hs0:Heap.SameBut z hp g0:=hs0
  simp only[Bool.false_eq_true,if_false]
  refine wpAny_bind ?_
  rw[←Array.forIn_toList]
  simp only[List.forIn_cons,List.forIn_nil]
  refine wpAny_bind (wpAny_bind (wpAny_holding ?_))
  show wpAny _ _ (Builtin.SmallTypes.nextOf (.ref i1) >>= _) _ _ ⟨g0,g,d,tk0,os⟩
  refine wpAny_bind (D1.item i _ _ _ hlt1 (D1.over st1 hs0 S.zf1) fun x1 p1 tk1 hx1 sn1 hp1=>wpAny_pure ?_)
  replace hp1:Heap.SameBut i1 g0 p1:=hp1
  refine wpAny_pure ?_
  refine wpAny_bind (wpAny_bind (wpAny_holding ?_))
  show wpAny _ _ (Builtin.SmallTypes.nextOf (.ref i2) >>= _) _ _ ⟨p1,g,d,tk1,os⟩
  refine wpAny_bind (D2.item i _ _ _ hlt2 (D2.over (D2.over st2 hs0 S.zf2) hp1 S.sep1_2) fun x2 p2 tk2 hx2 sn2 hp2=>wpAny_pure ?_)
  replace hp2:Heap.SameBut i2 p1 p2:=hp2
  refine wpAny_pure (wpAny_pure ?_)
  show wpAny _ _ (newTuple [x1,x2] >>= _) _ _ ⟨p2,g,d,tk2,os⟩
  refine wpAny_bind (wpAny_newTuple ?_)
  have hsz:p2.objs.size=hp.objs.size:=by rw[hp2.1,hp1.1,hs0.1]
  have hzz:IsZipHeld p2 z TI TO T true:=hp2.extBut _ _ S.zi2 (hp1.extBut _ _ S.zi1 hz0)
  have hk:∀c o,c≠z→c≠i1→c≠i2→hp.get? c=some o→p2.get? c=some o:=fun c o c1 c2 c3 e=>hp2.extBut _ _ c3 (hp1.extBut _ _ c2 (hs0.extBut _ _ c1 e))
  have hj1:St1 (i+1) p2:=D1.over sn1 hp2 S.sep2_1
  refine wpAny_pure ⟨_,rfl,?_⟩
  show Q (.ref p2.objs.size) _
  have hpp:IsTupOf2 (p2.push { cls:=.type "tuple",data:=.seq #[x1,x2] }) p2.objs.size x1 x2:=Heap.get?_push_size _ rfl
  have hz4:(p2.push { cls:=.type "tuple",data:=.seq #[x1,x2] }).objs.size=p2.objs.size+1:=Heap.size_push ..
  rw[hsz] at hpp hz4 ⊢
  exact hQ x1 x2 _ tk2 hx1 hx2 (Heap.get?_push_of_some _ hzz) (D1.frame _ _ _ hj1 fun b _ o e=>Heap.get?_push_of_some _ e) (D2.frame _ _ _ sn2 fun b _ o e=>Heap.get?_push_of_some _ e) hpp hz4 fun c o c1 c2 c3 e=>Heap.get?_push_of_some _ (hk c o c1 c2 c3 e)
theorem kB {T:Addr} {f:Bool} {oT:Obj} {Q:Fin→Shared→Prop} (S:ZipSep2 z TI TO i1 i2 fp1 fp2) (D1:Draws prog w A i1 fp1 n1 P1 St1) (D2:Draws prog w A i2 fp2 n2 P2 St2)
    (hz:IsZipHeld s.heap z TI TO T f) (hT:s.heap.get? T=some oT) (hTI:IsTupOf2 s.heap TI (.ref i1) (.ref i2)) (st1:St1 i s.heap) (st2:St2 i s.heap) (hle1:i≤n1) (hle2:i≤n2) (hend:i=n1∨i=n2)
    (hE:∀h' tk e,(∀c o,c≠z→c≠i1→c≠i2→s.heap.get? c=some o→h'.get? c=some o)→(∃o,h'.get? e=some o∧o.cls=.type "StopIteration")→E (.ref e) { s with heap:=h',toks:=tk }) :
    wpAny (model prog w) A (Builtin.«zip.__next__» ⟨[.ref z],[]⟩) Q E s:=by
  obtain ⟨hp,g,d,tk0,os⟩:=s
  show wpAny _ _ (field (.ref z) 2 >>= _) _ _ _
  refine wpAny_bind (wpAny_field hz rfl (x:=.bool false) rfl ?_)
  show wpAny _ _ (field (.ref z) 3 >>= _) _ _ _
  refine wpAny_bind (wpAny_field hz rfl (x:=.ref TI) rfl ?_)
  refine wpAny_bind (wpAny_seqItems hTI rfl ?_)
  show wpAny _ _ (Builtin.SmallTypes.ownedTupleIsFree (.ref z) >>= _) _ _ _
  refine wpAny_bind (wpAny_tupleHeld_zip hz hT fun g0 hz0 hs0=>?_)
  replace hs0:Heap.SameBut z hp g0:=hs0
  simp only[Bool.false_eq_true,if_false]
  refine wpAny_bind ?_
  rw[←Array.forIn_toList]
  simp only[List.forIn_cons,List.forIn_nil]
  refine wpAny_bind (wpAny_bind (wpAny_holding ?_))
  show wpAny _ _ (Builtin.SmallTypes.nextOf (.ref i1) >>= _) _ _ ⟨g0,g,d,tk0,os⟩
  by_cases hlt1:i<n1
  · refine wpAny_bind (D1.item i _ _ _ hlt1 (D1.over st1 hs0 S.zf1) fun x1 p1 tk1 hx1 sn1 hp1=>wpAny_pure ?_)
    replace hp1:Heap.SameBut i1 g0 p1:=hp1
    refine wpAny_pure ?_
    refine wpAny_bind (wpAny_bind (wpAny_holding ?_))
    have hi2:i=n2:=by omega
    show wpAny _ _ (Builtin.SmallTypes.nextOf (.ref i2) >>= _) _ _ ⟨p1,g,d,tk1,os⟩
    refine wpAny_bind (D2.done ⟨p1,g,d,tk1,os⟩ _ _ (by rw[←hi2]; exact D2.over (D2.over st2 hs0 S.zf2) hp1 S.sep1_2) fun q e hq he=>?_)
    exact hE q tk1 e (fun c o c1 c2 c3 x=>hq _ _ c3 (hp1.extBut _ _ c2 (hs0.extBut _ _ c1 x))) he
  · have hi1:i=n1:=by omega
    refine wpAny_bind (D1.done ⟨g0,g,d,tk0,os⟩ _ _ (by rw[←hi1]; exact D1.over st1 hs0 S.zf1) fun q e hq he=>?_)
    exact hE q tk0 e (fun c o c1 c2 _ x=>hq _ _ c2 (hs0.extBut _ _ c1 x)) he
theorem iO {T:Addr} {f:Bool} {oT:Obj} {Q:Option Value→Shared→Prop} (S:ZipSep2 z TI TO i1 i2 fp1 fp2) (D1:Draws prog w A.in1 i1 fp1 n1 P1 St1) (D2:Draws prog w A.in1 i2 fp2 n2 P2 St2)
    (hz:IsZipHeld s.heap z TI TO T f) (hT:s.heap.get? T=some oT) (hTI:IsTupOf2 s.heap TI (.ref i1) (.ref i2)) (st1:St1 i s.heap) (st2:St2 i s.heap) (hlt1:i<n1) (hlt2:i<n2)
    (hQ:∀x1 x2 h' tk,P1 i x1→P2 i x2→IsZipHeld h' z TI TO T true→St1 (i+1) h'→St2 (i+1) h'→IsTupOf2 h' s.heap.objs.size x1 x2→h'.objs.size=s.heap.objs.size+1→
      (∀c o,c≠z→c≠i1→c≠i2→s.heap.get? c=some o→h'.get? c=some o)→Q (some (.ref s.heap.objs.size)) { s with heap:=h',toks:=tk }) :
    wpAny (model prog w) A (pyNext (.ref z)) Q E s:=by
  have hTy:s.TypeIs (.ref z) "zip":=⟨_,hz,rfl⟩
  unfold pyNext
  exact wpAny_bind (wpAny_attempt (wpAny_callSpecial?_slot (name:=Str.ofString "__next__") hTy F.slot_zip_next
    (wpAny_call_entry F.slot_zip_next hTy F.entry_zip_next
      (jY S D1 D2 hz hT hTI st1 st2 hlt1 hlt2 fun x1 x2 h' tk y1 y2 b1 d1 d2 b5 b6 b7=>wpAny_pure (hQ x1 x2 h' tk y1 y2 b1 d1 d2 b5 b6 b7)) (F.args_zip_next_1 _))))
theorem ir {T:Addr} {f:Bool} {oT:Obj} {Q:Option Value→Shared→Prop} (S:ZipSep2 z TI TO i1 i2 fp1 fp2) (D1:Draws prog w A.in1 i1 fp1 n1 P1 St1) (D2:Draws prog w A.in1 i2 fp2 n2 P2 St2)
    (hz:IsZipHeld s.heap z TI TO T f) (hT:s.heap.get? T=some oT) (hTI:IsTupOf2 s.heap TI (.ref i1) (.ref i2)) (st1:St1 i s.heap) (st2:St2 i s.heap) (hle1:i≤n1) (hle2:i≤n2) (hend:i=n1∨i=n2)
    (hQ:∀h' tk,(∀c o,c≠z→c≠i1→c≠i2→s.heap.get? c=some o→h'.get? c=some o)→Q none { s with heap:=h',toks:=tk }):wpAny (model prog w) A (pyNext (.ref z)) Q E s:=by
  have hTy:s.TypeIs (.ref z) "zip":=⟨_,hz,rfl⟩
  unfold pyNext
  refine wpAny_bind (wpAny_attempt (wpAny_callSpecial?_slot (name:=Str.ofString "__next__") hTy F.slot_zip_next
    (wpAny_call_entry F.slot_zip_next hTy F.entry_zip_next (kB S D1 D2 hz hT hTI st1 st2 hle1 hle2 hend fun h' tk e hk he=>?_) (F.args_zip_next_1 _))))
  obtain ⟨o,ho,hc⟩:=he
  refine wpAny_bind (wpAny_isInstance (T:="StopIteration") (b:=true) ⟨o,ho,hc⟩ isSubtype_stop ?_)
  exact wpAny_pure (hQ _ _ hk)
/-- the pairs got so far,new ones in a row from N on -/
structure Got (N:Nat) (P1 P2:Nat→Value→Prop) (h:Heap) (acc:Array Value) (i:Nat):Prop where
  size:acc.size=i
  at_:∀j,j<i→acc[j]?=some (.ref (N+j))∧∃x1 x2,IsTupOf2 h (N+j) x1 x2∧P1 j x1∧P2 j x2
/-- the zip behind i turns -/
def ZipAt (N:Nat) (z TI TO i1 i2:Addr) (i:Nat) (h:Heap):Prop:=(i=0∧IsZip h z TI TO .none∧∃a1 a2,IsTupOf2 h TO a1 a2)∨(0<i∧∃f,IsZipHeld h z TI TO N f)
theorem sz (hh:A.handled=none) (S:ZipSep2 z TI TO i1 i2 fp1 fp2) (D1:∀A':Around,A'.handled=none→Draws prog w A' i1 fp1 n1 P1 St1) (D2:∀A':Around,A'.handled=none→Draws prog w A' i2 fp2 n2 P2 St2)
    (hn:min n1 n2≤sizeLine) (L:Addr) (res:Value) (N:Nat) (hb:∀b,b=z∨b=TI∨b=TO∨b=i1∨b=i2∨b∈fp1∨b∈fp2→b<L) (hLN:L<N) {R:Result→Shared→Prop} :
    ∀(k i:Nat) (s:Shared) (acc:Array Value) (c:Nat),min n1 n2 - i=k→i≤min n1 n2→s.heap.objs.size=N+i→ZipAt N z TI TO i1 i2 i s.heap→IsTupOf2 s.heap TI (.ref i1) (.ref i2)→St1 i s.heap→St2 i s.heap→
    s.heap.get? L=some { cls:=.type "list",dict:=none,data:=.seq acc c,slots:=#[] }→Got N P1 P2 s.heap acc i→
    (∀h' tk acc' c',(∀b o,b≠L→b≠z→b≠TO→b≠i1→b≠i2→s.heap.get? b=some o→h'.get? b=some o)→h'.get? L=some { cls:=.type "list",dict:=none,data:=.seq acc' c',slots:=#[] }→
      Got N P1 P2 h' acc' (min n1 n2)→R (.ok (.ret res)) { s with heap:=h',toks:=tk })→
    codeAny (model prog w) A (.builtin "list.extend.loop" ⟨[.ref L,.ref z,res],[]⟩) R s:=by
  have hLz:L≠z:=fun e=>Nat.lt_irrefl _ (by have:=hb z (.inl rfl); rw[←e] at this; exact this)
  have hLT:L≠TO:=fun e=>Nat.lt_irrefl _ (by have:=hb TO (.inr (.inr (.inl rfl))); rw[←e] at this; exact this)
  have hLTI:L≠TI:=fun e=>Nat.lt_irrefl _ (by have:=hb TI (.inr (.inl rfl)); rw[←e] at this; exact this)
  have hL1:L≠i1:=fun e=>Nat.lt_irrefl _ (by have:=hb i1 (.inr (.inr (.inr (.inl rfl)))); rw[←e] at this; exact this)
  have hL2:L≠i2:=fun e=>Nat.lt_irrefl _ (by have:=hb i2 (.inr (.inr (.inr (.inr (.inl rfl))))); rw[←e] at this; exact this)
  have hf1:L∉fp1:=fun m=>Nat.lt_irrefl _ (hb L (.inr (.inr (.inr (.inr (.inr (.inl m)))))))
  have hf2:L∉fp2:=fun m=>Nat.lt_irrefl _ (hb L (.inr (.inr (.inr (.inr (.inr (.inr m)))))))
  have big:∀j b,b=z∨b=TI∨b=TO∨b=i1∨b=i2∨b∈fp1∨b∈fp2→¬((N+j:Nat)=b):=fun j b hm e=>by
    have h1:b<L:=hb b hm
    have h2:(N+j:Nat)<L:=by rw[e]; exact h1
    exact Nat.lt_irrefl N (Nat.lt_of_le_of_lt (Nat.le_add_right N j) (Nat.lt_trans h2 hLN))
  have hh1:A.in1.in1.handled=none:=hh
  intro k
  induction k with
  | zero=>
    intro i s acc c hk hi hsz hz hTI st1 st2 hS hacc hR
    have hin:i=min n1 n2:=by omega
    refine codeAny_builtin F.entry_extend_loop ?_
    rw[Around.under_plainId F.plain_extend_loop _]
    show wpAny _ A.in1 (pyNext (.ref z) >>= _) _ _ s
    rcases hz with ⟨hi0,hz,a1,a2,hTO⟩|⟨hi0,f,hz⟩
    · refine wpAny_bind (wpAny_pyNext_zipD2_end S (D1 _ hh1) (D2 _ hh1) hz hTI hTO st1 st2 (by omega) (by omega) (by omega) fun h' tk hk'=>?_)
      refine wpAny_pure (hR h' tk acc c (fun b o c1 c2 c3 c4 c5 e=>hk' b o c2 c3 c4 c5 e) (hk' _ _ hLz hLT hL1 hL2 hS) ?_)
      rw[←hin]
      refine ⟨hacc.size,fun j hj=>?_⟩
      omega
    · obtain ⟨_,x1,x2,hT0,_⟩:=hacc.at_ 0 hi0
      refine wpAny_bind (ir S (D1 _ hh1) (D2 _ hh1) hz hT0 hTI st1 st2 (by omega) (by omega) (by omega) fun h' tk hk'=>?_)
      refine wpAny_pure (hR h' tk acc c (fun b o c1 c2 c3 c4 c5 e=>hk' b o c2 c4 c5 e) (hk' _ _ hLz hL1 hL2 hS) ?_)
      rw[←hin]
      refine ⟨hacc.size,fun j hj=>?_⟩
      obtain ⟨q1,y1,y2,q2,q3⟩:=hacc.at_ j hj
      exact ⟨q1,y1,y2,hk' _ _ (big j z (.inl rfl)) (big j i1 (.inr (.inr (.inr (.inl rfl))))) (big j i2 (.inr (.inr (.inr (.inr (.inl rfl)))))) q2,q3⟩
  | succ k ih=>
    intro i s acc c hk hi hsz hz hTI st1 st2 hS hacc hR
    have hlt:i<min n1 n2:=by omega
    refine codeAny_builtin F.entry_extend_loop ?_
    rw[Around.under_plainId F.plain_extend_loop _]
    show wpAny _ A.in1 (pyNext (.ref z) >>= _) _ _ s
    have go:∀(h':Heap) (tk:Nat) (x1 x2:Value),P1 i x1→P2 i x2→(∃f,IsZipHeld h' z TI TO N f)→St1 (i+1) h'→St2 (i+1) h'→IsTupOf2 h' s.heap.objs.size x1 x2→h'.objs.size=s.heap.objs.size+1→
        (∀c o,c≠z→c≠TO→c≠i1→c≠i2→s.heap.get? c=some o→h'.get? c=some o)→
        wpAny (model prog w) A.in1 (updateSeq L (·.push (.ref s.heap.objs.size)) >>= fun _=>again (.builtin "list.extend.loop" ⟨[.ref L,.ref z,res],[]⟩)) (fun fin s'=>match fin with|.done f=>R (.ok f) s'|.again c'=>c'.quiet=true∧codeAny (model prog w) A c' R s') (fun e s'=>R (.error e) s') { s with heap:=h',toks:=tk }:=by
      intro h' tk x1 x2 p1 p2 hz' s1 s2 hT hsz' hk'
      have hS':=hk' _ _ hLz hLT hL1 hL2 hS
      refine wpAny_bind ?_
      have up:∀b,b≠L→(h'.update L (Obj.mapSeq (·.push (.ref s.heap.objs.size)))).get? b=h'.get? b:=fun b hbL=>Heap.get?_update_other _ _ (Ne.symm hbL)
      refine wpAny_updateSeq hS' rfl (wpAny_pure ⟨plainId_quiet F.plain_extend_loop _,ih (i+1) _ (acc.push (.ref s.heap.objs.size)) _ (by omega) (by omega) ?_ ?_ ?_ ?_ ?_ (Heap.get?_update_self _ hS' rfl) ?_ fun h'' tk'' acc' c' hm'' hS'' hacc'=>?_⟩) (by rw[hacc.size]; omega) (by show (acc.push _).size≤sizeLine+1; rw[Array.size_push,hacc.size]; omega)
      · show (h'.update L _).objs.size=_
        rw[(Heap.SameBut.update ..).1,hsz',hsz]
        omega
      · obtain ⟨f,hzf⟩:=hz'
        exact .inr ⟨Nat.succ_pos _,f,(up z (Ne.symm hLz)).trans hzf⟩
      · refine (up TI (Ne.symm hLTI)).trans (hk' _ _ S.TIz S.TITO S.TIi1 S.TIi2 hTI)
      · exact (D1 _ hh1).frame _ _ _ s1 fun b hbm o e=>(up b fun q=>hf1 (q▸hbm)).trans e
      · exact (D2 _ hh1).frame _ _ _ s2 fun b hbm o e=>(up b fun q=>hf2 (q▸hbm)).trans e
      · have nL:∀j,(N+j:Nat)≠L:=fun j e=>by
          have h2:N+j<N:=by rw[e]; exact hLN
          exact Nat.lt_irrefl N (Nat.lt_of_le_of_lt (Nat.le_add_right N j) h2)
        refine ⟨by rw[Array.size_push,hacc.size],fun j hj=>?_⟩
        by_cases hji:j<i
        · obtain ⟨q1,y1,y2,q2,q3⟩:=hacc.at_ j hji
          refine ⟨?_,y1,y2,(up _ (nL j)).trans (hk' _ _ (big j z (.inl rfl)) (big j TO (.inr (.inr (.inl rfl)))) (big j i1 (.inr (.inr (.inr (.inl rfl))))) (big j i2 (.inr (.inr (.inr (.inr (.inl rfl)))))) q2),q3⟩
          rw[Array.getElem?_push,if_neg (by rw[hacc.size]; omega)]
          exact q1
        · have hje:j=i:=by omega
          subst hje
          refine ⟨?_,x1,x2,?_,p1,p2⟩
          · rw[Array.getElem?_push,if_pos hacc.size.symm,hsz]
          · rw[hsz] at hT
            exact (up _ (nL j)).trans hT
      · refine hR h'' tk'' acc' c' (fun b o c1 c2 c3 c4 c5 e=>?_) hS'' hacc'
        exact hm'' b o c1 c2 c3 c4 c5 ((up b c1).trans (hk' b o c2 c3 c4 c5 e))
    rcases hz with ⟨hi0,hz,a1,a2,hTO⟩|⟨hi0,f,hz⟩
    · refine wpAny_bind (wpAny_pyNext_zipD2_item S (D1 _ hh1) (D2 _ hh1) hz hTI hTO st1 st2 (by omega) (by omega) fun x1 x2 h' tk p1 p2 z' _ s1 s2 hT hsz' hk'=>?_)
      refine go h' tk x1 x2 p1 p2 ⟨false,?_⟩ s1 s2 hT hsz' hk'
      rw[hsz,hi0] at z'
      exact z'
    · obtain ⟨_,x1,x2,hT0,_⟩:=hacc.at_ 0 hi0
      refine wpAny_bind (iO S (D1 _ hh1) (D2 _ hh1) hz hT0 hTI st1 st2 (by omega) (by omega) fun x1 x2 h' tk p1 p2 z' s1 s2 hT hsz' hk'=>?_)
      exact go h' tk x1 x2 p1 p2 ⟨true,z'⟩ s1 s2 hT hsz' fun c o c1 _ c2 c3 e=>hk' c o c1 c2 c3 e
end
end DL
namespace DL
open PySem PySem.Spec PyProof.Rows
open PySem.Sem (wp)
theorem pA:typeLookup (.type "zip") "__len__"=pure none:=by rw[typeLookup_type,builtinLookup_eq_fast]; kernel_rfl
theorem nu:typeLookup (.type "zip") "__length_hint__"=pure none:=by rw[typeLookup_type,builtinLookup_eq_fast]; kernel_rfl
section
variable {prog:Program} {w:World} {A:Around} {E:Value→Shared→Prop} {s:Shared} {z TI TO i1 i2:Addr} {fp1 fp2:List Addr} {n1 n2:Nat} {P1 P2:Nat→Value→Prop} {St1 St2:Nat→Heap→Prop} {a1 a2:Value}
theorem pB {R:Result→Shared→Prop} (hh:A.handled=none) (S:ZipSep2 z TI TO i1 i2 fp1 fp2) (D1:∀A':Around,A'.handled=none→Draws prog w A' i1 fp1 n1 P1 St1) (D2:∀A':Around,A'.handled=none→Draws prog w A' i2 fp2 n2 P2 St2)
    (hn:min n1 n2≤sizeLine) (L:Addr) (res:Value) (c₀:Nat) (hL:s.heap.get? L=some { cls:=.type "list",data:=.seq #[] c₀ }) (hz:IsZip s.heap z TI TO .none) (hTI:IsTupOf2 s.heap TI (.ref i1) (.ref i2)) (hTO:IsTupOf2 s.heap TO a1 a2) (st1:St1 0 s.heap) (st2:St2 0 s.heap)
    (hb:∀b,b=z∨b=TI∨b=TO∨b=i1∨b=i2∨b∈fp1∨b∈fp2→b<L)
    (hR:∀h' tk acc' c',(∀b o,b≠L→b≠z→b≠TO→b≠i1→b≠i2→s.heap.get? b=some o→h'.get? b=some o)→h'.get? L=some { cls:=.type "list",dict:=none,data:=.seq acc' c',slots:=#[] }→
      Got s.heap.objs.size P1 P2 h' acc' (min n1 n2)→R (.ok (.ret res)) { s with heap:=h',toks:=tk }) :
    wpAny (model prog w) A.in1 (Builtin.List.listExtendWith (.ref L) (.ref z) res)
      (fun fin s'=>match fin with|.done f=>R (.ok f) s'|.again c'=>c'.quiet=true∧codeAny (model prog w) A c' R s') (fun e s'=>R (.error e) s') s:=by
  have hLz:L≠z:=fun e=>Nat.lt_irrefl _ (by have:=hb z (.inl rfl); rw[←e] at this; exact this)
  have hLT:L≠TO:=fun e=>Nat.lt_irrefl _ (by have:=hb TO (.inr (.inr (.inl rfl))); rw[←e] at this; exact this)
  have hLTI:L≠TI:=fun e=>Nat.lt_irrefl _ (by have:=hb TI (.inr (.inl rfl)); rw[←e] at this; exact this)
  have hL1:L≠i1:=fun e=>Nat.lt_irrefl _ (by have:=hb i1 (.inr (.inr (.inr (.inl rfl)))); rw[←e] at this; exact this)
  have hL2:L≠i2:=fun e=>Nat.lt_irrefl _ (by have:=hb i2 (.inr (.inr (.inr (.inr (.inl rfl))))); rw[←e] at this; exact this)
  have hf1:L∉fp1:=fun m=>Nat.lt_irrefl _ (hb L (.inr (.inr (.inr (.inr (.inr (.inl m)))))))
  have hf2:L∉fp2:=fun m=>Nat.lt_irrefl _ (hb L (.inr (.inr (.inr (.inr (.inr (.inr m)))))))
  have hT:s.TypeIs (.ref z) "zip":=⟨_,hz,rfl⟩
  unfold Builtin.List.listExtendWith
  refine wpAny_bind (wpAny_typeOf hT ?_)
  have h1:Builtin.List.listSameRef (.ref L) (.ref z)=false:=by simp[Builtin.List.listSameRef,hLz]
  have h2:(Value.type "zip" == Value.type "list")=false:=by decide
  have h3:(Value.type "zip" == Value.type "tuple")=false:=by decide
  simp only[h1,h2,h3,Bool.or_false,Bool.false_eq_true,if_false]
  refine wpAny_bind (wpAny_pyIter_zip hz ?_)
  refine wpAny_bind (wpAny_holding ?_)
  unfold Builtin.List.listLengthHint
  refine wpAny_bind (wpAny_specialOf hT pA ?_)
  show wpAny _ A.in1 (specialOf (Value.ref z) (Str.ofString "__length_hint__") >>= _) _ _ _
  refine wpAny_bind (wpAny_specialOf hT nu ?_)
  refine wpAny_pure ?_
  show wpAny _ A.in1 (rule "list.extend.makes-room" >>= fun _=>Builtin.List.listTouch (.ref L) >>= fun _=>
    again (.builtin "list.extend.loop" ⟨[.ref L,.ref z,res],[]⟩)) _ _ _
  refine wpAny_bind (wpAny_rule ?_)
  refine wpAny_bind ?_
  show wpAny _ A.in1 (updateSeq L (·.push .none) >>= fun _=>updateSeq L (·.pop)) _ _ _
  refine wpAny_bind (wpAny_updateSeq hL rfl ?_)
  have hS₂:=Heap.get?_update_self (Obj.mapSeq (·.push Value.none)) hL rfl
  refine wpAny_updateSeq hS₂ rfl ?_
  have hS₃:=Heap.get?_update_self (Obj.mapSeq (·.pop)) hS₂ rfl
  have oth:∀b,b≠L→((s.heap.update L (Obj.mapSeq (·.push Value.none))).update L (Obj.mapSeq (·.pop))).get? b=s.heap.get? b:=
    fun b hb=>(Heap.get?_update_other _ _ (Ne.symm hb)).trans (Heap.get?_update_other _ _ (Ne.symm hb))
  have hsz:((s.heap.update L (Obj.mapSeq (·.push Value.none))).update L (Obj.mapSeq (·.pop))).objs.size=s.heap.objs.size:=by
    rw[(Heap.SameBut.update ..).1,(Heap.SameBut.update ..).1]
  refine wpAny_pure ⟨plainId_quiet F.plain_extend_loop _,sz hh S D1 D2 hn L res s.heap.objs.size hb (Heap.lt_size hL) _ 0 _ #[] _ rfl (Nat.zero_le _) hsz (.inl ⟨rfl,(oth z (Ne.symm hLz)).trans hz,a1,a2,(oth TO (Ne.symm hLT)).trans hTO⟩) ((oth TI (Ne.symm hLTI)).trans hTI) ?_ ?_ hS₃ ⟨rfl,fun j hj=>absurd hj (Nat.not_lt_zero _)⟩ fun h' tk acc' c' hm hS' hacc=>?_⟩
  · exact (D1 A hh).frame _ _ _ st1 fun b hbm o e=>(oth b fun q=>hf1 (q▸hbm)).trans e
  · exact (D2 A hh).frame _ _ _ st2 fun b hbm o e=>(oth b fun q=>hf2 (q▸hbm)).trans e
  · exact hR h' tk acc' c' (fun b o c1 c2 c3 c4 c5 e=>hm b o c1 c2 c3 c4 c5 ((oth b c1).trans e)) hS' hacc
theorem km {Q:Value→Shared→Prop} (hh:A.handled=none) (S:ZipSep2 z TI TO i1 i2 fp1 fp2) (D1:∀A':Around,A'.handled=none→Draws prog w A' i1 fp1 n1 P1 St1) (D2:∀A':Around,A'.handled=none→Draws prog w A' i2 fp2 n2 P2 St2)
    (hn:min n1 n2≤sizeLine) (hz:IsZip s.heap z TI TO .none) (hTI:IsTupOf2 s.heap TI (.ref i1) (.ref i2)) (hTO:IsTupOf2 s.heap TO a1 a2) (st1:St1 0 s.heap) (st2:St2 0 s.heap)
    (hb:∀b,b=z∨b=TI∨b=TO∨b=i1∨b=i2∨b∈fp1∨b∈fp2→b<s.heap.objs.size)
    (hQ:∀h' tk acc' c',(∀b o,b≠z→b≠TO→b≠i1→b≠i2→s.heap.get? b=some o→h'.get? b=some o)→h'.get? s.heap.objs.size=some { cls:=.type "list",dict:=none,data:=.seq acc' c',slots:=#[] }→
      Got (s.heap.objs.size+1) P1 P2 h' acc' (min n1 n2)→Q (.ref s.heap.objs.size) { s with heap:=h',toks:=tk }) :
    wpAny (model prog w) A (call (.type "list") [.ref z]) Q E s:=by
  refine callType_codes (Q₁:=fun obj s₁=>obj=.ref s.heap.objs.size∧s₁={ s with heap:=s.heap.push { cls:=.type "list",data:=.seq #[] } }) PySem.F.called_list (PySem.F.typeCall_list_1 _) PySem.F.entry_list_init
    (code_list_new _ ⟨rfl,rfl⟩) fun obj s₁ h₁=>?_
  obtain ⟨rfl,rfl⟩:=h₁
  have hS:(s.heap.push { cls:=.type "list",data:=.seq #[] }).get? s.heap.objs.size=some { cls:=.type "list",data:=.seq #[] }:=Heap.get?_push_size _ rfl
  refine ⟨⟨_,hS,rfl⟩,PySem.F.args_list_init_2 _ _,?_⟩
  obtain ⟨hp,g,d,tk0,os⟩:=s
  show wpAny _ _ (do let old ←Builtin.List.listItems (.ref hp.objs.size); Builtin.List.listUpdate (.ref hp.objs.size) (fun _=>#[]); letGo old.toList.reverse; Builtin.List.listExtendWith (.ref hp.objs.size) (.ref z) .none) _ _ _
  refine wpAny_bind ?_
  unfold Builtin.List.listItems
  refine wpAny_bind (wpAny_seqItems hS rfl (wpAny_pure ?_))
  show wpAny _ _ (updateSeq hp.objs.size (fun _=>#[]) >>= fun _=>letGo (#[]:Array Value).toList.reverse >>= fun _=>Builtin.List.listExtendWith (.ref hp.objs.size) (.ref z) .none) _ _ _
  refine wpAny_bind (wpAny_updateSeq hS rfl ?_)
  have hS₂:=Heap.get?_update_self (Obj.mapSeq (fun _=>(#[]:Array Value))) hS rfl
  have push:∀b o,hp.get? b=some o→(hp.push { cls:=.type "list",data:=.seq #[] }).get? b=some o:=fun b o e=>Heap.get?_push_of_some _ e
  have oth:∀b o,hp.get? b=some o→((hp.push { cls:=.type "list",data:=.seq #[] }).update hp.objs.size (Obj.mapSeq (fun _=>(#[]:Array Value)))).get? b=some o:=
    fun b o e=>(Heap.get?_update_other _ _ (Nat.ne_of_gt (Heap.lt_size e))).trans (push b o e)
  have hsz:((hp.push { cls:=.type "list",data:=.seq #[] }).update hp.objs.size (Obj.mapSeq (fun _=>(#[]:Array Value)))).objs.size=hp.objs.size+1:=by
    rw[(Heap.SameBut.update ..).1,Heap.size_push]
  refine wpAny_bind (wpAny_letGo ?_)
  refine pB (A:=A.in1) (s:=⟨(hp.push { cls:=.type "list",data:=.seq #[] }).update hp.objs.size (Obj.mapSeq (fun _=>(#[]:Array Value))),g,d,tk0,os⟩) hh S D1 D2 hn hp.objs.size .none _ hS₂ (oth _ _ hz) (oth _ _ hTI) (oth _ _ hTO) ((D1 A hh).frame _ _ _ st1 fun b _ o e=>oth b o e) ((D2 A hh).frame _ _ _ st2 fun b _ o e=>oth b o e) hb fun h' tk acc' c' hm hS' hacc=>?_
  refine ⟨rfl,hQ h' tk acc' c' (fun b o c1 c2 c3 c4 e=>hm b o (Nat.ne_of_lt (Heap.lt_size e)) c1 c2 c3 c4 (oth b o e)) hS' ?_⟩
  have hacc:Got ((hp.push { cls:=.type "list",data:=.seq #[] }).update hp.objs.size (Obj.mapSeq (fun _=>(#[]:Array Value)))).objs.size P1 P2 h' acc' (min n1 n2):=hacc
  rw[hsz] at hacc
  exact hacc
end
end DL
namespace DL
open PySem PySem.Spec PyProof.Rows L2
/-- pairs,new,in a row -/
def updP (H:Hp) (N:Nat):List (V × V)→Hp
  | []=>H
  | q::qs=>updP (upd H N (.tup [q.1,q.2])) (N+1) qs
section
variable {X:Cx} {pins:List (Addr × Obj)} {σ:L2.St}
theorem lO {L:Addr} {h':Heap}:∀(qs:List (V × V)) (N:Nat) (H:Hp) (s:Shared),L2.Inv X pins σ H s→(∀b u,s.heap.get? b=some u→h'.get? b=some u∧b≠L∧b<N)→L<N→
    (∀(j:Nat) (q:V × V),qs[j]?=some q→∃u1 u2,RelV q.1 u1∧RelV q.2 u2∧IsTupOf2 h' (N+j) u1 u2)→
    ∃G:Heap,(∀b u,G.get? b=some u→h'.get? b=some u∧b≠L)∧L2.Inv X pins σ (updP H N qs) { s with heap:=G }∧Sm H (updP H N qs)∧∀(j:Nat) (q:V × V),qs[j]?=some q→updP H N qs (N+j)=some (.tup [q.1,q.2])∧H (N+j)=none
  | [],N,H,s,I,k,hL,_=>⟨s.heap,fun b u e=>⟨(k b u e).1,(k b u e).2.1⟩,I,Sm.rfl,fun j q h=>by simp at h⟩
  | q::qs,N,H,s,I,k,hL,hq=>by
    obtain ⟨G,g1,g2⟩:=restrict h' fun b=>decide (b≠L∧b<N+1)
    obtain ⟨u1,u2,r1,r2,hT⟩:=hq 0 q rfl
    have hT:IsTupOf2 h' N u1 u2:=hT
    have hN:s.heap.get? N=none:=by
      cases e:s.heap.get? N with
      | none=>rfl
      | some u=>exact absurd (k N u e).2.2 (Nat.lt_irrefl _)
    have hHN:=I.hok.gone hN
    have gT:G.get? N=h'.get? N:=g1 N (decide_eq_true ⟨fun e=>Nat.lt_irrefl N (by
      have h2:L<N:=hL
      rw[←e] at h2
      exact h2),Nat.lt_succ_self N⟩)
    have new:ObjOk X.prog X.w (upd H N (.tup [q.1,q.2])) G N (.tup [q.1,q.2]):=
      ⟨by show 2≤sizeLine; decide,[u1,u2],.cons r1 (.cons r2 .nil),⟨_,gT.trans hT,rfl,_,rfl⟩⟩
    have kG:∀b u,s.heap.get? b=some u→G.get? b=some u:=fun b u e=>by
      have:=k b u e
      rw[g1 b (decide_eq_true ⟨this.2.1,Nat.lt_succ_of_lt this.2.2⟩)]
      exact this.1
    have I1:=I.laidN (t':=s.toks) kG hN hHN new
    obtain ⟨G2,f1,f2,f3,f4⟩:=lO qs (N+1) _ _ I1 (fun b u e=>by
      by_cases hb:b≠L∧b<N+1
      · have e2:h'.get? b=some u:=(g1 b (decide_eq_true hb)).symm.trans e
        exact ⟨e2,hb⟩
      · have e2:none=some u:=(g2 b (decide_eq_false hb)).symm.trans e
        cases e2) (Nat.lt_succ_of_lt hL) (fun j q2 h2=>by
      obtain ⟨v1,v2,a1,a2,a3⟩:=hq (j+1) q2 h2
      refine ⟨v1,v2,a1,a2,?_⟩
      have e:N+1+j=N+(j+1):=by omega
      rw[e]
      exact a3)
    refine ⟨G2,f1,f2,(Sm.upd hHN).trans f3,fun j q2 h2=>?_⟩
    cases j with
    | zero=>
      cases h2
      refine ⟨f3 N _ upd_same,hHN⟩
    | succ j=>
      obtain ⟨a1,a2⟩:=f4 j q2 h2
      have e:N+1+j=N+(j+1):=by omega
      rw[e] at a1 a2
      refine ⟨a1,?_⟩
      rw[upd_ne (fun h=>by
        have h:(N+(j+1):Nat)=N:=h
        omega)] at a2
      exact a2
end
end DL
namespace DL
open PySem PySem.Spec PyProof.Rows L2
def eJ:List D→Option D
  | [.tup xs,.str y]=>some (.lst (cU xs (bj y)))
  | _=>none
def kE (r:MA):ME:=fun env S=>(r env S).bind fun ds S=>ofO S (eJ (ds.map vt))
theorem kF {K:PySem.W.Frag} {mg:Str→Option Value} {μ:Mu} {H:Hp}:∀(ds:List D) (vs:List V),ds.length=vs.length→(∀(j:Nat) (d:D) (v:V),ds[j]?=some d→vs[j]?=some v→Rep K mg μ H d v)→RepAll K mg μ H ds vs
  | [],[],_,_=>.nil
  | [],_::_,h,_=>by simp at h
  | _::_,[],h,_=>by simp at h
  | d::ds,v::vs,h,hx=>.cons (hx 0 d v rfl rfl) (kF ds vs (by simpa using h) fun j d v h1 h2=>hx (j+1) d v h1 h2)
theorem pC {X:Cx} {W:WX} {e e2:Expr} {r:MA} {p p2 pos pos2:Pos} (hg:Gl X "list") (hm:X.mg "list"=none) (hg2:Gl X "zip") (hm2:X.mg "zip"=none) (ha:PA X [e,e2] (tAs X W r)) (hc:X.calm=true:=by rfl)
    (hs:starEach [e,e2] X.env=(false,eval e X.env)::starEach [e2] X.env:=by rfl) (hpl:(backTo pos2 (starEach [e2] X.env)).any (·.1)=false:=by rfl)
    (he:starEach [Expr.Call (.Name "zip" p2) [e,e2] [] pos2] X.env=(false,eval (.Call (.Name "zip" p2) [e,e2] [] pos2) X.env)::starEach [] X.env:=by rfl) (hpl2:(backTo pos (starEach [] X.env)).any (·.1)=false:=by rfl) :
    PE X (.Call (.Name "list" p) [.Call (.Name "zip" p2) [e,e2] [] pos2] [] pos) (tE X W (kE r)):=by
  refine ⟨fun pins s σ H Q I ⟨env,S,μ,rl,o⟩=>?_⟩
  refine wpAny_Call_Name_kw (ld_blt I hg hm boot_list ?_ (by decide) (by decide))
  refine PyProof.Rows.callWith_type1 ?_ he hpl2
  rw[he]
  show wpAny _ _ (spliced ((false,eval (.Call (.Name "zip" p2) [e,e2] [] pos2) X.env)::backTo pos (starEach [] X.env))) _ _ s
  refine Calls.spliced_cons ?_
  refine Call_ (ld_blt I hg2 hm2 PyProof.Rows.boot_zip (PyProof.Rows.callWith_type1 (thn (ha.run pos2 pins s σ H _ I ⟨env,S,μ,rl,Out.bind o⟩) fun us s1 ⟨vs,H1,I1,r1,μ1,S1,ds,st,rs,rd,o1⟩=>?_) hs hpl))
  obtain ⟨zs,ez⟩:∃zs,eJ (ds.map vt)=some zs:=by
    cases ez:eJ (ds.map vt) with
    | none=>rw[ez] at o1; exact o1.elim
    | some zs=>exact ⟨zs,rfl⟩
  rw[ez] at o1
  unfold eJ at ez
  split at ez
  · rename_i xs y ev
    cases ez
    obtain ⟨d,d',v,w,rfl,⟨e1,e2⟩,rfl,k1,k2⟩:=gu rd ev
    have k1:=k1.wv.vt
    have k2:=k2.wv.vt
    rw[e1] at k1
    rw[e2] at k2
    obtain ⟨a,va,rfl,h1,l1,n1⟩:=k1
    obtain rfl:w=V.str y:=k2
    cases r1 with
    | cons ra rr=>
      cases rr with
      | cons rb rr=>
        cases rr
        cases ra
        obtain ⟨t,rfl⟩:=rb
        obtain ⟨its,rv,p',hz⟩:=I1.tuple (.inl h1)
        obtain ⟨oa,hoa,_⟩:=id p'
        have hal:a<s1.heap.objs.size:=Heap.lt_size hoa
        refine zip_begins2 (begins_tuple a its.toArray) (begins_text y t) (show s1.heap.IsTuple a its.toArray from p') trivial fun h1' hz' hTI hTO g1 g2 hsz hk=>?_
        obtain ⟨n0,hn0⟩:∃n0,n0=s1.heap.objs.size:=⟨_,rfl⟩
        rw[←hn0] at hz' hTI hTO g1 g2 hsz hal ⊢
        refine Calls.spliced_nil ?_
        have hh:X.A.handled=none:=I1.ok.hd hc
        have ne:a≠n0:=Nat.ne_of_lt hal
        have hT1:h1'.IsTuple a its.toArray:=Heap.IsTuple.at (show s1.heap.IsTuple a its.toArray from p') fun o e=>hk a o e
        have vl:=rv.length
        have hbig:∀b,b=n0+4∨b=n0+2∨b=n0+3∨b=n0∨b=n0+1∨b∈[n0,a]∨b∈[n0+1]→b<h1'.objs.size:=fun b hb=>by
          rw[hsz]
          rcases hb with q|q|q|q|q|q|q
          · rw[q]; exact Nat.lt_succ_self _
          · rw[q]; exact Nat.add_lt_add_left (by decide) n0
          · rw[q]; exact Nat.add_lt_add_left (by decide) n0
          · rw[q]; exact Nat.lt_add_of_pos_right (by decide)
          · rw[q]; exact Nat.add_lt_add_left (by decide) n0
          · rcases List.mem_cons.mp q with q|q
            · rw[q]; exact Nat.lt_add_of_pos_right (by decide)
            · rw[List.mem_singleton.mp q]; exact Nat.lt_of_lt_of_le hal (Nat.le_add_right _ _)
          · rw[List.mem_singleton.mp q]; exact Nat.add_lt_add_left (by decide) n0
        refine km (s:={ s1 with heap:=h1' }) (n1:=its.toArray.size) (n2:=y.cps.size) (P1:=fun i v=>its.toArray[i]?=some v) (P2:=fun i v=>∃c u,y.cps[i]?=some c∧v=.str ⟨#[c]⟩ u) (St1:=fun i h=>h.IsTupleIter n0 a i∧h.IsTuple a its.toArray) (St2:=fun i h=>h.IsStrIter (n0+1) (strIterType y) y t i) hh (zsep n0 a hal) (fun A' hA=>Draws.tuple hA n0 a ne its.toArray) (fun A' hA=>Draws.text hA (n0+1) y t) ?_ hz' hTI hTO ⟨⟨_,g1,rfl,rfl⟩,hT1⟩ ⟨_,g2,rfl,rfl⟩ hbig fun h' tk acc' c' hm hL hg=>?_
        · have:its.toArray.size≤sizeLine:=by rw[List.size_toArray,←vl]; exact hz
          omega
        · have hsz':({ s1 with heap:=h1' }:Shared).heap.objs.size=n0+5:=hsz
          rw[hsz'] at hL hg ⊢
          obtain ⟨m,hmn⟩:∃m,m=min its.toArray.size y.cps.size:=⟨_,rfl⟩
          rw[←hmn] at hg
          have hml:m≤va.length:=by
            have:its.toArray.size=va.length:=by rw[List.size_toArray,vl]
            omega
          have hzl:(cU xs (bj y)).length=m:=by
            have h2:=l1.length
            have h3:its.toArray.size=va.length:=by rw[List.size_toArray,vl]
            rw[cj,fM,hmn,h3,h2]
          obtain ⟨qs,hqs⟩:∃qs,qs=va.zip (y.cps.toList.map fun c=>V.str ⟨#[c]⟩):=⟨_,rfl⟩
          have hql:qs.length=m:=by
            have h3:its.toArray.size=va.length:=by rw[List.size_toArray,vl]
            have h4:y.cps.toList.length=y.cps.size:=Array.length_toList
            rw[hqs,List.length_zip,List.length_map,hmn,h3,h4]
          have hqj:∀(j:Nat) (q:V × V),qs[j]?=some q→∃c,va[j]?=some q.1∧y.cps[j]?=some c∧q.2=V.str ⟨#[c]⟩:=fun j q hj=>by
            rw[hqs,List.getElem?_zip_eq_some] at hj
            obtain ⟨h3,h4⟩:=hj
            rw[List.getElem?_map,Array.getElem?_toList] at h4
            obtain ⟨c,h5,h6⟩:=Option.map_eq_some_iff.mp h4
            exact ⟨c,h3,h5,h6.symm⟩
          have keep0:∀b u,s1.heap.get? b=some u→h'.get? b=some u∧b≠n0+5∧b<n0+5+1:=fun b u e=>by
            have hb:b<n0:=by rw[hn0]; exact Heap.lt_size e
            have big:∀j,b≠n0+j:=fun j q=>Nat.lt_irrefl n0 (Nat.lt_of_le_of_lt (Nat.le_add_right n0 j) (by rw[←q]; exact hb))
            exact ⟨hm b u (big 4) (big 3) (big 0) (big 1) (hk b u e),big 5,Nat.lt_of_lt_of_le hb (Nat.le_add_right _ 6)⟩
          obtain ⟨G,f1,f2,f3,f4⟩:=lO (L:=n0+5) (h':=h') qs (n0+5+1) H1 s1 I1 keep0 (Nat.lt_succ_self _) fun j q hj=>by
            obtain ⟨c,h3,h4,h5⟩:=hqj j q hj
            have hjm:j<m:=by
              have:=(List.getElem?_eq_some_iff.mp hj).1
              omega
            obtain ⟨_,x1,x2,hT,p1,c2,u2,p2,rfl⟩:=hg.at_ j hjm
            obtain ⟨u,hu,ru⟩:=rv.get h3
            have e1:x1=u:=by
              have q:its.toArray[j]?=some x1:=p1
              rw[List.getElem?_toArray,hu] at q
              exact (Option.some.inj q).symm
            have e2:c2=c:=by rw[h4] at p2; exact (Option.some.inj p2).symm
            subst e1
            subst e2
            exact ⟨x1,.str ⟨#[c2]⟩ u2,ru,by rw[h5]; exact ⟨u2,rfl⟩,hT⟩
          obtain ⟨H2,hH2⟩:∃H2,H2=updP H1 (n0+5+1) qs:=⟨_,rfl⟩
          rw[←hH2] at f2 f3 f4
          have gL:G.get? (n0+5)=none:=by
            cases e:G.get? (n0+5) with
            | none=>rfl
            | some u=>exact absurd rfl (f1 _ u e).2
          have hL2:H2 (n0+5)=none:=f2.hok.gone gL
          obtain ⟨refs,hrefs⟩:∃refs,refs=(List.range m).map fun j=>V.ref (n0+5+1+j):=⟨_,rfl⟩
          have hrl:refs.length=m:=by rw[hrefs,List.length_map,List.length_range]
          have hrj:∀(j:Nat) (v:V),refs[j]?=some v→j<m∧v=V.ref (n0+5+1+j):=fun j v hj=>by
            rw[hrefs,List.getElem?_map] at hj
            have hjm:j<m:=by
              cases hr:(List.range m)[j]? with
              | none=>rw[hr] at hj; cases hj
              | some i=>have:=(List.getElem?_eq_some_iff.mp hr).1; simpa using this
            rw[List.getElem?_range hjm] at hj
            cases hj
            exact ⟨hjm,rfl⟩
          have hvals:Vals refs acc'.toList:=vals_of_idx _ _ (by rw[Array.length_toList,hg.size,hrl]) fun j u hj=>by
            have hjm:j<m:=by
              have:=(List.getElem?_eq_some_iff.mp hj).1
              rw[Array.length_toList,hg.size] at this
              exact this
            have hu:=(hg.at_ j hjm).1
            rw[Array.getElem?_toList,hu] at hj
            cases hj
            refine ⟨V.ref (n0+5+1+j),?_,rfl⟩
            rw[hrefs,List.getElem?_map,List.getElem?_range hjm]
            rfl
          have new:ObjOk X.prog X.w (upd H2 (n0+5) (.lst refs)) h' (n0+5) (.lst refs):=
            ⟨by rw[hrl]; have:va.length≤sizeLine:=hz; omega,acc'.toList,c',hvals,by rw[Array.toArray_toList]; exact hL⟩
          have I3:=f2.laidN (t':=tk) (fun b u e=>(f1 b u e).1) gL hL2 new
          have sm2:Sm H1 (upd H2 (n0+5) (.lst refs)):=f3.trans (.upd hL2)
          have rp:RepAll X.K X.mg μ1 H2 (cU xs (bj y)) refs:=kF _ _ (hzl.trans hrl.symm) fun j d v hd hv=>by
            obtain ⟨hjm,rfl⟩:=hrj j v hv
            obtain ⟨da,db,e3,e4,rfl⟩:=iF _ _ _ _ hd
            obtain ⟨c,e5,rfl⟩:=iq e4
            obtain ⟨u1,e6,k3⟩:=l1.get e3
            have hq:qs[j]?=some (u1,V.str ⟨#[c]⟩):=by
              rw[hqs,List.getElem?_zip_eq_some]
              refine ⟨e6,?_⟩
              rw[List.getElem?_map,Array.getElem?_toList,e5]
              rfl
            obtain ⟨q1,q2⟩:=f4 j _ hq
            unfold Rep
            exact ⟨_,[u1,V.str ⟨#[c]⟩],rfl,q1,rs.fresh q2,.cons (Rep.step (.of_sm f3) _ _ k3) (.cons (bV _) .nil)⟩
          refine ⟨.ref (n0+5),_,I3,rfl,o1 _ _ _ (.of_sm sm2) (rs.sm sm2) ?_⟩
          exact bu (rs.sm f3) hL2 rp
  · cases ez
@[simp] theorem vU (r:MA) (env:En) (S:Sto):kE r env S=(r env S).bind fun ds S=>ofO S (eJ (ds.map vt)):=rfl
@[simp] theorem iZipS_at (r:MA) (env:En) (S:Sto):sy r env S=(r env S).bind fun ds S=>ofO S ((lN (ds.map vt)).map .items):=rfl
end DL
namespace DL
open PySem PySem.Spec PyProof.Rows L2
def lP:List D→Option (List Str)
  | []=>some []
  | .str y::ds=>(lP ds).map (y::·)
  | _::_=>none
theorem nv {K:PySem.W.Frag} {mg:Str→Option Value} {μ:Mu} {H:Hp}:∀ {ds:List D} {vs:List V} {ys:List Str},RepAll K mg μ H ds vs→lP ds=some ys→vs=ys.map V.str
  | [],vs,ys,r,e=>by
    cases e
    unfold RepAll at r
    exact r
  | d::ds,vs,ys,r,e=>by
    unfold RepAll at r
    obtain ⟨v,us,rfl,r1,r2⟩:=r
    cases d with
    | str y=>
      unfold lP at e
      obtain ⟨zs,e1,rfl⟩:=Option.map_eq_some_iff.mp e
      have r1:v=V.str y:=by unfold Rep at r1; exact r1
      rw[nv r2 e1,r1]
      rfl
    | _=>cases e
def iP (a:Str) (xs:List D):Option D:=match lP xs with
  | some ys=>if (ys.map (·.length)).sum+ys.length*a.length≤16777216 then some (.str (Txt.join a ys)) else none
  | none=>none
def fi:BM:=fun S d ds=>match d,ds with
  | .str a,[x]=>match view0 S x with
    | .lst xs=>(iP a xs).map fun d=>(d,S)
    | _=>none
  | _,_=>none
section
variable {X:Cx}
theorem iu:MtR X "str.join" (rM X.K X.mg fi):=im mt_join fun x xs H Q ⟨μ,S,d,ds,r,S',rs,rd,rds,e,q⟩=>by
  unfold fi at e
  split at e
  · rename_i a y
    unfold Rep at rd
    subst rd
    obtain ⟨v,rfl,rv⟩:=bW rds
    have rw0:=rs.view0 rv
    split at e
    · rename_i zs ev
      rw[ev] at rw0
      obtain ⟨ad,vs,rfl,h1,h2⟩:=rw0
      obtain ⟨d1,e1,e2⟩:=Option.map_eq_some_iff.mp e
      cases e2
      unfold iP at e1
      split at e1
      · rename_i ys e3
        split at e1
        · rename_i hz
          cases e1
          have:=nv h2 e3
          subst this
          exact ⟨a,ad,ys,rfl,rfl,.inl (.of h1),hz,q μ H _ .refl rs (bV _)⟩
        · cases e1
      · cases e1
    · cases e
  · cases e
/-- what stands in a text's gap -/
def fmD:D→Option D
  | .str y=>if y.length≤16777216 then some (.str y) else none
  | .int i=>if i.natAbs<1000000000 then some (.str (toString i)) else none
  | _=>none
def eFm (m:ME):ME:=fun env S=>(m env S).bind fun d S=>ofO S (fmD d)
def jsM:List ME→Str→En→Sto→Res Str
  | [],acc=>fun _ S=>.ok acc S
  | m::ms,acc=>fun env S=>(m env S).bind fun d S=>match d with
    | .str y=>if (acc++y).length≤16777216 then jsM ms (acc++y) env S else .stuck
    | _=>.stuck
def eJs (ms:List ME):ME:=fun env S=>(jsM ms Str.empty env S).bind fun y S=>.ok (.str y) S
inductive PJM (X:Cx) (W:WX):List Expr→List ME→Prop where
  | nil:PJM X W [] []
  | cons {e:Expr} {m:ME} {es:List Expr} {ms:List ME} (h:PE X e (tE X W m)) (r:PJM X W es ms):PJM X W (e::es) (m::ms)
theorem sE_fm {W:WX} {e:Expr} {m:ME} {pos:Pos} (he:PE X e (tE X W m)):PE X (.FormattedValue e (-1) none pos) (tE X W (eFm m)):=
  cB (pe_fmt he) fun σ H Q ⟨env,S,μ,rl,o⟩=>⟨env,S,μ,rl,(Out.bind o).mono fun x H1 ⟨μ1,S1,d,st,rs,rd,o1⟩=>by
    cases d with
    | str y=>
      have rd:x=V.str y:=by unfold Rep at rd; exact rd
      rw[show fmD (.str y)=if y.length≤16777216 then some (.str y) else none from rfl] at o1
      by_cases hz:y.length≤16777216
      · rw[if_pos hz] at o1
        exact .inl ⟨y,rd,by rw[sizeLine_eq]; omega,o1 _ _ _ .refl rs (bV _)⟩
      · rw[if_neg hz] at o1
        exact o1.elim
    | int i=>
      have rd:x=V.int i:=by unfold Rep at rd; exact rd
      rw[show fmD (.int i)=if i.natAbs<1000000000 then some (.str (toString i)) else none from rfl] at o1
      by_cases hz:i.natAbs<1000000000
      · rw[if_pos hz] at o1
        refine .inr ⟨i,rd,?_,o1 _ _ _ .refl rs (bV _)⟩
        by_cases h0:i.natAbs=0
        · rw[h0]; decide
        · refine Nat.lt_trans ((Nat.log2_lt h0).mpr ?_) (show 30<1920 by decide)
          exact Nat.lt_trans hz (by decide)
      · rw[if_neg hz] at o1
        exact o1.elim
    | _=>exact o1.elim⟩
theorem js_run {W:WX} {es:List Expr} {ms:List ME} (h:PJM X W es ms):∃ts,PJ X es ts∧∀(acc:Str) (σ:L2.St) (H:Hp) (Q:Str→Hp→Prop) (env:En) (S:Sto) (μ:Mu),Rl X.K X.mg μ H env σ S→Out X.K X.mg W σ μ H (fun _ _ (a b:Str)=>a=b) Q (jsM ms acc env S)→tJs ts acc σ H Q:=by
  induction h with
  | nil=>exact ⟨[],.nil,fun acc σ H Q env S μ rl o=>o _ _ _ .refl rl.sto rfl⟩
  | @cons e m es ms he r ih=>
    obtain ⟨ts,h1,h2⟩:=ih
    refine ⟨tE X W m::ts,.cons he h1,fun acc σ H Q env S μ rl o=>⟨env,S,μ,rl,(Out.bind o).mono fun x H1 ⟨μ1,S1,d,st,rs,rd,o1⟩=>?_⟩⟩
    cases d with
    | str y=>
      have rd:x=V.str y:=by unfold Rep at rd; exact rd
      have o1:Out X.K X.mg W σ μ1 H1 (fun _ _ (a b:Str)=>a=b) Q (if (acc++y).length≤16777216 then jsM ms (acc++y) env S1 else .stuck):=o1
      by_cases hz:(acc++y).length≤16777216
      · rw[if_pos hz] at o1
        exact ⟨y,rd,by rw[sizeLine_eq]; omega,h2 _ _ _ _ env S1 μ1 ⟨rl.env.step st,rs⟩ o1⟩
      · rw[if_neg hz] at o1
        exact o1.elim
    | _=>exact o1.elim
theorem sE_js {W:WX} {v1 v2:Expr} {rest:List Expr} {ms:List ME} {pos:Pos} (h:PJM X W (v1::v2::rest) ms):PE X (.JoinedStr (v1::v2::rest) pos) (tE X W (eJs ms)):=by
  obtain ⟨ts,h1,h2⟩:=js_run h
  refine cB (pe_joined h1) fun σ H Q ⟨env,S,μ,rl,o⟩=>h2 _ σ H _ env S μ rl ((Out.bind o).mono fun y H1 ⟨μ1,S1,z,st,rs,rd,o1⟩=>?_)
  have rd:z=y:=rd
  subst rd
  exact o1 _ _ _ .refl rs (bV _)
end
@[simp] theorem eFm_at (m:ME) (env:En) (S:Sto):eFm m env S=(m env S).bind fun d S=>ofO S (fmD d):=rfl
@[simp] theorem eJs_at (ms:List ME) (env:En) (S:Sto):eJs ms env S=(jsM ms Str.empty env S).bind fun y S=>.ok (.str y) S:=rfl
@[simp] theorem jsM_nil (acc:Str) (env:En) (S:Sto):jsM [] acc env S=.ok acc S:=rfl
@[simp] theorem jsM_cons (m:ME) (ms:List ME) (acc:Str) (env:En) (S:Sto):jsM (m::ms) acc env S=(m env S).bind fun d S=>match d with
    | .str y=>if (acc++y).length≤16777216 then jsM ms (acc++y) env S else .stuck
    | _=>.stuck:=rfl
end DL
namespace DL
open PySem PySem.Spec PyProof.Rows L2
structure KdS (K:PySem.W.Frag) (w:World) (a:Addr) (tbl:List (Str × Str)):Prop where
  at_:∃es n,KDict K w a es n
  ns:∀x,∃r,PySem.W.nsIn K a x=some r∧(∀y,tbl.lookup x=some y→∃t,r=some (.str y t))∧(tbl.lookup x=none→r=none)
theorem s0 {x:Str}:∀ {es:List DictEntry} {tbl:List (Str × Str)},es.map kvS=tbl.map some→
    (es.any fun e=>e.refKey)=false∧(∀y,tbl.lookup x=some y→∃t,(es.find? fun e=>e.key.isStr x).map (·.val)=some (.str y t))∧(tbl.lookup x=none→(es.find? fun e=>e.key.isStr x).map (·.val)=none)
  | [],[],_=>by simp
  | [],_::_,h=>by simp at h
  | _::_,[],h=>by simp at h
  | e::es,(k,i)::tbl,h=>by
    rw[List.map_cons,List.map_cons,List.cons.injEq] at h
    obtain ⟨h1,h2⟩:=h
    obtain ⟨a,b,c⟩:=s0 (x:=x) h2
    obtain ⟨hash,key,val⟩:=e
    unfold kvS at h1
    split at h1
    · rename_i y t i' t' e1 e2
      dsimp only at e1 e2
      subst e1 e2
      simp only[Option.some.injEq,Prod.mk.injEq] at h1
      obtain ⟨rfl,rfl⟩:=h1
      refine ⟨by rw[List.any_cons,a]; rfl,fun j hj=>?_,fun hj=>?_⟩
      · rw[List.find?_cons]
        show ∃t_1,Option.map (·.val) (match y == x with|true=>some ⟨hash,.str y t,.str i' t'⟩|false=>es.find? fun e=>e.key.isStr x)=some (.str j t_1)
        rw[List.lookup_cons] at hj
        by_cases hxy:y=x
        · subst hxy
          simp at hj ⊢
          exact hj
        · have h1:(y == x)=false:=by simpa using hxy
          have h2:(x == y)=false:=by simpa using Ne.symm hxy
          rw[h2] at hj
          rw[h1]
          exact b j hj
      · rw[List.find?_cons]
        show Option.map (·.val) (match y == x with|true=>some ⟨hash,.str y t,.str i' t'⟩|false=>es.find? fun e=>e.key.isStr x)=none
        rw[List.lookup_cons] at hj
        by_cases hxy:y=x
        · subst hxy
          simp at hj
        · have h1:(y == x)=false:=by simpa using hxy
          have h2:(x == y)=false:=by simpa using Ne.symm hxy
          rw[h2] at hj
          rw[h1]
          exact c hj
    · cases h1
theorem kdS_of {K:PySem.W.Frag} {w:World} {a:Addr} {tbl:List (Str × Str)} (h:∃es n,KDict K w a es n) (hb:kdSB K a tbl=true):KdS K w a tbl:=by
  refine ⟨h,fun x=>?_⟩
  obtain ⟨es,n,D⟩:=h
  unfold kdSB at hb
  rw[D.at_] at hb
  have hb:=of_decide_eq_true hb
  obtain ⟨h1,h2,h3⟩:=s0 (x:=x) hb
  refine ⟨(es.toList.find? fun e=>e.key.isStr x).map (·.val),?_,h2,h3⟩
  unfold PySem.W.nsIn
  rw[D.at_]
  dsimp only
  cases es.toList.find? fun e=>e.key.isStr x with
  | some e=>rfl
  | none=>simp only[h1]; rfl
def fZ (tbl:List (Str × Str)) (x:Str) (d:D):D:=match tbl.lookup x with
  | some y=>.str y
  | none=>d
def pD (tbl:List (Str × Str)) (m md:ME):ME:=fun env S=>(m env S).bind fun d S=>(md env S).bind fun d2 S=>match d with
  | .str x=>.ok (fZ tbl x d2) S
  | _=>.stuck
section
variable {X:Cx} {W:WX} {e f:Expr} {m md:ME} {p apos cpos:Pos} {nm:Str} {a:Addr} {tbl:List (Str × Str)}
theorem s4 (F:KdS X.K X.w a tbl) (hm:X.mg nm=some (.ref a)) (hg:Gl X nm) (he:PE X e (tE X W m)) (hf:PE X f (tE X W md)) (hd:(nm == ("__debug__":Str))=false:=by decide) (mm:M2 X (.Name nm p) "get" apos e f cpos:=by exact ⟨rfl,rfl,rfl,rfl⟩) :
    PE X (.Call (.Attribute (.Name nm p) "get" apos) [e,f] [] cpos) (tE X W (pD tbl m md)):=by
  obtain ⟨es,n,D⟩:=F.at_
  refine ⟨fun pins s σ H Q I ⟨env,S,μ,rl,o⟩=>?_⟩
  refine wpAny_Call_method mm.base mm.few mm.line PySem.F.plainAttrs_dict PySem.F.slot_dict_get PySem.F.type_dict_get (thn ((pe_glob (v:=.ref a) hg hm rfl hd).run pins s σ H (fun x H1=>x=V.ref a∧H1=H) I ⟨rfl,rfl⟩) fun u s1 ⟨x,H1,I1,rx,ex,eH⟩=>?_)
  subst ex eH
  obtain rfl:u=Value.ref a:=rx
  have hm1:=PySem.W.mapOf_K (prog:=X.prog) (w:=X.w) I1.kIn D.at_ D.lit
  refine ⟨hm1.typeIs,hm1.noDict,?_⟩
  rw[mm.trees]
  refine Calls.callWith_builtin rfl (Calls.evalArgs_plain (Calls.spliced_cons (thn (he.run pins s1 σ _ _ I1 ⟨env,S,μ,rl,Out.bind o⟩) fun iv s2 ⟨y,H2,I2,ry,μ1,S1,d,st,rs,rd,o1⟩=>Calls.spliced_cons (thn (hf.run pins s2 σ H2 _ I2 ⟨env,S1,μ1,⟨rl.env.step st,rs⟩,Out.bind o1⟩) fun fv s3 ⟨z,H3,I3,rz,μ2,S2,d2,st2,rs2,rd2,o2⟩=>Calls.spliced_nil ?_))))
  cases d with
  | str x=>
    have o2:Out X.K X.mg W σ μ2 H3 (fun μ H a b=>Rep X.K X.mg μ H a b) Q (.ok (fZ tbl x d2) S2):=o2
    have ey:y=V.str x:=by unfold Rep at rd; exact rd
    subst ey
    obtain ⟨t,rfl⟩:=ry
    obtain ⟨r0,h1,h2,h3⟩:=F.ns x
    have hm3:=PySem.W.mapOf_K (prog:=X.prog) (w:=X.w) I3.kIn D.at_ D.lit
    refine call_meetsIn PySem.F.slot_dict_get hm3.typeIs PySem.F.entry_dict_get (PySem.F.args_dict_get_3 _ _ _) (meets_dict_get_default (strKind X.prog X.w) a (strKind_is X.prog X.w x t) D.low fv) ⟨_,hm3,?_⟩
    rw[PySem.W.find_K D.at_ h1]
    cases hl:tbl.lookup x with
    | some v=>
      obtain ⟨t2,rfl⟩:=h2 v hl
      have ed:fZ tbl x d2=.str v:=by unfold fZ; rw[hl]
      rw[ed] at o2
      exact ⟨V.str v,H3,I3.tok _,⟨t2,rfl⟩,o2 _ _ _ .refl rs2 (bV _)⟩
    | none=>
      rw[h3 hl]
      have ed:fZ tbl x d2=d2:=by unfold fZ; rw[hl]
      rw[ed] at o2
      exact ⟨z,H3,I3.tok _,rz,o2 _ _ _ .refl rs2 rd2⟩
  | _=>exact o2.elim
end
@[simp] theorem eKdGet_at (tbl:List (Str × Str)) (m md:ME) (env:En) (S:Sto):pD tbl m md env S=(m env S).bind fun d S=>(md env S).bind fun d2 S=>match d with
  | .str x=>.ok (fZ tbl x d2) S
  | _=>.stuck:=rfl
end DL
namespace DL
open PySem PySem.Spec PyProof.Rows L2
def qJ (_:Sto) (ds:List D):Option D:=match ds with
  | [.str a]=>if a.length≤640 then (PySem.intText? a).map .int else none
  | _=>none
theorem c_intS {X:Cx}:CallR X (.type "int") (rB X.K X.mg qJ):=f9 call_int_str fun xs H Q ⟨μ,S,ds,d,rs,ra,e,q⟩=>by
  unfold qJ at e
  split at e
  · split at e
    · rename_i a hl
      obtain ⟨n,e1,e2⟩:=Option.map_eq_some_iff.mp e
      cases e2
      obtain ⟨v,rfl,r1⟩:=bW ra
      unfold Rep at r1; subst r1
      exact ⟨a,n,rfl,e1,hl,q H _ .rfl (bA _)⟩
    · cases e
  · cases e
@[simp] theorem fIntS_str (S:Sto) (a:Str):qJ S [.str a]=if a.length≤640 then (PySem.intText? a).map .int else none:=rfl
end DL
namespace DL
open PySem PySem.Spec PyProof.Rows L2
theorem kq {prog:Program} {w:World} {A:Around} (hh:A.handled=none) {it t:Addr} {items:Array Value} (hne:t≠it) (i0:Nat) (hle:i0≤items.size) :
    WalksS prog w A it [it,t] [it] Eq (items.size - i0) (fun i v=>items[i0+i]?=some v) (fun i s=>s.heap.IsListIter it t (i0+i)∧s.heap.IsList t items) where
  sub:=fun b hb=>by
    have:b=it:=by simpa using hb
    subst this; simp
  grefl:=fun _=>rfl
  gtrans:=fun _ _ _ a b=>a.trans b
  frame:=fun i s h' tk st ht hk=>by
    obtain ⟨⟨o,e1,e2⟩,o',e3,e4⟩:=st
    exact ⟨⟨o,hk it (by simp) o e1,e2⟩,o',hk t (by simp) o' e3,e4⟩
  item:=fun i s Q E hi st hQ=>by
    have hl:i0+i<items.size:=by omega
    refine wpAny_pyNext_list_item st.1 st.2 (Array.getElem?_eq_getElem hl) fun h' hit sb=>?_
    refine hQ _ _ (Array.getElem?_eq_getElem hl) ⟨by rw[show i0+(i+1)=i0+i+1 by omega]; exact hit,?_⟩ ⟨fun b o hb e=>(sb.2 b (by simpa using hb)).trans e,rfl,rfl,rfl,Nat.le_refl _⟩
    obtain ⟨o',e3,e4⟩:=st.2
    exact ⟨o',(sb.2 t hne).trans e3,e4⟩
  done:=fun s Q E st hQ=>by
    refine wpAny_pyNext_list_end hh st.1 st.2 ?_ fun h' eb=>hQ _ ⟨fun b o hb e=>eb b o (by simpa using hb) e,rfl,rfl,rfl,Nat.le_refl _⟩
    rw[show i0+(items.size - i0)=items.size by omega]
    simp
  self:=fun i s Q E st q=>wpAny_pyIter_listiter st.1 q
theorem lQ {prog:Program} {w:World} {A:Around} {E:Value→Shared→Prop} {it t:Addr} {items:Array Value} (hne:t≠it):∀(n i:Nat) (s:Shared) (Q:List Value→Shared→Prop),s.heap.IsListIter it t i→s.heap.IsList t items→i+n≤items.size→
    (∀h',h'.IsListIter it t (i+n)→Heap.SameBut it s.heap h'→Q ((items.toList.drop i).take n) { s with heap:=h' })→wpAny (model prog w) A (draw (.ref it) n) Q E s
  | 0,i,s,Q,hit,_,_,hQ=>by
    show wpAny _ _ (pure []) Q E s
    exact wpAny_pure (by simpa using hQ s.heap hit (Heap.SameBut.refl ..))
  | n+1,i,s,Q,hit,ht,hle,hQ=>by
    have hlt:i<items.size:=by omega
    show wpAny _ _ (pyNext (.ref it) >>= _) Q E s
    refine wpAny_bind (wpAny_pyNext_list_item hit ht (x:=items[i]) (by simp[hlt]) fun h₁ hit₁ hs₁=>?_)
    refine wpAny_bind (wpAny_holding (lQ hne n (i+1) _ _ hit₁ (ht.extBut hs₁.extBut hne) (by omega) fun h₂ hit₂ hs₂=>wpAny_pure ?_))
    have hd:items.toList.drop i=items[i]::items.toList.drop (i+1):=by simp[List.drop_eq_getElem_cons,hlt]
    have:=hQ h₂ (by rw[show i+(n+1)=i+1+n by omega]; exact hit₂) (hs₁.trans hs₂)
    rw[hd,List.take_succ_cons] at this
    exact this
theorem ku {prog:Program} {w:World} {A:Around} {E:Value→Shared→Prop} {s:Shared} {t:Addr} {items:Array Value} {x0:Value} {Q:List Value→Shared→Prop}
    (hh:A.handled=none) (ht:s.heap.IsList t items) (h0:items[0]?=some x0) (hz:items.size≤sizeLine)
    (hQ:∀(s':Shared),(∀b o,s.heap.get? b=some o→s'.heap.get? b=some o)→s'.gens=s.gens→s'.drawn=s.drawn→s'.os=s.os→Q [x0,.ref s'.heap.objs.size] { s' with heap:=s'.heap.push { cls:=.type "list",data:=.seq (items.toList.drop 1).toArray } }) :
    wpAny (model prog w) A (unpackItems (.ref t) 2 (some 1)) Q E s:=by
  have hlt:t≠s.heap.objs.size:=by
    obtain ⟨o,ho,_⟩:=ht
    exact Nat.ne_of_lt (Heap.lt_size ho)
  have h1:1≤items.size:=by
    have:=(Array.getElem?_eq_some_iff.mp h0).1
    omega
  unfold unpackItems
  refine wpAny_bind ?_
  unfold notIterableAtAll
  refine wpAny_bind (wpAny_specialOf (Heap.IsList.typeIs ht) F.slot_list_iter.lookup (wpAny_pure ?_))
  rw[if_neg Bool.false_ne_true]
  refine wpAny_bind (wpAny_holding (wpAny_pyIter_list ht ?_))
  dsimp only
  obtain ⟨s1,hs1⟩:∃s1:Shared,s1={ s with heap:=s.heap.push { cls:=Value.type "list_iterator",data:=Data.fields #[Value.ref t,Value.int 0 0] } }:=⟨_,rfl⟩
  rw[←hs1]
  have it1:s1.heap.IsListIter s.heap.objs.size t 0:=by rw[hs1]; exact ⟨_,Heap.get?_push_size _ rfl,rfl,rfl⟩
  have ht1:s1.heap.IsList t items:=by rw[hs1]; exact Heap.IsList.push ht _
  refine wpAny_bind (wpAny_holding (lQ hlt 1 0 s1 _ it1 ht1 (by omega) fun h₁ hit₁ hs₁=>?_))
  have hall:List.take 1 (List.drop 0 items.toList)=[x0]:=by
    rw[List.drop_zero]
    cases hi:items.toList with
    | nil=>
      have:items.size=0:=by rw[←Array.length_toList,hi]; rfl
      omega
    | cons a r=>
      have:items.toList[0]?=some x0:=by simpa using h0
      rw[hi] at this
      simp at this
      simp[this]
  rw[hall]
  rw[if_neg (by simp)]
  have ht2:h₁.IsList t items:=by
    obtain ⟨o,ho,q⟩:=ht1
    exact ⟨o,(hs₁.2 t hlt).trans ho,q⟩
  have W:=kq (prog:=prog) (w:=w) (A:=A.in1) (by simpa using hh) (items:=items) hlt 1 h1
  refine wpAny_bind (wpAny_holding (wpAny_collect_iter (s:={ s1 with heap:=h₁ }) (T:="list_iterator") (by simp) W (fun i s st=>st.1.typeIs) ⟨hit₁,ht2⟩ (fun b hb=>?_) (by simp) (fun s' acc hm ha=>?_) (by omega)))
  · rcases List.mem_cons.mp hb with rfl|hb
    · obtain ⟨o,e,_⟩:=hit₁
      exact Heap.lt_size e
    · have:b=t:=by simpa using hb
      subst this
      obtain ⟨o,e,_⟩:=ht2
      exact Heap.lt_size e
  · have hacc:acc.toList=items.toList.drop 1:=by
      obtain ⟨a1,a2⟩:=ha
      apply List.ext_getElem?
      intro j
      rw[List.getElem?_drop]
      have e1:acc.toList[j]?=acc[j]?:=by simp
      have e2:items.toList[1+j]?=items[1+j]?:=by simp
      rw[e1,e2]
      cases hj:acc[j]? with
      | some v=>exact (a2 j v hj).symm
      | none=>
        have:=Array.getElem?_eq_none_iff.mp hj
        exact (Array.getElem?_eq_none_iff.mpr (by omega)).symm
    rw[hacc]
    rw[if_neg (by omega)]
    have hl:(items.toList.drop 1).length=items.size - 1:=by simp
    refine wpAny_bind (wpAny_newList ?_ ?_)
    · rw[show (items.toList.drop 1).take ((items.toList.drop 1).length - (2 - 1 - 1))=items.toList.drop 1 from List.take_of_length_le (by omega),show (items.toList.drop 1).drop ((items.toList.drop 1).length - (2 - 1 - 1))=[] from List.drop_of_length_le (by omega)]
      refine wpAny_pure (hQ s' (fun b o e=>?_) ?_ ?_ ?_)
      · have hb:b≠s.heap.objs.size:=Nat.ne_of_lt (Heap.lt_size e)
        refine hm.heap b o (by simpa using hb) ((hs₁.2 b hb).trans ?_)
        rw[hs1]
        exact Heap.get?_push_of_some _ e
      · rw[←hm.gens]; rw[hs1]
      · rw[hm.drawn]; rw[hs1]
      · rw[hm.os]; rw[hs1]
    · rw[List.length_take]
      omega
def uc (K:PySem.W.Frag) (t:TGs):TG:=fun v σ H Q=>∃a x xs,v=V.ref a∧SqL K H a (x::xs)∧∀p,H p=none→t [x,.ref p] σ (upd H p (.lst xs)) Q
section
variable {X:Cx} {a b:Expr} {sp pos:Pos} {k:Nat}
theorem qj {t:TGs} (hc:X.calm=true) (h:PGs X [a,b] t)
    (hn:assignEach [a,.Starred b sp] X.env=[(false,assign a X.env),(true,assign b X.env)]:=by rfl) (hn2:(assignEach [a,b] X.env).map (·.2)=[assign a X.env,assign b X.env]:=by rfl) :
    PG X (.Tuple [a,.Starred b sp] k pos) (uc X.K t):=⟨fun pins s σ H v u Q I r ⟨ad,x,xs,e1,hq,hw⟩=>by
  subst e1
  obtain rfl:u=Value.ref ad:=r
  obtain ⟨its,rv,ht,hz⟩:=I.list hq
  show wpAny _ _ (standAt pos >>= fun _=>unpack (.ref ad) (assignEach [a,.Starred b sp] X.env)) _ _ _
  refine wpAny_bind (wpAny_standAt ?_)
  rw[hn]
  unfold unpack
  refine wpAny_bind (wpAny_holding ?_)
  cases rv with
  | cons rx rxs=>
    rename_i x0 xr
    refine ku (x0:=x0) (items:=(x0::xr).toArray) (I.ok.hd hc) ht.isList (by simp) (by have:=Vals.length rxs; simp at hz ⊢; omega) fun s' hk hg hd ho=>?_
    have e1:s'={ s with heap:=s'.heap,toks:=s'.toks }:=by
      cases s'; cases s
      simp only at hg hd ho
      subst hg hd ho
      rfl
    have I1:Inv X pins σ H { s with heap:=s'.heap,toks:=s'.toks }:=I.kept hk
    rw[←e1] at I1
    have hp:H s'.heap.objs.size=none:=I1.hok.fresh (Nat.le_refl _)
    have I2:=I1.laid (t':=s'.toks) (a:=s'.heap.objs.size) (h':=s'.heap.push { cls:=.type "list",data:=.seq (((x0::xr).toArray.toList.drop 1).toArray) }) (o:=.lst xs) (fun b o e=>Heap.get?_push_of_some _ e) (Nat.le_refl _) ⟨by simp at hz; omega,xr,0,rxs,Heap.get?_push_size _ rfl⟩
    have:=h.run pins _ σ _ [x,.ref s'.heap.objs.size] [x0,.ref s'.heap.objs.size] Q I2 (.cons rx (.cons rfl .nil)) (hw _ hp)
    rw[hn2] at this
    exact this⟩
/-- a,*b=t -/
def ji (gs:MGs):MG:=fun d env S=>match vt d with
  | .lst (x::xs)=>gs [x,.lst xs] env S
  | _=>none
theorem qk {gs:MGs} (hc:X.calm=true) (h:PGs X [a,b] (tGs X gs))
    (hn:assignEach [a,.Starred b sp] X.env=[(false,assign a X.env),(true,assign b X.env)]:=by rfl) (hn2:(assignEach [a,b] X.env).map (·.2)=[assign a X.env,assign b X.env]:=by rfl) :
    PG X (.Tuple [a,.Starred b sp] k pos) (tG X (ji gs)):=
  k8 (qj hc h hn hn2) fun v σ H Q ⟨env,S,μ,d,rl,r,o⟩=>by
    unfold ji at o
    split at o
    · rename_i x xs ev
      rw[jG ev nofun] at r
      unfold Rep at r
      obtain ⟨a,vs,rfl,h1,_,h2⟩:=r
      unfold RepAll at h2
      obtain ⟨y,ys,rfl,r1,r2⟩:=h2
      refine ⟨a,y,ys,rfl,.of h1,fun p hp=>?_⟩
      have sm:Sm H (upd H p (.lst ys)):=.upd hp
      have st:Step μ H μ (upd H p (.lst ys)):=.of_sm sm
      exact ⟨env,S,μ,[x,.lst xs],rl.sm sm,.cons (Rep.step st _ _ r1) (.cons (bu rl.sto hp r2) .nil),OutO.of_step st o⟩
    · exact o.elim
end
@[simp] theorem vV (gs:MGs) (x:D) (xs:List D) (env:En) (S:Sto):ji gs (.lst (x::xs)) env S=gs [x,.lst xs] env S:=rfl
end DL
namespace DL
open PySem PySem.Spec PyProof.Rows L2 LamX
noncomputable section
/-- what the head tells of the names -/
abbrev s5:Nat:=13
structure Fx (K:PySem.W.Frag) (mg:Str→Option Value):Prop where
  d_AirError:mg "AirError"=some (.ref (He.ga K "AirError"))
  d_BadChain:mg "BadChain"=some (.ref (He.ga K "BadChain"))
  d_BadClasses:mg "BadClasses"=some (.ref (He.ga K "BadClasses"))
  d_BadCount:mg "BadCount"=some (.ref (He.ga K "BadCount"))
  d_BadDay:mg "BadDay"=some (.ref (He.ga K "BadDay"))
  d_BadDeed:mg "BadDeed"=some (.ref (He.ga K "BadDeed"))
  d_BadFleet:mg "BadFleet"=some (.ref (He.ga K "BadFleet"))
  d_BadName:mg "BadName"=some (.ref (He.ga K "BadName"))
  d_BadNet:mg "BadNet"=some (.ref (He.ga K "BadNet"))
  d_BadPlace:mg "BadPlace"=some (.ref (He.ga K "BadPlace"))
  d_BadText:mg "BadText"=some (.ref (He.ga K "BadText"))
  d_BadTime:mg "BadTime"=some (.ref (He.ga K "BadTime"))
  d_CannotFly:mg "CannotFly"=some (.ref (He.ga K "CannotFly"))
  d_DEEDS:mg "DEEDS"=some (.ref (He.ga K "DEEDS"))
  d_Left:mg "Left"=some (.ref (He.ga K "Left"))
  d_NoBooking:mg "NoBooking"=some (.ref (He.ga K "NoBooking"))
  d_NoClass:mg "NoClass"=some (.ref (He.ga K "NoClass"))
  d_NoDuty:mg "NoDuty"=some (.ref (He.ga K "NoDuty"))
  d_NoKind:mg "NoKind"=some (.ref (He.ga K "NoKind"))
  d_NoLeg:mg "NoLeg"=some (.ref (He.ga K "NoLeg"))
  d_NoPlane:mg "NoPlane"=some (.ref (He.ga K "NoPlane"))
  d_NoSeat:mg "NoSeat"=some (.ref (He.ga K "NoSeat"))
  d_NoWay:mg "NoWay"=some (.ref (He.ga K "NoWay"))
  d_SHAPES:mg "SHAPES"=some (.ref (He.ga K "SHAPES"))
  d_Taken:mg "Taken"=some (.ref (He.ga K "Taken"))
  d_Unmended:mg "Unmended"=some (.ref (He.ga K "Unmended"))
  d__law_bad:mg "_law_bad"=some (.ref (He.ga K "_law_bad"))
  d__law_deeds:mg "_law_deeds"=some (.ref (He.ga K "_law_deeds"))
  d__law_drawn:mg "_law_drawn"=some (.ref (He.ga K "_law_drawn"))
  d__law_fits:mg "_law_fits"=some (.ref (He.ga K "_law_fits"))
  d__law_is:mg "_law_is"=some (.ref (He.ga K "_law_is"))
  d__law_is_ride:mg "_law_is_ride"=some (.ref (He.ga K "_law_is_ride"))
  d__law_kind:mg "_law_kind"=some (.ref (He.ga K "_law_kind"))
  d__law_other:mg "_law_other"=some (.ref (He.ga K "_law_other"))
  d__law_same:mg "_law_same"=some (.ref (He.ga K "_law_same"))
  d__law_start:mg "_law_start"=some (.ref (He.ga K "_law_start"))
  d__law_text:mg "_law_text"=some (.ref (He.ga K "_law_text"))
  d_deed_of:mg "deed_of"=some (.ref (He.ga K "deed_of"))
  d_is_number:mg "is_number"=some (.ref (He.ga K "is_number"))
  d_is_part:mg "is_part"=some (.ref (He.ga K "is_part"))
  d_is_ride:mg "is_ride"=some (.ref (He.ga K "is_ride"))
  d_need_deeds:mg "need_deeds"=some (.ref (He.ga K "need_deeds"))
  d_number_of:mg "number_of"=some (.ref (He.ga K "number_of"))
  d_part_of:mg "part_of"=some (.ref (He.ga K "part_of"))
  d_part_word:mg "part_word"=some (.ref (He.ga K "part_word"))
  d_read:mg "read"=some (.ref (He.ga K "read"))
  d_shape_of:mg "shape_of"=some (.ref (He.ga K "shape_of"))
  d_written:mg "written"=some (.ref (He.ga K "written"))
  e_BadDeed:ExcI K (He.ga K "BadDeed") (He.ma K (He.ga K "BadDeed") "__init__") (He.ga K "AirError") ["number"]
  e_BadText:ExcI K (He.ga K "BadText") (He.ma K (He.ga K "BadText") "__init__") (He.ga K "AirError") ["row"]
  i_MOST_DAY:∃t,mg "MOST_DAY"=some (.int 60 t)
  i_MOST_FIGURES:∃t,mg "MOST_FIGURES"=some (.int 6 t)
  i_MOST_NUMBER:∃t,mg "MOST_NUMBER"=some (.int 9999 t)
  n_ValueError:mg "ValueError"=none
  n_all:mg "all"=none
  n_bool:mg "bool"=none
  n_enumerate:mg "enumerate"=none
  n_int:mg "int"=none
  n_isinstance:mg "isinstance"=none
  n_len:mg "len"=none
  n_list:mg "list"=none
  n_range:mg "range"=none
  n_str:mg "str"=none
  n_tuple:mg "tuple"=none
  n_zip:mg "zip"=none
  s_FIGURES:∃t,mg "FIGURES"=some (.str "0123456789" t)
  s_LETTERS:∃t,mg "LETTERS"=some (.str "abcdefghijklmnopqrstuvwxyz" t)
  s_MEND:∃t,mg "MEND"=some (.str "n" t)
structure Gx (P:Program) (w:World) (K:PySem.W.Frag) (mg:Str→Option Value) (base:Heap):Prop where
  fx:Fx K mg
  t_DEEDS:KdF K w (He.ga K "DEEDS") [("fly",2),("sell",3),("back",1),("away",1),("late",2),("off",1),("kind",2),("turn",1),("mend",1)]
  s_SHAPES:KdS K w (He.ga K "SHAPES") [("fly","rw"),("sell","wvw"),("back","n"),("away","n"),("late","rn"),("off","r"),("kind","ww"),("turn","n")]
  kx:oo K mg kindsHere
  tb:∀p∈lamDefs,TabB base mg (He.cT K p.1).1 (He.cT K p.1).2
  tm:∀p∈lamDefs,((He.cT K p.1).2,p.2)∈tbs K
  tu:∀p∈lamDefs,∀r∈tbs K,r.1=(He.cT K p.1).2→r.2=p.2
  f_part_word:∃fd,FunD K "part_word" "part_word" (defArgs (top 41)) (defBody (top 41)) (defScope (top 41)) [] [] (He.ga K "part_word") fd
  f_is_number:∃fd,FunD K "is_number" "is_number" (defArgs (top 29)) (defBody (top 29)) (defScope (top 29)) [] [] (He.ga K "is_number") fd
  f_is_ride:∃fd,FunD K "is_ride" "is_ride" (defArgs (top 39)) (defBody (top 39)) (defScope (top 39)) [] [] (He.ga K "is_ride") fd
  f_is_part:∃fd,FunD K "is_part" "is_part" (defArgs (top 40)) (defBody (top 40)) (defScope (top 40)) [] [] (He.ga K "is_part") fd
  f_BadDeed_init__:∃fd,FunD K "__init__" "BadDeed.__init__" (defArgs (inClass (top 23) 0)) (defBody (inClass (top 23) 0)) (defScope (inClass (top 23) 0)) [] [] (He.ma K (He.ga K "BadDeed") "__init__") fd
  f_shape_of:∃fd,FunD K "shape_of" "shape_of" (defArgs (top 38)) (defBody (top 38)) (defScope (top 38)) [] [] (He.ga K "shape_of") fd
  f_need_deeds:∃fd,FunD K "need_deeds" "need_deeds" (defArgs (top 32)) (defBody (top 32)) (defScope (top 32)) [] [] (He.ga K "need_deeds") fd
  f_written:∃fd,FunD K "written" "written" (defArgs (top 42)) (defBody (top 42)) (defScope (top 42)) [] [] (He.ga K "written") fd
  f_law_kind:∃fd,FunD K "_law_kind" "_law_kind" (defArgs (top 51)) (defBody (top 51)) (defScope (top 51)) [] [] (He.ga K "_law_kind") fd
  f_law_same:∃fd,FunD K "_law_same" "_law_same" (defArgs (top 50)) (defBody (top 50)) (defScope (top 50)) [] [] (He.ga K "_law_same") fd
  f_law_text:∃fd,FunD K "_law_text" "_law_text" (defArgs (top 53)) (defBody (top 53)) (defScope (top 53)) [] [] (He.ga K "_law_text") fd
  f_law_is:∃fd,FunD K "_law_is" "_law_is" (defArgs (top 54)) (defBody (top 54)) (defScope (top 54)) [] [] (He.ga K "_law_is") fd
  f_law_is_ride:∃fd,FunD K "_law_is_ride" "_law_is_ride" (defArgs (top 55)) (defBody (top 55)) (defScope (top 55)) [] [] (He.ga K "_law_is_ride") fd
  f_law_fits:∃fd,FunD K "_law_fits" "_law_fits" (defArgs (top 56)) (defBody (top 56)) (defScope (top 56)) [] [] (He.ga K "_law_fits") fd
  f_law_bad:∃fd,FunD K "_law_bad" "_law_bad" (defArgs (top 57)) (defBody (top 57)) (defScope (top 57)) [] [] (He.ga K "_law_bad") fd
  f_law_drawn:∃fd,FunD K "_law_drawn" "_law_drawn" (defArgs (top 49)) (defBody (top 49)) (defScope (top 49)) [] [] (He.ga K "_law_drawn") fd
  f_law_other:∃fd,FunD K "_law_other" "_law_other" (defArgs (top 58)) (defBody (top 58)) (defScope (top 58)) [] [] (He.ga K "_law_other") fd
  f_BadText_init__:∃fd,FunD K "__init__" "BadText.__init__" (defArgs (inClass (top 24) 0)) (defBody (inClass (top 24) 0)) (defScope (inClass (top 24) 0)) [] [] (He.ma K (He.ga K "BadText") "__init__") fd
  f_number_of:∃fd,FunD K "number_of" "number_of" (defArgs (top 43)) (defBody (top 43)) (defScope (top 43)) [] [] (He.ga K "number_of") fd
  f_part_of:∃fd,FunD K "part_of" "part_of" (defArgs (top 44)) (defBody (top 44)) (defScope (top 44)) [] [] (He.ga K "part_of") fd
  f_deed_of:∃fd,FunD K "deed_of" "deed_of" (defArgs (top 45)) (defBody (top 45)) (defScope (top 45)) [] [] (He.ga K "deed_of") fd
  f_read:∃fd,FunD K "read" "read" (defArgs (top 46)) (defBody (top 46)) (defScope (top 46)) [] [] (He.ga K "read") fd
  f_law_deeds:∃fd,FunD K "_law_deeds" "_law_deeds" (defArgs (top 52)) (defBody (top 52)) (defScope (top 52)) [] [] (He.ga K "_law_deeds") fd
  f_law_start:∃fd,FunD K "_law_start" "_law_start" (defArgs (top 48)) (defBody (top 48)) (defScope (top 48)) [] [] (He.ga K "_law_start") fd
  f_law:∃fd,FunD K "law" "law" (defArgs (top 59)) (defBody (top 59)) (defScope (top 59)) [] [] (He.ga K "law") fd
abbrev iQ:Stmt:=(top 41)
abbrev N_part_word:List Str:=["thing","shape","one"]
def aZ:Nat→MF
  | 0=>bD 1 eA
  | n+1=>bD 1 (aO (sIf (tOf (aJ (lv dEq) (eV 1) (eC (.str "r")))) (aq (eJs [eFm (aJ fIx (eV 0) (eC (.int 0))),eC (.str ":"),eFm (aJ fIx (eV 0) (eC (.int 1)))])) (bQ))
  (aO (sIf (tOf (aJ (lv dEq) (eV 1) (eC (.str "v")))) (aq (eM bM fi (eC (.str ",")) (aB (cD (dj (eV 0)) (gV 2) (bv) (aN 2 (aZ n) (aB (eV 2) (aB (eC (.str "r")) (aE)))) [2]) (aE)))) (bQ))
  (aq (eB gk (aB (eV 0) (aE))))))
theorem iR {P:Program} {w:World} {K:PySem.W.Frag} {mg:Str→Option Value} {base:Heap} (G:Gx P w K mg base):∀n:Nat,FnE P w K mg base (n+1) (He.ga K "part_word") ["thing","shape"] (aZ n)
  | 0=>by
    obtain ⟨fd,F⟩:=G.f_part_word
    have h:FnE P w K mg base 1 (He.ga K "part_word") ["thing","shape"] (bD 1 eA):=by
      refine ⟨fd,?_⟩
      refine bE (N:=N_part_word) (st:=iQ) (k:=0) F ⟨rfl,rfl,rfl,by decide +kernel,rfl,by decide +kernel,by decide +kernel⟩ rfl (fun _ _ _ _ _ _ us hl=>match us,hl with|[_,_],_=>rfl) fun cdv A outer s H E hcd hp hr W tk=>?_
      exact gX
    rw[Nat.zero_add]
    exact h
  | n+1=>by
    have ih:=iR G n
    obtain ⟨fd,F⟩:=G.f_part_word
    have fx:=G.fx
    have h:FnE P w K mg base (n+1+1) (He.ga K "part_word") ["thing","shape"] (aZ (n+1)):=by
      refine ⟨fd,?_⟩
      refine bE (N:=N_part_word) (st:=iQ) (k:=n+1) F ⟨rfl,rfl,rfl,by decide +kernel,rfl,by decide +kernel,by decide +kernel⟩ rfl (fun _ _ _ _ _ _ us hl=>match us,hl with|[_,_],_=>rfl) fun cdv A outer s H E hcd hp hr W tk=>?_
      have nd:N_part_word.Nodup:=by decide +kernel
      have hu1:=ru1 hr
      have hu64:=dk hr
      have hu65:=dm hr
      exact (aF (a4 (aX (dG hu64) (aC 1) aL (by with_unfolding_all rfl)) (aK (aQ (sE_js (.cons (sE_fm (ak hu1 (aC 0) aH)) (.cons aL (.cons (sE_fm (ak hu1 (aC 0) aH)) .nil)))))) aS)
    (aF (a4 (aX (dG hu64) (aC 1) aL (by with_unfolding_all rfl)) (aK (aQ (fE eG PySem.F.plainAttrs_str PySem.F.slot_str_join PySem.F.type_str_join iu aL (aA (cO (own:=[("one",2)]) rfl nd (cf (aC 0)) (blkOk_by (by kernel_rfl)) (fun _ _ _ _ _=>(bG (i:=2) nd rfl (by first|exact .inl rfl|exact .inr rfl) (by decide))) (fun _ _ _ _ _=>cZ) (fun _ _ _ _ _=>(aM (ps:=["thing","shape"]) (m:=(aZ n)) ih hr fx.d_part_word takes0 (aA (aC 2) (aA aL aD))))) aD)))) aS)
    (aK (aQ (f8 qA rfl fx.n_str gB (aA (aC 0) aD))))))
    rw[show n+1+1=n+1+1 by omega]
    exact h
abbrev mO:Stmt:=(top 29)
abbrev N_is_number:List Str:=["thing","low","high"]
def eU:MS:=aq (fz (eB aY (aB (eV 0) (aB (eC (.ty "int")) (aE)))) (fz (eNot (eB aY (aB (eV 0) (aB (eC (.ty "bool")) (aE))))) (f7 (lv dLe) (lv dLe) (eV 1) (eV 0) (eV 2))))
def au:MF:=bD 0 eU
theorem fb {P:Program} {w:World} {K:PySem.W.Frag} {mg:Str→Option Value} {base:Heap} (G:Gx P w K mg base):FnE P w K mg base 1 (He.ga K "is_number") ["thing","low","high"] au:=by
  obtain ⟨fd,F⟩:=G.f_is_number
  have fx:=G.fx
  refine ⟨fd,?_⟩
  refine bE (N:=N_is_number) (st:=mO) (k:=0) F ⟨rfl,rfl,rfl,by decide +kernel,rfl,by decide +kernel,by decide +kernel⟩ rfl (fun _ _ _ _ _ _ us hl=>match us,hl with|[_,_,_],_=>rfl) fun cdv A outer s H E hcd hp hr W tk=>?_
  have nd:N_is_number.Nodup:=by decide +kernel
  have hu1:=ru1 hr
  have hu64:=dk hr
  have hu65:=dm hr
  exact (aK (aQ (co (ai bw rfl fx.n_isinstance aG (aA (aC 0) (aA (bX rfl fx.n_int io) aD))) (co (rW (ai bw rfl fx.n_isinstance aG (aA (aC 0) (aA (bX rfl fx.n_bool jf) aD)))) (fW (nH oU oU (aC 1) (aC 0) (aC 2)))))))
abbrev pE:Stmt:=(top 39)
abbrev N_is_ride:List Str:=["thing"]
def iw:MS:=aO (sIf (eq (bi (cI (eB aY (aB (eV 0) (aB (eC (.ty "tuple")) (aE)))))) (tOf (aJ (lv dNe) (eB bF (aB (eV 0) (aE))) (eC (.int 2))))) (aq (eC (.bool false))) (bQ))
  (aq (fz (aN 3 au (aB (aJ fIx (eV 0) (eC (.int 0))) (aB (eC (.int 0)) (aB (eC (.int 60)) (aE))))) (aN 3 au (aB (aJ fIx (eV 0) (eC (.int 1))) (aB (eC (.int 1)) (aB (eC (.int 9999)) (aE)))))))
def bR:MF:=bD 0 iw
theorem gx {P:Program} {w:World} {K:PySem.W.Frag} {mg:Str→Option Value} {base:Heap} (G:Gx P w K mg base):FnE P w K mg base 2 (He.ga K "is_ride") ["thing"] bR:=by
  obtain ⟨fd,F⟩:=G.f_is_ride
  have fx:=G.fx
  refine ⟨fd,?_⟩
  refine bE (N:=N_is_ride) (st:=pE) (k:=1) F ⟨rfl,rfl,rfl,by decide +kernel,rfl,by decide +kernel,by decide +kernel⟩ rfl (fun _ _ _ _ _ _ us hl=>match us,hl with|[_],_=>rfl) fun cdv A outer s H E hcd hp hr W tk=>?_
  have nd:N_is_ride.Nodup:=by decide +kernel
  have hu1:=ru1 hr
  have hu64:=dk hr
  have hu65:=dm hr
  exact (aF (a4 (c6 (dg (bp (bK (ai bw rfl fx.n_isinstance aG (aA (aC 0) (aA (bX rfl fx.n_tuple bT) aD))))) (dY (aX (gp hu64) (ai cx rfl fx.n_len bx (aA (aC 0) aD)) aH (by with_unfolding_all rfl))))) (aK (aQ cY)) aS)
    (aK (aQ (co (aM (ps:=["thing","low","high"]) (m:=au) (fb G) (hr.mono (by decide)) fx.d_is_number tk (aA (ak hu1 (aC 0) aH) (aA aH (aA (mE fx.i_MOST_DAY) aD)))) (fW (aM (ps:=["thing","low","high"]) (m:=au) (fb G) (hr.mono (by decide)) fx.d_is_number tk (aA (ak hu1 (aC 0) aH) (aA aH (aA (mE fx.i_MOST_NUMBER) aD)))))))))
abbrev pF:Stmt:=(top 40)
abbrev N_is_part:List Str:=["thing","shape","one","sign"]
def iy:MS:=aO (sIf (tOf (aJ (lv dEq) (eV 1) (eC (.str "r")))) (aq (aN 1 bR (aB (eV 0) (aE)))) (bQ))
  (aO (sIf (tOf (aJ (lv dEq) (eV 1) (eC (.str "v")))) (aq (fz (eB aY (aB (eV 0) (aB (eC (.ty "tuple")) (aE)))) (fz (aJ (lv dNe) (eV 0) (bB (aE))) (eB kh (aB (cD (dj (eV 0)) (gV 2) (bv) (aN 1 bR (aB (eV 2) (aE))) [2]) (aE)))))) (bQ))
  (aO (sIf (tOf (aJ (lv dEq) (eV 1) (eC (.str "n")))) (aq (aN 3 au (aB (eV 0) (aB (eC (.int 0)) (aB (eC (.int 999999)) (aE)))))) (bQ))
  (aq (fz (eB aY (aB (eV 0) (aB (eC (.ty "str")) (aE)))) (fz (aJ (lv dNe) (eV 0) (eC (.str ""))) (eB kh (aB (cD (dj (eV 0)) (gV 3) (bv) (aJ fIn (eV 3) (eC (.str "abcdefghijklmnopqrstuvwxyz"))) [3]) (aE))))))))
def bq:MF:=bD 2 iy
theorem kH {P:Program} {w:World} {K:PySem.W.Frag} {mg:Str→Option Value} {base:Heap} (G:Gx P w K mg base):FnE P w K mg base 3 (He.ga K "is_part") ["thing","shape"] bq:=by
  obtain ⟨fd,F⟩:=G.f_is_part
  have fx:=G.fx
  refine ⟨fd,?_⟩
  refine bE (N:=N_is_part) (st:=pF) (k:=2) F ⟨rfl,rfl,rfl,by decide +kernel,rfl,by decide +kernel,by decide +kernel⟩ rfl (fun _ _ _ _ _ _ us hl=>match us,hl with|[_,_],_=>rfl) fun cdv A outer s H E hcd hp hr W tk=>?_
  have nd:N_is_part.Nodup:=by decide +kernel
  have hu1:=ru1 hr
  have hu64:=dk hr
  have hu65:=dm hr
  exact (aF (a4 (aX (dG hu64) (aC 1) aL (by with_unfolding_all rfl)) (aK (aQ (aM (ps:=["thing"]) (m:=bR) (gx G) (hr.mono (by decide)) fx.d_is_ride tk (aA (aC 0) aD)))) aS)
    (aF (a4 (aX (dG hu64) (aC 1) aL (by with_unfolding_all rfl)) (aK (aQ (co (ai bw rfl fx.n_isinstance aG (aA (aC 0) (aA (bX rfl fx.n_tuple bT) aD))) (co (dz (gp hu64) (aC 0) (ae aD) (by with_unfolding_all rfl)) (fW (ai (pq rfl) rfl fx.n_all mG (aA (cO (own:=[("one",2)]) rfl nd (cf (aC 0)) (blkOk_by (by kernel_rfl)) (fun _ _ _ _ _=>(bG (i:=2) nd rfl (by first|exact .inl rfl|exact .inr rfl) (by decide))) (fun _ _ _ _ _=>cZ) (fun _ _ _ _ _=>(aM (ps:=["thing"]) (m:=bR) (gx G) (hr.mono (by decide)) fx.d_is_ride takes0 (aA (aC 2) aD)))) aD))))))) aS)
    (aF (a4 (aX (dG hu64) (aC 1) aL (by with_unfolding_all rfl)) (aK (aQ (aM (ps:=["thing","low","high"]) (m:=au) (fb G) (hr.mono (by decide)) fx.d_is_number tk (aA (aC 0) (aA aH (aA aH aD)))))) aS)
    (aK (aQ (co (ai bw rfl fx.n_isinstance aG (aA (aC 0) (aA (bX rfl fx.n_str gB) aD))) (co (dz (gp hu64) (aC 0) aL (by with_unfolding_all rfl)) (fW (ai (pq rfl) rfl fx.n_all mG (aA (cO (own:=[("sign",3)]) rfl nd (cf (aC 0)) (blkOk_by (by kernel_rfl)) (fun _ _ _ _ _=>(bG (i:=3) nd rfl (by first|exact .inl rfl|exact .inr rfl) (by decide))) (fun _ _ _ _ _=>cZ) (fun _ _ _ _ _=>(dz (o_in hu65) (aC 3) (mF fx.s_LETTERS) (by with_unfolding_all rfl)))) aD))))))))))
theorem cF {P:Program} {w:World} {K:PySem.W.Frag} {mg:Str→Option Value} {base:Heap} (G:Gx P w K mg base):∃fd,FnOk P w K mg base C8.CX0 1 (He.ma K (He.ga K "BadDeed") "__init__") fd ["self","number"] (spI (He.ga K "BadDeed") ["number"])∧Binds K fd ["self","number"] []:=by
  obtain ⟨fd,F⟩:=G.f_BadDeed_init__
  have fx:=G.fx
  exact ⟨fd,nX (k:=0) fx.e_BadDeed F ⟨rfl,rfl,rfl,by decide +kernel,rfl,by decide +kernel,by decide +kernel⟩ fx.d_AirError rfl rfl (fun _ _=>⟨plainOf _ _,rfl⟩),F.bindsN (fun _ _ _ _ _ _ us hl=>match us,hl with|[_,_],_=>rfl)⟩
abbrev nw:Stmt:=(top 38)
abbrev N_shape_of:List Str:=["word"]
def kI:MS:=aq (pD [("fly","rw"),("sell","wvw"),("back","n"),("away","n"),("late","rn"),("off","r"),("kind","ww"),("turn","n")] (eV 0) (eC (.str "n")))
def bz:MF:=bD 0 kI
theorem jN {P:Program} {w:World} {K:PySem.W.Frag} {mg:Str→Option Value} {base:Heap} (G:Gx P w K mg base):FnE P w K mg base 1 (He.ga K "shape_of") ["word"] bz:=by
  obtain ⟨fd,F⟩:=G.f_shape_of
  have fx:=G.fx
  refine ⟨fd,?_⟩
  refine bE (N:=N_shape_of) (st:=nw) (k:=0) F ⟨rfl,rfl,rfl,by decide +kernel,rfl,by decide +kernel,by decide +kernel⟩ rfl (fun _ _ _ _ _ _ us hl=>match us,hl with|[_],_=>rfl) fun cdv A outer s H E hcd hp hr W tk=>?_
  have nd:N_shape_of.Nodup:=by decide +kernel
  have hu1:=ru1 hr
  have hu64:=dk hr
  have hu65:=dm hr
  exact (aK (aQ (s4 G.s_SHAPES fx.d_SHAPES rfl (aC 0) (mF fx.s_MEND))))
abbrev ky:Stmt:=(top 32)
abbrev N_need_deeds:List Str:=["deeds","number","deed"]
def fc:MS:=aO (sIf (bi (cI (eB aY (aB (eV 0) (aB (eC (.ty "list")) (aE)))))) (dn "BadDeed" ["number"] (aB (eC (.int 0)) (aE))) (bQ))
  (eR (fX (aB (eV 0) (aE))) (cp 2 (ar (gV 1) (ar (gV 2) (cz)))) (aO (sIf (eq (bi (cI (eB aY (aB (eV 2) (aB (eC (.ty "tuple")) (aE)))))) (eq (tOf (aJ (lv dEq) (eV 2) (bB (aE)))) (eq (bi (cI (eB aY (aB (aJ fIx (eV 2) (eC (.int 0))) (aB (eC (.ty "str")) (aE)))))) (tOf (iN true [("fly",2),("sell",3),("back",1),("away",1),("late",2),("off",1),("kind",2),("turn",1),("mend",1)] (aJ fIx (eV 2) (eC (.int 0)))))))) (dn "BadDeed" ["number"] (aB (eV 1) (aE))) (bQ))
  (sIf (tOf (aJ (lv dNe) (eB bF (aB (eV 2) (aE))) (aJ (lv0 am) (kA [("fly",2),("sell",3),("back",1),("away",1),("late",2),("off",1),("kind",2),("turn",1),("mend",1)] (aJ fIx (eV 2) (eC (.int 0)))) (eC (.int 1))))) (dn "BadDeed" ["number"] (aB (eV 1) (aE))) (bQ))))
def b3:MF:=bD 2 fc
theorem kz {P:Program} {w:World} {K:PySem.W.Frag} {mg:Str→Option Value} {base:Heap} (G:Gx P w K mg base):FnE P w K mg base 3 (He.ga K "need_deeds") ["deeds"] b3:=by
  obtain ⟨fd,F⟩:=G.f_need_deeds
  have fx:=G.fx
  refine ⟨fd,?_⟩
  refine bE (N:=N_need_deeds) (st:=ky) (k:=2) F ⟨rfl,rfl,rfl,by decide +kernel,rfl,by decide +kernel,by decide +kernel⟩ rfl (fun _ _ _ _ _ _ us hl=>match us,hl with|[_],_=>rfl) fun cdv A outer s H E hcd hp hr W tk=>?_
  have nd:N_need_deeds.Nodup:=by decide +kernel
  have hu1:=ru1 hr
  have hu64:=dk hr
  have hu65:=dm hr
  exact (aF (a4 (bp (bK (ai bw rfl fx.n_isinstance aG (aA (aC 0) (aA (bX rfl fx.n_list gU) aD))))) (aK (fJ (ns:=["number"]) rfl tk fx.e_BadDeed (cF G) (hr.mono (by decide)) fx.d_BadDeed rfl (aA aH aD))) aS)
    (aK (eE hp rfl (lz rfl fx.n_enumerate (aA (aC 0) aD)) (oW rfl (dH (bo (i:=1) nd rfl (by first|exact .inl rfl|exact .inr rfl)) (dH (bo (i:=2) nd rfl (by first|exact .inl rfl|exact .inr rfl)) jc))) (aF (a4 (c6 (dg (bp (bK (ai bw rfl fx.n_isinstance aG (aA (aC 2) (aA (bX rfl fx.n_tuple bT) aD))))) (dg (aX (dG hu64) (aC 2) (ae aD) (by with_unfolding_all rfl)) (dg (bp (bK (ai bw rfl fx.n_isinstance aG (aA (ak hu1 (aC 2) aH) (aA (bX rfl fx.n_str gB) aD))))) (dY (qG (.inr ⟨rfl,rfl⟩) G.t_DEEDS fx.d_DEEDS rfl (ak hu1 (aC 2) aH))))))) (aK (fJ (ns:=["number"]) rfl tk fx.e_BadDeed (cF G) (hr.mono (by decide)) fx.d_BadDeed rfl (aA (aC 1) aD))) aS)
    (aK (a4 (aX (gp hu64) (ai cx rfl fx.n_len bx (aA (aC 2) aD)) (aR a9 (qH G.t_DEEDS fx.d_DEEDS rfl (ak hu1 (aC 2) aH)) aH) (by with_unfolding_all rfl)) (aK (fJ (ns:=["number"]) rfl tk fx.e_BadDeed (cF G) (hr.mono (by decide)) fx.d_BadDeed rfl (aA (aC 1) aD))) aS))))))
abbrev pG:Stmt:=(top 42)
abbrev N_written:List Str:=["deeds","rows","number","deed","parts","thing","shape"]
def iz:MS:=aO (fB (aN 1 b3 (aB (eV 0) (aE))))
  (aO (ao 1 (iB (aE)))
  (aO (eR (fX (aB (eV 0) (aE))) (cp 2 (ar (gV 2) (ar (gV 3) (cz)))) (aO (ao 4 (kE (aB (fm (eV 3) (cR (eC (.int 1))) (pNo)) (aB (aN 1 bz (aB (aJ fIx (eV 3) (eC (.int 0))) (aE))) (aE)))))
  (aO (sIf (bi (cI (eB kh (aB (cD (dj (eV 4)) (cp 2 (ar (gV 5) (ar (gV 6) (cz)))) (bv) (aN 2 bq (aB (eV 5) (aB (eV 6) (aE)))) [5,6]) (aE))))) (dn "BadDeed" ["number"] (aB (eV 2) (aE))) (bQ))
  (fB (eM bS bH (eV 1) (aB (eM bM fi (eC (.str " ")) (aB (aJ (lv0 am) (cS (aB (aJ fIx (eV 3) (eC (.int 0))) (aE))) (cD (dj (eV 4)) (cp 2 (ar (gV 5) (ar (gV 6) (cz)))) (bv) (aN 2 (aZ 2) (aB (eV 5) (aB (eV 6) (aE)))) [5,6])) (aE))) (aE)))))))
  (aq (eM bM fi (eC (.str "\n")) (aB (eV 1) (aE))))))
def ap:MF:=bD 6 iz
theorem gy {P:Program} {w:World} {K:PySem.W.Frag} {mg:Str→Option Value} {base:Heap} (G:Gx P w K mg base):FnE P w K mg base 4 (He.ga K "written") ["deeds"] ap:=by
  obtain ⟨fd,F⟩:=G.f_written
  have fx:=G.fx
  refine ⟨fd,?_⟩
  refine bE (N:=N_written) (st:=pG) (k:=3) F ⟨rfl,rfl,rfl,by decide +kernel,rfl,by decide +kernel,by decide +kernel⟩ rfl (fun _ _ _ _ _ _ us hl=>match us,hl with|[_],_=>rfl) fun cdv A outer s H E hcd hp hr W tk=>?_
  have nd:N_written.Nodup:=by decide +kernel
  have hu1:=ru1 hr
  have hu64:=dk hr
  have hu65:=dm hr
  exact (aF (eS (aM (ps:=["deeds"]) (m:=b3) (kz G) (hr.mono (by decide)) fx.d_need_deeds tk (aA (aC 0) aD)))
    (aF (aW (i:=1) nd rfl (by first|exact .inl rfl|exact .inr rfl) (gQ aD))
    (aF (eE hp rfl (lz rfl fx.n_enumerate (aA (aC 0) aD)) (oW rfl (dH (bo (i:=2) nd rfl (by first|exact .inl rfl|exact .inr rfl)) (dH (bo (i:=3) nd rfl (by first|exact .inl rfl|exact .inr rfl)) jc))) (aF (aW (i:=4) nd rfl (by first|exact .inl rfl|exact .inr rfl) (pC rfl fx.n_list rfl fx.n_zip (aA (fV (aC 3) (dC aH) jE) (aA (aM (ps:=["word"]) (m:=bz) (jN G) (hr.mono (by decide)) fx.d_shape_of tk (aA (ak hu1 (aC 3) aH) aD)) aD))))
    (aF (a4 (bp (bK (ai (pq rfl) rfl fx.n_all mG (aA (cO (own:=[("thing",5),("shape",6)]) rfl nd (cf (aC 4)) (blkOk_by (by kernel_rfl)) (fun _ _ _ _ _=>(l0 rfl (dJ (bG (i:=5) nd rfl (by first|exact .inl rfl|exact .inr rfl) (by decide)) (dJ (bG (i:=6) nd rfl (by first|exact .inl rfl|exact .inr rfl) (by decide)) jd)))) (fun _ _ _ _ _=>cZ) (fun _ _ _ _ _=>(aM (ps:=["thing","shape"]) (m:=bq) (kH G) (hr.mono (by decide)) fx.d_is_part takes0 (aA (aC 5) (aA (aC 6) aD))))) aD)))) (aK (fJ (ns:=["number"]) rfl tk fx.e_BadDeed (cF G) (hr.mono (by decide)) fx.d_BadDeed rfl (aA (aC 2) aD))) aS)
    (aK (eS (fE gA PySem.F.plainAttrs_list PySem.F.slot_list_append PySem.F.type_list_append fF (aC 1) (aA (fE eG PySem.F.plainAttrs_str PySem.F.slot_str_join PySem.F.type_str_join iu aL (aA (aR a9 (bL (aA (ak hu1 (aC 3) aH) aD)) (cO (own:=[("thing",5),("shape",6)]) rfl nd (cf (aC 4)) (blkOk_by (by kernel_rfl)) (fun _ _ _ _ _=>(l0 rfl (dJ (bG (i:=5) nd rfl (by first|exact .inl rfl|exact .inr rfl) (by decide)) (dJ (bG (i:=6) nd rfl (by first|exact .inl rfl|exact .inr rfl) (by decide)) jd)))) (fun _ _ _ _ _=>cZ) (fun _ _ _ _ _=>(aM (ps:=["thing","shape"]) (m:=(aZ 2)) (iR G 2) (hr.mono (by decide)) fx.d_part_word takes0 (aA (aC 5) (aA (aC 6) aD)))))) aD)) aD)))))))
    (aK (aQ (fE eG PySem.F.plainAttrs_str PySem.F.slot_str_join PySem.F.type_str_join iu aL (aA (aC 1) aD)))))))
abbrev gE:Stmt:=(top 51)
abbrev N_law_kind:List Str:=["_law_work","e","_law_kinds","_law_words","_law_word"]
def mP (C:Str) (ea:Addr) (dd:Option Addr) (kt:D→Option Bool):MS:=aO (ao 2 (cS (aB (eB (cV ea dd kt) (aB (eV 1) (aB (eC (.glo "BadNet")) (aE)))) (aB (eB (cV ea dd kt) (aB (eV 1) (aB (eC (.glo "BadFleet")) (aE)))) (aB (eB (cV ea dd kt) (aB (eV 1) (aB (eC (.glo "BadClasses")) (aE)))) (aB (eB (cV ea dd kt) (aB (eV 1) (aB (eC (.glo "BadDay")) (aE)))) (aE)))))))
  (aO (ao 2 (aJ (lv0 am) (eV 2) (cS (aB (eB (cV ea dd kt) (aB (eV 1) (aB (eC (.glo "BadPlace")) (aE)))) (aB (eB (cV ea dd kt) (aB (eV 1) (aB (eC (.glo "BadTime")) (aE)))) (aB (eB (cV ea dd kt) (aB (eV 1) (aB (eC (.glo "BadCount")) (aE)))) (aE)))))))
  (aO (ao 2 (aJ (lv0 am) (eV 2) (cS (aB (eB (cV ea dd kt) (aB (eV 1) (aB (eC (.glo "BadChain")) (aE)))) (aB (eB (cV ea dd kt) (aB (eV 1) (aB (eC (.glo "NoDuty")) (aE)))) (aB (eB (cV ea dd kt) (aB (eV 1) (aB (eC (.glo "NoLeg")) (aE)))) (aB (eB (cV ea dd kt) (aB (eV 1) (aB (eC (.glo "NoPlane")) (aE)))) (aE))))))))
  (aO (ao 2 (aJ (lv0 am) (eV 2) (cS (aB (eB (cV ea dd kt) (aB (eV 1) (aB (eC (.glo "NoKind")) (aE)))) (aB (eB (cV ea dd kt) (aB (eV 1) (aB (eC (.glo "Taken")) (aE)))) (aB (eB (cV ea dd kt) (aB (eV 1) (aB (eC (.glo "CannotFly")) (aE)))) (aB (eB (cV ea dd kt) (aB (eV 1) (aB (eC (.glo "NoWay")) (aE)))) (aE))))))))
  (aO (ao 2 (aJ (lv0 am) (eV 2) (cS (aB (eB (cV ea dd kt) (aB (eV 1) (aB (eC (.glo "NoSeat")) (aE)))) (aB (eB (cV ea dd kt) (aB (eV 1) (aB (eC (.glo "NoClass")) (aE)))) (aB (eB (cV ea dd kt) (aB (eV 1) (aB (eC (.glo "BadName")) (aE)))) (aE)))))))
  (aO (ao 2 (aJ (lv0 am) (eV 2) (cS (aB (eB (cV ea dd kt) (aB (eV 1) (aB (eC (.glo "NoBooking")) (aE)))) (aB (eB (cV ea dd kt) (aB (eV 1) (aB (eC (.glo "Left")) (aE)))) (aB (eB (cV ea dd kt) (aB (eV 1) (aB (eC (.glo "Unmended")) (aE)))) (aE)))))))
  (aO (ao 2 (aJ (lv0 am) (eV 2) (cS (aB (eB (cV ea dd kt) (aB (eV 1) (aB (eC (.glo "BadDeed")) (aE)))) (aB (eB (cV ea dd kt) (aB (eV 1) (aB (eC (.glo "BadText")) (aE)))) (aE))))))
  (aO (ao 3 (eC (.str "BadNet BadFleet BadClasses BadDay BadPlace BadTime BadCount BadChain NoDuty NoLeg NoPlane")))
  (aO (ao 3 (aJ (lv0 am) (eV 3) (eC (.str " NoKind Taken CannotFly NoWay NoSeat NoClass BadName NoBooking Left Unmended"))))
  (aO (ao 3 (aJ (lv0 am) (eV 3) (eC (.str " BadDeed BadText"))))
  (aO (sIf (eq (tOf (aJ (lv dNe) (eM bS oi (eV 2) (aB (eC (.bool true)) (aE))) (eC (.int 1)))) (bi (cI (eB (cV ea dd kt) (aB (eV 1) (aB (eC (.ty "ValueError")) (aE))))))) (aq (eC (.str "other"))) (bQ))
  (aO (ao 4 (aJ fIx (eM bM de (eV 3) (aB (eC (.str " ")) (aE))) (eM bS oj (eV 2) (aB (eC (.bool true)) (aE)))))
  (aO (sIf (tOf (aJ fIn (eV 4) (bB (aB (eC (.str "BadNet")) (aB (eC (.str "BadFleet")) (aE)))))) (aq (bB (aB (eV 4) (aB (eXf ea dd ((dX C).contains "part") "part" (eV 1)) (aB (eXf ea dd ((dX C).contains "number") "number" (eV 1)) (aE)))))) (bQ))
  (aO (sIf (tOf (aJ fIn (eV 4) (bB (aB (eC (.str "BadClasses")) (aB (eC (.str "BadDeed")) (aE)))))) (aq (bB (aB (eV 4) (aB (eXf ea dd ((dX C).contains "number") "number" (eV 1)) (aE))))) (bQ))
  (aq (eIf (tOf (aJ (lv dEq) (eV 4) (eC (.str "BadText")))) (bB (aB (eV 4) (aB (eXf ea dd ((dX C).contains "row") "row" (eV 1)) (aE)))) (eV 4))))))))))))))))
abbrev hdK:Hdr:=hdOf kindsHere
theorem mQ {C:Str} {fs:List (Str × D)} {r:D} (h:hdK C fs=some r):C∈kindsHere∧fs.map (·.1)=dX C∧r=if fs=[] then .str C else .tup (.str C::(fs.map (·.2)).reverse):=by
  unfold hdK hdOf at h
  split at h
  · rename_i hc
    cases h
    exact ⟨List.contains_iff_mem.mp hc.1,hc.2,rfl⟩
  · cases h
theorem ud {t:MT} {mb:ME} {ea d:Addr} {o1:Bool} {f1:Str} {ns:List Str} {ds:List D} {w x:D} {env:En} {S:Sto} (ht:t env S=.ok true S) (h4:env[4]?=some (some w)) (h:env[1]?=some (some (.exn ea d ns ds))) (l1:(ns.zip ds).lookup f1=some x) (p1:o1=true) :
    aq (eIf t (bB (aB (eV 4) (aB (eXf ea (some d) o1 f1 (eV 1)) aE))) mb) env S=.ret (.tup [w,x]) S:=by
  simp[eIf,ht,Res.rs,aq,bB,aB,eV,h4,sM h l1 p1,aE]
theorem s6:∀C∈kindsHere,∀(fs:List (Str × D)) (ea:Addr) (dd:Option Addr) (S:Sto),fs.map (·.1)=dX C→DdK fs dd→mP C ea dd (ktK C) ((List.replicate 5 none).set 1 (some (exD ea fs dd))) S=.ret (if fs=[] then .str C else .tup (.str C::(fs.map (·.2)).reverse)) S:=by
  intro C hC fs ea dd S hf hd
  unfold kindsHere at hC
  simp only[List.mem_cons,List.not_mem_nil,or_false] at hC
  rcases hC with rfl|rfl
  ·
    obtain ⟨x,d,rfl,rfl⟩:=sH (hf.trans (show dX "BadDeed"=(["number"]:List Str) by decide +kernel)) hd
    unfold mP
    refine aa (p9 (al rfl (by decide +kernel) (al rfl (by decide +kernel) (al rfl (by decide +kernel) (al rfl (by decide +kernel) rfl)))) (by simp)) ?_
    refine aa (cb rfl (al rfl (by decide +kernel) (al rfl (by decide +kernel) (al rfl (by decide +kernel) rfl))) (by simp) (by simp)) ?_
    refine aa (cb rfl (al rfl (by decide +kernel) (al rfl (by decide +kernel) (al rfl (by decide +kernel) (al rfl (by decide +kernel) rfl)))) (by simp) (by simp)) ?_
    refine aa (cb rfl (al rfl (by decide +kernel) (al rfl (by decide +kernel) (al rfl (by decide +kernel) (al rfl (by decide +kernel) rfl)))) (by simp) (by simp)) ?_
    refine aa (cb rfl (al rfl (by decide +kernel) (al rfl (by decide +kernel) (al rfl (by decide +kernel) rfl))) (by simp) (by simp)) ?_
    refine aa (cb rfl (al rfl (by decide +kernel) (al rfl (by decide +kernel) (al rfl (by decide +kernel) rfl))) (by simp) (by simp)) ?_
    refine aa (cb rfl (al rfl (by decide +kernel) (al rfl (by decide +kernel) rfl)) (by simp) (by simp)) ?_
    refine aa set_c ?_
    refine aa (jg rfl (by decide +kernel)) ?_
    refine aa (jg rfl (by decide +kernel)) ?_
    refine aa (nV (sK (by kernel_rfl) (nU rfl rfl))) ?_
    refine aa (sL (d:=.str "BadDeed") (by kernel_rfl)) ?_
    refine aa (nV (by kernel_rfl)) ?_
    exact (uP (x:=x) (by kernel_rfl) rfl rfl rfl (by decide +kernel)).trans (by simp)
  ·
    obtain ⟨x,d,rfl,rfl⟩:=sH (hf.trans (show dX "BadText"=(["row"]:List Str) by decide +kernel)) hd
    unfold mP
    refine aa (p9 (al rfl (by decide +kernel) (al rfl (by decide +kernel) (al rfl (by decide +kernel) (al rfl (by decide +kernel) rfl)))) (by simp)) ?_
    refine aa (cb rfl (al rfl (by decide +kernel) (al rfl (by decide +kernel) (al rfl (by decide +kernel) rfl))) (by simp) (by simp)) ?_
    refine aa (cb rfl (al rfl (by decide +kernel) (al rfl (by decide +kernel) (al rfl (by decide +kernel) (al rfl (by decide +kernel) rfl)))) (by simp) (by simp)) ?_
    refine aa (cb rfl (al rfl (by decide +kernel) (al rfl (by decide +kernel) (al rfl (by decide +kernel) (al rfl (by decide +kernel) rfl)))) (by simp) (by simp)) ?_
    refine aa (cb rfl (al rfl (by decide +kernel) (al rfl (by decide +kernel) (al rfl (by decide +kernel) rfl))) (by simp) (by simp)) ?_
    refine aa (cb rfl (al rfl (by decide +kernel) (al rfl (by decide +kernel) (al rfl (by decide +kernel) rfl))) (by simp) (by simp)) ?_
    refine aa (cb rfl (al rfl (by decide +kernel) (al rfl (by decide +kernel) rfl)) (by simp) (by simp)) ?_
    refine aa set_c ?_
    refine aa (jg rfl (by decide +kernel)) ?_
    refine aa (jg rfl (by decide +kernel)) ?_
    refine aa (nV (sK (by kernel_rfl) (nU rfl rfl))) ?_
    refine aa (sL (d:=.str "BadText") (by kernel_rfl)) ?_
    refine aa (nV (by kernel_rfl)) ?_
    refine aa (nV (by kernel_rfl)) ?_
    exact (ud (x:=x) (by kernel_rfl) rfl rfl rfl (by decide +kernel)).trans (by simp)
theorem qK {P:Program} {w:World} {K:PySem.W.Frag} {mg:Str→Option Value} {base:Heap} (G:Gx P w K mg base):KindF P w K mg base 13 "_law_kind" (He.ga K "_law_kind") hdK:=by
  obtain ⟨fd,F⟩:=G.f_law_kind
  have fx:=G.fx
  have nd:N_law_kind.Nodup:=by decide +kernel
  have b:=F.bindsN (ps:=["_law_work"]) (fun _ _ _ _ _ _ us hl=>match us,hl with|[_],_=>rfl)
  have kp:=F.kp
  obtain ⟨oc,od,dV,kV,doc,pm,an,cdv,ct,osl,rfl,lk,hcd,hD,_⟩:=F.ex
  refine ⟨⟨defArgs gE,defBody gE,defScope gE,dV,kV,doc,pm,cdv,ct,oc,an,od,osl,N_law_kind,"_law_work",lk,hcd,b,⟨rfl,rfl,rfl,nd,rfl,by decide +kernel,by decide +kernel⟩,rfl,.inl rfl,by decide,by decide,fun X hP hw hK hmg hb hr q=>?_⟩,kp⟩
  subst hP hw hK hmg hb
  refine ol (e:="e") (i:=1) (ec:="AirError") (CS:=He.ga X.K "AirError") (sm:=fun C ea dd=>mP C ea dd (ktK C)) nd rfl rfl rfl G.kx.air (by decide) (fun _=>rfl) (fun C fs r hC Da hDa=>?_) (fun s H ea Da oe pn C fs dd r m1 m4 hdk hz hf=>?_) (fun C fs ea dd S r hC hdk=>?_)
  · have hm:=(mQ hC).1
    rw[G.kx.gl C (G.kx.sub C hm)] at hDa
    cases hDa
    exact G.kx.exm C hm
  · have hm:=(mQ m4).1
    rw[G.kx.gl C (G.kx.sub C hm)] at m1
    cases m1
    have hC:=G.kx.exc C hm
    have hk:=hk_of G.kx hm
    have hun:=hr.un
    have hu1:X.A.units+3+1<cLine:=by omega
    have hu64:X.A.units+3+64<cLine:=by omega
    have hu65:X.A.units+3+65<cLine:=by omega
    exact (aF (aW (i:=2) nd rfl (by first|exact .inl rfl|exact .inr rfl) (bL (aA (ai (cE hC hz hf hk) rfl fx.n_isinstance aG (aA (aC 1) (aA (bC rfl fx.d_BadNet) aD))) (aA (ai (cE hC hz hf hk) rfl fx.n_isinstance aG (aA (aC 1) (aA (bC rfl fx.d_BadFleet) aD))) (aA (ai (cE hC hz hf hk) rfl fx.n_isinstance aG (aA (aC 1) (aA (bC rfl fx.d_BadClasses) aD))) (aA (ai (cE hC hz hf hk) rfl fx.n_isinstance aG (aA (aC 1) (aA (bC rfl fx.d_BadDay) aD))) aD))))))
    (aF (aW (i:=2) nd rfl (by first|exact .inl rfl|exact .inr rfl) (aR a9 (aC 2) (bL (aA (ai (cE hC hz hf hk) rfl fx.n_isinstance aG (aA (aC 1) (aA (bC rfl fx.d_BadPlace) aD))) (aA (ai (cE hC hz hf hk) rfl fx.n_isinstance aG (aA (aC 1) (aA (bC rfl fx.d_BadTime) aD))) (aA (ai (cE hC hz hf hk) rfl fx.n_isinstance aG (aA (aC 1) (aA (bC rfl fx.d_BadCount) aD))) aD))))))
    (aF (aW (i:=2) nd rfl (by first|exact .inl rfl|exact .inr rfl) (aR a9 (aC 2) (bL (aA (ai (cE hC hz hf hk) rfl fx.n_isinstance aG (aA (aC 1) (aA (bC rfl fx.d_BadChain) aD))) (aA (ai (cE hC hz hf hk) rfl fx.n_isinstance aG (aA (aC 1) (aA (bC rfl fx.d_NoDuty) aD))) (aA (ai (cE hC hz hf hk) rfl fx.n_isinstance aG (aA (aC 1) (aA (bC rfl fx.d_NoLeg) aD))) (aA (ai (cE hC hz hf hk) rfl fx.n_isinstance aG (aA (aC 1) (aA (bC rfl fx.d_NoPlane) aD))) aD)))))))
    (aF (aW (i:=2) nd rfl (by first|exact .inl rfl|exact .inr rfl) (aR a9 (aC 2) (bL (aA (ai (cE hC hz hf hk) rfl fx.n_isinstance aG (aA (aC 1) (aA (bC rfl fx.d_NoKind) aD))) (aA (ai (cE hC hz hf hk) rfl fx.n_isinstance aG (aA (aC 1) (aA (bC rfl fx.d_Taken) aD))) (aA (ai (cE hC hz hf hk) rfl fx.n_isinstance aG (aA (aC 1) (aA (bC rfl fx.d_CannotFly) aD))) (aA (ai (cE hC hz hf hk) rfl fx.n_isinstance aG (aA (aC 1) (aA (bC rfl fx.d_NoWay) aD))) aD)))))))
    (aF (aW (i:=2) nd rfl (by first|exact .inl rfl|exact .inr rfl) (aR a9 (aC 2) (bL (aA (ai (cE hC hz hf hk) rfl fx.n_isinstance aG (aA (aC 1) (aA (bC rfl fx.d_NoSeat) aD))) (aA (ai (cE hC hz hf hk) rfl fx.n_isinstance aG (aA (aC 1) (aA (bC rfl fx.d_NoClass) aD))) (aA (ai (cE hC hz hf hk) rfl fx.n_isinstance aG (aA (aC 1) (aA (bC rfl fx.d_BadName) aD))) aD))))))
    (aF (aW (i:=2) nd rfl (by first|exact .inl rfl|exact .inr rfl) (aR a9 (aC 2) (bL (aA (ai (cE hC hz hf hk) rfl fx.n_isinstance aG (aA (aC 1) (aA (bC rfl fx.d_NoBooking) aD))) (aA (ai (cE hC hz hf hk) rfl fx.n_isinstance aG (aA (aC 1) (aA (bC rfl fx.d_Left) aD))) (aA (ai (cE hC hz hf hk) rfl fx.n_isinstance aG (aA (aC 1) (aA (bC rfl fx.d_Unmended) aD))) aD))))))
    (aF (aW (i:=2) nd rfl (by first|exact .inl rfl|exact .inr rfl) (aR a9 (aC 2) (bL (aA (ai (cE hC hz hf hk) rfl fx.n_isinstance aG (aA (aC 1) (aA (bC rfl fx.d_BadDeed) aD))) (aA (ai (cE hC hz hf hk) rfl fx.n_isinstance aG (aA (aC 1) (aA (bC rfl fx.d_BadText) aD))) aD)))))
    (aF (aW (i:=3) nd rfl (by first|exact .inl rfl|exact .inr rfl) aL)
    (aF (aW (i:=3) nd rfl (by first|exact .inl rfl|exact .inr rfl) (aR a9 (aC 3) aL))
    (aF (aW (i:=3) nd rfl (by first|exact .inl rfl|exact .inr rfl) (aR a9 (aC 3) aL))
    (aF (a4 (c6 (dg (aX (gp hu64) (fE gA PySem.F.plainAttrs_list PySem.F.slot_list_count PySem.F.type_list_count uL (aC 2) (aA cY aD)) aH (by with_unfolding_all rfl)) (dY (bp (bK (ai (cE hC hz hf hk) rfl fx.n_isinstance aG (aA (aC 1) (aA (bX rfl fx.n_ValueError kj) aD)))))))) (aK (aQ aL)) aS)
    (aF (aW (i:=4) nd rfl (by first|exact .inl rfl|exact .inr rfl) (ak hu1 (fE eG PySem.F.plainAttrs_str PySem.F.slot_str_split PySem.F.type_str_split iI (aC 3) (aA aL aD)) (fE gA PySem.F.plainAttrs_list PySem.F.slot_list_index PySem.F.type_list_index uM (aC 2) (aA cY aD))))
    (aF (a4 (aX (o_in hu65) (aC 4) (ae (aA aL (aA aL aD))) (by with_unfolding_all rfl)) (aK (aQ (ae (aA (aC 4) (aA (px (fun h=>⟨⟨hC.hg,hC.hk,hC.hs,hC.hd⟩,G.kx.fld C hm _ (List.contains_iff_mem.mp h)⟩) hz hf (aC 1)) (aA (px (fun h=>⟨⟨hC.hg,hC.hk,hC.hs,hC.hd⟩,G.kx.fld C hm _ (List.contains_iff_mem.mp h)⟩) hz hf (aC 1)) aD)))))) aS)
    (aF (a4 (aX (o_in hu65) (aC 4) (ae (aA aL (aA aL aD))) (by with_unfolding_all rfl)) (aK (aQ (ae (aA (aC 4) (aA (px (fun h=>⟨⟨hC.hg,hC.hk,hC.hs,hC.hd⟩,G.kx.fld C hm _ (List.contains_iff_mem.mp h)⟩) hz hf (aC 1)) aD))))) aS)
    (aK (aQ (f6 (aX (dG hu64) (aC 4) aL (by with_unfolding_all rfl)) (ae (aA (aC 4) (aA (px (fun h=>⟨⟨hC.hg,hC.hk,hC.hs,hC.hd⟩,G.kx.fld C hm _ (List.contains_iff_mem.mp h)⟩) hz hf (aC 1)) aD))) (aC 4))))))))))))))))))
  · obtain ⟨hm,hfs,rfl⟩:=mQ hC
    exact s6 C hm fs ea dd S hfs hdk
abbrev jO:Stmt:=(top 50)
abbrev N_law_same:List Str:=["_law_found","_law_due","_law_alike","_law_k"]
def aj:Nat→MF
  | 0=>bD 2 eA
  | n+1=>bD 2 (aO (sIf (cI (eB aY (aB (eV 1) (aB (bB (aB (eC (.ty "tuple")) (aB (eC (.ty "list")) (aE)))) (aE))))) (aO (sIf (eq (bi (cI (eB aY (aB (eV 0) (aB (bB (aB (eC (.ty "tuple")) (aB (eC (.ty "list")) (aE)))) (aE)))))) (tOf (aJ (lv dNe) (eB aY (aB (eV 0) (aB (eC (.ty "list")) (aE)))) (eB aY (aB (eV 1) (aB (eC (.ty "list")) (aE))))))) (aq (eC (.bool false))) (bQ))
  (aO (sIf (tOf (aJ (lv dNe) (eB bF (aB (eV 0) (aE))) (eB bF (aB (eV 1) (aE))))) (aq (eC (.bool false))) (bQ))
  (aq (aJ (lv dEq) (cD (c7 (aB (eB bF (aB (eV 1) (aE))) (aE))) (gV 3) (bi (cI (aN 2 (aj n) (aB (aJ fIx (eV 0) (eV 3)) (aB (aJ fIx (eV 1) (eV 3)) (aE)))))) (eV 3) [3]) (cS (aE)))))) (bQ))
  (aO (ao 2 (fz (aJ (lv dEq) (eB aY (aB (eV 0) (aB (eC (.ty "bool")) (aE)))) (eB aY (aB (eV 1) (aB (eC (.ty "bool")) (aE))))) (aJ (lv dEq) (eB aY (aB (eV 0) (aB (eC (.ty "int")) (aE)))) (eB aY (aB (eV 1) (aB (eC (.ty "int")) (aE)))))))
  (aq (fz (eV 2) (aJ (lv dEq) (eV 0) (eV 1))))))
theorem eW {P:Program} {w:World} {K:PySem.W.Frag} {mg:Str→Option Value} {base:Heap} (G:Gx P w K mg base):∀n:Nat,FnE P w K mg base (n+1) (He.ga K "_law_same") ["_law_found","_law_due"] (aj n)
  | 0=>by
    obtain ⟨fd,F⟩:=G.f_law_same
    have h:FnE P w K mg base 1 (He.ga K "_law_same") ["_law_found","_law_due"] (bD 2 eA):=by
      refine ⟨fd,?_⟩
      refine bE (N:=N_law_same) (st:=jO) (k:=0) F ⟨rfl,rfl,rfl,by decide +kernel,rfl,by decide +kernel,by decide +kernel⟩ rfl (fun _ _ _ _ _ _ us hl=>match us,hl with|[_,_],_=>rfl) fun cdv A outer s H E hcd hp hr W tk=>?_
      exact gX
    rw[Nat.zero_add]
    exact h
  | n+1=>by
    have ih:=eW G n
    obtain ⟨fd,F⟩:=G.f_law_same
    have fx:=G.fx
    have h:FnE P w K mg base (n+1+1) (He.ga K "_law_same") ["_law_found","_law_due"] (aj (n+1)):=by
      refine ⟨fd,?_⟩
      refine bE (N:=N_law_same) (st:=jO) (k:=n+1) F ⟨rfl,rfl,rfl,by decide +kernel,rfl,by decide +kernel,by decide +kernel⟩ rfl (fun _ _ _ _ _ _ us hl=>match us,hl with|[_,_],_=>rfl) fun cdv A outer s H E hcd hp hr W tk=>?_
      have nd:N_law_same.Nodup:=by decide +kernel
      have hu1:=ru1 hr
      have hu64:=dk hr
      have hu65:=dm hr
      exact (aF (a4 (bK (ai bw rfl fx.n_isinstance aG (aA (aC 1) (aA (ae (aA (bX rfl fx.n_tuple bT) (aA (bX rfl fx.n_list gU) aD))) aD)))) (aF (a4 (c6 (dg (bp (bK (ai bw rfl fx.n_isinstance aG (aA (aC 0) (aA (ae (aA (bX rfl fx.n_tuple bT) (aA (bX rfl fx.n_list gU) aD))) aD))))) (dY (aX (gp hu64) (ai bw rfl fx.n_isinstance aG (aA (aC 0) (aA (bX rfl fx.n_list gU) aD))) (ai bw rfl fx.n_isinstance aG (aA (aC 1) (aA (bX rfl fx.n_list gU) aD))) (by with_unfolding_all rfl))))) (aK (aQ cY)) aS)
    (aF (a4 (aX (gp hu64) (ai cx rfl fx.n_len bx (aA (aC 0) aD)) (ai cx rfl fx.n_len bx (aA (aC 1) aD)) (by with_unfolding_all rfl)) (aK (aQ cY)) aS)
    (aK (aQ (dz (dG hu64) (cO (own:=[("_law_k",3)]) rfl nd (eT rfl fx.n_range (aA (ai cx rfl fx.n_len bx (aA (aC 1) aD)) aD)) (blkOk_by (by kernel_rfl)) (fun _ _ _ _ _=>(bG (i:=3) nd rfl (by first|exact .inl rfl|exact .inr rfl) (by decide))) (fun _ _ _ _ _=>(je (bp (bK (aM (ps:=["_law_found","_law_due"]) (m:=(aj n)) ih hr fx.d__law_same takes0 (aA (ak hu1 (aC 0) (aC 3)) (aA (ak hu1 (aC 1) (aC 3)) aD))))))) (fun _ _ _ _ _=>(aC 3))) (bL aD) (by with_unfolding_all rfl)))))) aS)
    (aF (aW (i:=2) nd rfl (by first|exact .inl rfl|exact .inr rfl) (co (dz (dG hu64) (ai bw rfl fx.n_isinstance aG (aA (aC 0) (aA (bX rfl fx.n_bool jf) aD))) (ai bw rfl fx.n_isinstance aG (aA (aC 1) (aA (bX rfl fx.n_bool jf) aD))) (by with_unfolding_all rfl)) (fW (dz (dG hu64) (ai bw rfl fx.n_isinstance aG (aA (aC 0) (aA (bX rfl fx.n_int io) aD))) (ai bw rfl fx.n_isinstance aG (aA (aC 1) (aA (bX rfl fx.n_int io) aD))) (by with_unfolding_all rfl)))))
    (aK (aQ (co (aC 2) (fW (dz (dG hu64) (aC 0) (aC 1) (by with_unfolding_all rfl))))))))
    rw[show n+1+1=n+1+1 by omega]
    exact h
abbrev ny:Stmt:=(top 53)
abbrev N_law_text:List Str:=["_law_deeds_here","_law_rows","_law_deed","_law_words","_law_part","_law_rides","_law_day","_law_number"]
def kJ:MS:=aO (ao 1 (iB (aE)))
  (aO (eR (dj (eV 0)) (gV 2) (aO (ao 3 (iB (aB (aJ fIx (eV 2) (eC (.int 0))) (aE))))
  (aO (eR (dj (fm (eV 2) (cR (eC (.int 1))) (pNo))) (gV 4) (sIf (cI (eB aY (aB (eV 4) (aB (eC (.ty "tuple")) (aE))))) (aO (ao 5 (eIf (cI (eB aY (aB (aJ fIx (eV 4) (eC (.int 0))) (aB (eC (.ty "int")) (aE))))) (cS (aB (eV 4) (aE))) (eB nT (aB (eV 4) (aE)))))
  (fB (eM bS bH (eV 3) (aB (eM bM fi (eC (.str ",")) (aB (cD (dj (eV 5)) (cp 2 (ar (gV 6) (ar (gV 7) (cz)))) (bv) (aJ (lv0 am) (aJ (lv0 am) (eB gk (aB (eV 6) (aE))) (eC (.str ":"))) (eB gk (aB (eV 7) (aE)))) [6,7]) (aE))) (aE))))) (fB (eM bS bH (eV 3) (aB (eB gk (aB (eV 4) (aE))) (aE))))))
  (fB (eM bS bH (eV 1) (aB (eM bM fi (eC (.str " ")) (aB (eV 3) (aE))) (aE)))))))
  (aq (eM bM fi (eC (.str "\n")) (aB (eV 1) (aE)))))
def b4:MF:=bD 7 kJ
theorem jP {P:Program} {w:World} {K:PySem.W.Frag} {mg:Str→Option Value} {base:Heap} (G:Gx P w K mg base):FnE P w K mg base 1 (He.ga K "_law_text") ["_law_deeds_here"] b4:=by
  obtain ⟨fd,F⟩:=G.f_law_text
  have fx:=G.fx
  refine ⟨fd,?_⟩
  refine bE (N:=N_law_text) (st:=ny) (k:=0) F ⟨rfl,rfl,rfl,by decide +kernel,rfl,by decide +kernel,by decide +kernel⟩ rfl (fun _ _ _ _ _ _ us hl=>match us,hl with|[_],_=>rfl) fun cdv A outer s H E hcd hp hr W tk=>?_
  have nd:N_law_text.Nodup:=by decide +kernel
  have hu1:=ru1 hr
  have hu64:=dk hr
  have hu65:=dm hr
  exact (aF (aW (i:=1) nd rfl (by first|exact .inl rfl|exact .inr rfl) (gQ aD))
    (aF (eE hp rfl (cf (aC 0)) (bo (i:=2) nd rfl (by first|exact .inl rfl|exact .inr rfl)) (aF (aW (i:=3) nd rfl (by first|exact .inl rfl|exact .inr rfl) (gQ (aA (ak hu1 (aC 2) aH) aD)))
    (aF (eE hp rfl (cf (fV (aC 2) (dC aH) jE)) (bo (i:=4) nd rfl (by first|exact .inl rfl|exact .inr rfl)) (aK (a4 (bK (ai bw rfl fx.n_isinstance aG (aA (aC 4) (aA (bX rfl fx.n_tuple bT) aD)))) (aF (aW (i:=5) nd rfl (by first|exact .inl rfl|exact .inr rfl) (f6 (bK (ai bw rfl fx.n_isinstance aG (aA (ak hu1 (aC 4) aH) (aA (bX rfl fx.n_int io) aD)))) (bL (aA (aC 4) aD)) (f8 c_list rfl fx.n_list gU (aA (aC 4) aD))))
    (aK (eS (fE gA PySem.F.plainAttrs_list PySem.F.slot_list_append PySem.F.type_list_append fF (aC 3) (aA (fE eG PySem.F.plainAttrs_str PySem.F.slot_str_join PySem.F.type_str_join iu aL (aA (cO (own:=[("_law_day",6),("_law_number",7)]) rfl nd (cf (aC 5)) (blkOk_by (by kernel_rfl)) (fun _ _ _ _ _=>(l0 rfl (dJ (bG (i:=6) nd rfl (by first|exact .inl rfl|exact .inr rfl) (by decide)) (dJ (bG (i:=7) nd rfl (by first|exact .inl rfl|exact .inr rfl) (by decide)) jd)))) (fun _ _ _ _ _=>cZ) (fun _ _ _ _ _=>(aR a9 (aR a9 (f8 qA rfl fx.n_str gB (aA (aC 6) aD)) aL) (f8 qA rfl fx.n_str gB (aA (aC 7) aD))))) aD)) aD))))) (aK (eS (fE gA PySem.F.plainAttrs_list PySem.F.slot_list_append PySem.F.type_list_append fF (aC 3) (aA (f8 qA rfl fx.n_str gB (aA (aC 4) aD)) aD)))))))
    (aK (eS (fE gA PySem.F.plainAttrs_list PySem.F.slot_list_append PySem.F.type_list_append fF (aC 1) (aA (fE eG PySem.F.plainAttrs_str PySem.F.slot_str_join PySem.F.type_str_join iu aL (aA (aC 3) aD)) aD)))))))
    (aK (aQ (fE eG PySem.F.plainAttrs_str PySem.F.slot_str_join PySem.F.type_str_join iu aL (aA (aC 1) aD))))))
abbrev ql:Stmt:=(top 54)
abbrev N_law_is:List Str:=["_law_thing","_law_low","_law_high"]
def s7:MS:=aq (fz (eB aY (aB (eV 0) (aB (eC (.ty "int")) (aE)))) (fz (eNot (eB aY (aB (eV 0) (aB (eC (.ty "bool")) (aE))))) (f7 (lv dLe) (lv dLe) (eV 1) (eV 0) (eV 2))))
def dN:MF:=bD 0 s7
theorem i3 {P:Program} {w:World} {K:PySem.W.Frag} {mg:Str→Option Value} {base:Heap} (G:Gx P w K mg base):FnE P w K mg base 1 (He.ga K "_law_is") ["_law_thing","_law_low","_law_high"] dN:=by
  obtain ⟨fd,F⟩:=G.f_law_is
  have fx:=G.fx
  refine ⟨fd,?_⟩
  refine bE (N:=N_law_is) (st:=ql) (k:=0) F ⟨rfl,rfl,rfl,by decide +kernel,rfl,by decide +kernel,by decide +kernel⟩ rfl (fun _ _ _ _ _ _ us hl=>match us,hl with|[_,_,_],_=>rfl) fun cdv A outer s H E hcd hp hr W tk=>?_
  have nd:N_law_is.Nodup:=by decide +kernel
  have hu1:=ru1 hr
  have hu64:=dk hr
  have hu65:=dm hr
  exact (aK (aQ (co (ai bw rfl fx.n_isinstance aG (aA (aC 0) (aA (bX rfl fx.n_int io) aD))) (co (rW (ai bw rfl fx.n_isinstance aG (aA (aC 0) (aA (bX rfl fx.n_bool jf) aD)))) (fW (nH oU oU (aC 1) (aC 0) (aC 2)))))))
abbrev kK:Stmt:=(top 55)
abbrev N_law_is_ride:List Str:=["_law_thing"]
def k4:MS:=aO (sIf (eq (bi (cI (eB aY (aB (eV 0) (aB (eC (.ty "tuple")) (aE)))))) (tOf (aJ (lv dNe) (eB bF (aB (eV 0) (aE))) (eC (.int 2))))) (aq (eC (.bool false))) (bQ))
  (aq (fz (aN 3 dN (aB (aJ fIx (eV 0) (eC (.int 0))) (aB (eC (.int 0)) (aB (eC (.int 60)) (aE))))) (aN 3 dN (aB (aJ fIx (eV 0) (eC (.int 1))) (aB (eC (.int 1)) (aB (eC (.int 9999)) (aE)))))))
def cA:MF:=bD 0 k4
theorem gF {P:Program} {w:World} {K:PySem.W.Frag} {mg:Str→Option Value} {base:Heap} (G:Gx P w K mg base):FnE P w K mg base 2 (He.ga K "_law_is_ride") ["_law_thing"] cA:=by
  obtain ⟨fd,F⟩:=G.f_law_is_ride
  have fx:=G.fx
  refine ⟨fd,?_⟩
  refine bE (N:=N_law_is_ride) (st:=kK) (k:=1) F ⟨rfl,rfl,rfl,by decide +kernel,rfl,by decide +kernel,by decide +kernel⟩ rfl (fun _ _ _ _ _ _ us hl=>match us,hl with|[_],_=>rfl) fun cdv A outer s H E hcd hp hr W tk=>?_
  have nd:N_law_is_ride.Nodup:=by decide +kernel
  have hu1:=ru1 hr
  have hu64:=dk hr
  have hu65:=dm hr
  exact (aF (a4 (c6 (dg (bp (bK (ai bw rfl fx.n_isinstance aG (aA (aC 0) (aA (bX rfl fx.n_tuple bT) aD))))) (dY (aX (gp hu64) (ai cx rfl fx.n_len bx (aA (aC 0) aD)) aH (by with_unfolding_all rfl))))) (aK (aQ cY)) aS)
    (aK (aQ (co (aM (ps:=["_law_thing","_law_low","_law_high"]) (m:=dN) (i3 G) (hr.mono (by decide)) fx.d__law_is tk (aA (ak hu1 (aC 0) aH) (aA aH (aA aH aD)))) (fW (aM (ps:=["_law_thing","_law_low","_law_high"]) (m:=dN) (i3 G) (hr.mono (by decide)) fx.d__law_is tk (aA (ak hu1 (aC 0) aH) (aA aH (aA aH aD)))))))))
abbrev nz:Stmt:=(top 56)
abbrev N_law_fits:List Str:=["_law_thing","_law_sign","_law_one"]
def kL:MS:=aO (sIf (tOf (aJ (lv dEq) (eV 1) (eC (.str "r")))) (aq (aN 1 cA (aB (eV 0) (aE)))) (bQ))
  (aO (sIf (tOf (aJ (lv dEq) (eV 1) (eC (.str "v")))) (aq (fz (eB aY (aB (eV 0) (aB (eC (.ty "tuple")) (aE)))) (fz (aJ (lv dNe) (eV 0) (bB (aE))) (aJ (lv dEq) (cD (dj (eV 0)) (gV 2) (bi (cI (aN 1 cA (aB (eV 2) (aE))))) (eV 2) [2]) (cS (aE)))))) (bQ))
  (aO (sIf (tOf (aJ (lv dEq) (eV 1) (eC (.str "n")))) (aq (aN 3 dN (aB (eV 0) (aB (eC (.int 0)) (aB (eC (.int 999999)) (aE)))))) (bQ))
  (aO (sIf (eq (bi (cI (eB aY (aB (eV 0) (aB (eC (.ty "str")) (aE)))))) (tOf (aJ (lv dEq) (eV 0) (eC (.str ""))))) (aq (eC (.bool false))) (bQ))
  (aq (aJ (lv dEq) (cD (dj (eV 0)) (gV 2) (tOf (aJ fU (eV 2) (eC (.str "abcdefghijklmnopqrstuvwxyz")))) (eV 2) [2]) (cS (aE)))))))
def eK:MF:=bD 1 kL
theorem n4 {P:Program} {w:World} {K:PySem.W.Frag} {mg:Str→Option Value} {base:Heap} (G:Gx P w K mg base):FnE P w K mg base 3 (He.ga K "_law_fits") ["_law_thing","_law_sign"] eK:=by
  obtain ⟨fd,F⟩:=G.f_law_fits
  have fx:=G.fx
  refine ⟨fd,?_⟩
  refine bE (N:=N_law_fits) (st:=nz) (k:=2) F ⟨rfl,rfl,rfl,by decide +kernel,rfl,by decide +kernel,by decide +kernel⟩ rfl (fun _ _ _ _ _ _ us hl=>match us,hl with|[_,_],_=>rfl) fun cdv A outer s H E hcd hp hr W tk=>?_
  have nd:N_law_fits.Nodup:=by decide +kernel
  have hu1:=ru1 hr
  have hu64:=dk hr
  have hu65:=dm hr
  exact (aF (a4 (aX (dG hu64) (aC 1) aL (by with_unfolding_all rfl)) (aK (aQ (aM (ps:=["_law_thing"]) (m:=cA) (gF G) (hr.mono (by decide)) fx.d__law_is_ride tk (aA (aC 0) aD)))) aS)
    (aF (a4 (aX (dG hu64) (aC 1) aL (by with_unfolding_all rfl)) (aK (aQ (co (ai bw rfl fx.n_isinstance aG (aA (aC 0) (aA (bX rfl fx.n_tuple bT) aD))) (co (dz (gp hu64) (aC 0) (ae aD) (by with_unfolding_all rfl)) (fW (dz (dG hu64) (cO (own:=[("_law_one",2)]) rfl nd (cf (aC 0)) (blkOk_by (by kernel_rfl)) (fun _ _ _ _ _=>(bG (i:=2) nd rfl (by first|exact .inl rfl|exact .inr rfl) (by decide))) (fun _ _ _ _ _=>(je (bp (bK (aM (ps:=["_law_thing"]) (m:=cA) (gF G) (hr.mono (by decide)) fx.d__law_is_ride takes0 (aA (aC 2) aD)))))) (fun _ _ _ _ _=>(aC 2))) (bL aD) (by with_unfolding_all rfl))))))) aS)
    (aF (a4 (aX (dG hu64) (aC 1) aL (by with_unfolding_all rfl)) (aK (aQ (aM (ps:=["_law_thing","_law_low","_law_high"]) (m:=dN) (i3 G) (hr.mono (by decide)) fx.d__law_is tk (aA (aC 0) (aA aH (aA aH aD)))))) aS)
    (aF (a4 (c6 (dg (bp (bK (ai bw rfl fx.n_isinstance aG (aA (aC 0) (aA (bX rfl fx.n_str gB) aD))))) (dY (aX (dG hu64) (aC 0) aL (by with_unfolding_all rfl))))) (aK (aQ cY)) aS)
    (aK (aQ (dz (dG hu64) (cO (own:=[("_law_one",2)]) rfl nd (cf (aC 0)) (blkOk_by (by kernel_rfl)) (fun _ _ _ _ _=>(bG (i:=2) nd rfl (by first|exact .inl rfl|exact .inr rfl) (by decide))) (fun _ _ _ _ _=>(je (aX (ph hu65) (aC 2) aL (by with_unfolding_all rfl)))) (fun _ _ _ _ _=>(aC 2))) (bL aD) (by with_unfolding_all rfl))))))))
abbrev pH:Stmt:=(top 57)
abbrev N_law_bad:List Str:=["_law_deeds_here","_law_shapes","_law_k","_law_deed","_law_signs","_law_j"]
def lR:MS:=aO (ao 1 (jL [(eC (.str "fly"),eC (.str "rw")),(eC (.str "sell"),eC (.str "wvw")),(eC (.str "back"),eC (.str "n")),(eC (.str "away"),eC (.str "n")),(eC (.str "late"),eC (.str "rn")),(eC (.str "off"),eC (.str "r")),(eC (.str "kind"),eC (.str "ww"))]))
  (aO (fB (eM j1 nl (eV 1) (aB (jL [(eC (.str "turn"),eC (.str "n")),(eC (.str "mend"),eC (.str "n"))]) (aE))))
  (aO (eR (c7 (aB (eB bF (aB (eV 0) (aE))) (aE))) (gV 2) (aO (ao 3 (aJ fIx (eV 0) (eV 2)))
  (aO (sIf (eq (bi (cI (eB aY (aB (eV 3) (aB (eC (.ty "tuple")) (aE)))))) (eq (tOf (aJ (lv dEq) (eV 3) (bB (aE)))) (eq (bi (cI (eB aY (aB (aJ fIx (eV 3) (eC (.int 0))) (aB (eC (.ty "str")) (aE)))))) (tOf (aJ fU (aJ fIx (eV 3) (eC (.int 0))) (eV 1)))))) (aq (eV 2)) (bQ))
  (sIf (tOf (aJ (lv dNe) (eB bF (aB (eV 3) (aE))) (aJ (lv0 am) (eB bF (aB (aJ fIx (eV 1) (aJ fIx (eV 3) (eC (.int 0)))) (aE))) (eC (.int 1))))) (aq (eV 2)) (bQ)))))
  (aO (eR (c7 (aB (eB bF (aB (eV 0) (aE))) (aE))) (gV 2) (aO (ao 4 (aJ fIx (eV 1) (aJ fIx (aJ fIx (eV 0) (eV 2)) (eC (.int 0)))))
  (sIf (tOf (aJ (lv dNe) (cD (c7 (aB (eB bF (aB (eV 4) (aE))) (aE))) (gV 5) (bi (cI (aN 2 eK (aB (aJ fIx (aJ fIx (eV 0) (eV 2)) (aJ (lv0 am) (eC (.int 1)) (eV 5))) (aB (aJ fIx (eV 4) (eV 5)) (aE)))))) (eV 5) [5]) (cS (aE)))) (aq (eV 2)) (bQ))))
  (aq (eC .none)))))
def dA:MF:=bD 5 lR
theorem pI {P:Program} {w:World} {K:PySem.W.Frag} {mg:Str→Option Value} {base:Heap} (G:Gx P w K mg base):FnE P w K mg base 4 (He.ga K "_law_bad") ["_law_deeds_here"] dA:=by
  obtain ⟨fd,F⟩:=G.f_law_bad
  have fx:=G.fx
  refine ⟨fd,?_⟩
  refine bE (N:=N_law_bad) (st:=pH) (k:=3) F ⟨rfl,rfl,rfl,by decide +kernel,rfl,by decide +kernel,by decide +kernel⟩ rfl (fun _ _ _ _ _ _ us hl=>match us,hl with|[_],_=>rfl) fun cdv A outer s H E hcd hp hr W tk=>?_
  have nd:N_law_bad.Nodup:=by decide +kernel
  have hu1:=ru1 hr
  have hu64:=dk hr
  have hu65:=dm hr
  exact (aF (aW (i:=1) nd rfl (by first|exact .inl rfl|exact .inr rfl) (qC (r:=[(eC (.str "fly"),eC (.str "rw")),(eC (.str "sell"),eC (.str "wvw")),(eC (.str "back"),eC (.str "n")),(eC (.str "away"),eC (.str "n")),(eC (.str "late"),eC (.str "rn")),(eC (.str "off"),eC (.str "r")),(eC (.str "kind"),eC (.str "ww"))]) (pps_cons aL aL (pps_cons aL aL (pps_cons aL aL (pps_cons aL aL (pps_cons aL aL (pps_cons aL aL (pps_cons aL aL pps_nil)))))))))
    (aF (eS (fE ty_dct PySem.F.plainAttrs_dict PySem.F.slot_dict_update PySem.F.type_dict_update m_updD (aC 1) (aA (qC (r:=[(eC (.str "turn"),eC (.str "n")),(eC (.str "mend"),eC (.str "n"))]) (pps_cons aL aL (pps_cons aL aL pps_nil))) aD)))
    (aF (eE hp rfl (eT rfl fx.n_range (aA (ai cx rfl fx.n_len bx (aA (aC 0) aD)) aD)) (bo (i:=2) nd rfl (by first|exact .inl rfl|exact .inr rfl)) (aF (aW (i:=3) nd rfl (by first|exact .inl rfl|exact .inr rfl) (ak hu1 (aC 0) (aC 2)))
    (aF (a4 (c6 (dg (bp (bK (ai bw rfl fx.n_isinstance aG (aA (aC 3) (aA (bX rfl fx.n_tuple bT) aD))))) (dg (aX (dG hu64) (aC 3) (ae aD) (by with_unfolding_all rfl)) (dg (bp (bK (ai bw rfl fx.n_isinstance aG (aA (ak hu1 (aC 3) aH) (aA (bX rfl fx.n_str gB) aD))))) (dY (aX (ph hu65) (ak hu1 (aC 3) aH) (aC 1) (by with_unfolding_all rfl))))))) (aK (aQ (aC 2))) aS)
    (aK (a4 (aX (gp hu64) (ai cx rfl fx.n_len bx (aA (aC 3) aD)) (aR a9 (ai cx rfl fx.n_len bx (aA (ak hu1 (aC 1) (ak hu1 (aC 3) aH)) aD)) aH) (by with_unfolding_all rfl)) (aK (aQ (aC 2))) aS)))))
    (aF (eE hp rfl (eT rfl fx.n_range (aA (ai cx rfl fx.n_len bx (aA (aC 0) aD)) aD)) (bo (i:=2) nd rfl (by first|exact .inl rfl|exact .inr rfl)) (aF (aW (i:=4) nd rfl (by first|exact .inl rfl|exact .inr rfl) (ak hu1 (aC 1) (ak hu1 (ak hu1 (aC 0) (aC 2)) aH)))
    (aK (a4 (aX (gp hu64) (cO (own:=[("_law_j",5)]) rfl nd (eT rfl fx.n_range (aA (ai cx rfl fx.n_len bx (aA (aC 4) aD)) aD)) (blkOk_by (by kernel_rfl)) (fun _ _ _ _ _=>(bG (i:=5) nd rfl (by first|exact .inl rfl|exact .inr rfl) (by decide))) (fun _ _ _ _ _=>(je (bp (bK (aM (ps:=["_law_thing","_law_sign"]) (m:=eK) (n4 G) (hr.mono (by decide)) fx.d__law_fits takes0 (aA (ak hu1 (ak hu1 (aC 0) (aC 2)) (aR a9 aH (aC 5))) (aA (ak hu1 (aC 4) (aC 5)) aD))))))) (fun _ _ _ _ _=>(aC 5))) (bL aD) (by with_unfolding_all rfl)) (aK (aQ (aC 2))) aS))))
    (aK (aQ cN))))))
abbrev mR:Stmt:=(top 49)
abbrev N_law_drawn:List Str:=["_law_state","_law_many","_law_found","_law_cell"]
def dO:MS:=aO (sIf (tOf (aJ (lv dGt) (aJ fIx (eV 0) (eC (.int 3))) (eC (.int 0)))) (aO (ao 2 (aJ (lv dMod) (aJ fIx (eV 0) (eC (.int 3))) (eV 1)))
  (aO (nI (aJ (lv dDiv) (aJ fIx (eV 0) (eC (.int 3))) (eV 1)) (j2 (eV 0) (eC (.int 3))))
  (aq (eV 2)))) (bQ))
  (aO (nI (aJ (lv0 am) (aJ fIx (eV 0) (eC (.int 1))) (eC (.int 1))) (j2 (eV 0) (eC (.int 1))))
  (aO (sIf (tOf (aJ (lv dLe) (aJ fIx (eV 0) (eC (.int 1))) (eB bF (aB (aJ fIx (eV 0) (eC (.int 0))) (aE))))) (aO (ao 3 (aJ fIx (aJ fIx (eV 0) (eC (.int 0))) (aJ (lv dSub) (aJ fIx (eV 0) (eC (.int 1))) (eC (.int 1)))))
  (aO (nI (eIf (tOf (aJ (lv dGe) (eV 3) (aJ (lv dPow) (eC (.int 10)) (eC (.int 18))))) (aJ (lv dDiv) (eV 3) (eV 1)) (eC (.int 0))) (j2 (eV 0) (eC (.int 3))))
  (aq (aJ (lv dMod) (eV 3) (eV 1))))) (bQ))
  (aO (nI (aJ (lv dMod) (aJ (lv0 am) (aJ (lv rN) (aJ fIx (eV 0) (eC (.int 2))) (eC (.int 48271))) (eC (.int 11))) (eC (.int 2147483647))) (j2 (eV 0) (eC (.int 2))))
  (aq (aJ (lv dMod) (aJ (lv dDiv) (aJ fIx (eV 0) (eC (.int 2))) (eC (.int 7))) (eV 1))))))
def aI:MF:=bD 2 dO
theorem aT {P:Program} {w:World} {K:PySem.W.Frag} {mg:Str→Option Value} {base:Heap} (G:Gx P w K mg base):FnE P w K mg base 1 (He.ga K "_law_drawn") ["_law_state","_law_many"] aI:=by
  obtain ⟨fd,F⟩:=G.f_law_drawn
  have fx:=G.fx
  refine ⟨fd,?_⟩
  refine bE (N:=N_law_drawn) (st:=mR) (k:=0) F ⟨rfl,rfl,rfl,by decide +kernel,rfl,by decide +kernel,by decide +kernel⟩ rfl (fun _ _ _ _ _ _ us hl=>match us,hl with|[_,_],_=>rfl) fun cdv A outer s H E hcd hp hr W tk=>?_
  have nd:N_law_drawn.Nodup:=by decide +kernel
  have hu1:=ru1 hr
  have hu64:=dk hr
  have hu65:=dm hr
  exact (aF (a4 (aX o_gt (ak hu1 (aC 0) aH) aH (by with_unfolding_all rfl)) (aF (aW (i:=2) nd rfl (by first|exact .inl rfl|exact .inr rfl) (aR m9 (ak hu1 (aC 0) aH) (aC 1)))
    (aF (jv (aR rR (ak hu1 (aC 0) aH) (aC 1)) (l9 hu1 (aC 0) aH))
    (aK (aQ (aC 2))))) aS)
    (aF (jv (aR a9 (ak hu1 (aC 0) aH) aH) (l9 hu1 (aC 0) aH))
    (aF (a4 (aX oU (ak hu1 (aC 0) aH) (ai cx rfl fx.n_len bx (aA (ak hu1 (aC 0) aH) aD)) (by with_unfolding_all rfl)) (aF (aW (i:=3) nd rfl (by first|exact .inl rfl|exact .inr rfl) (ak hu1 (ak hu1 (aC 0) aH) (aR rO (ak hu1 (aC 0) aH) aH)))
    (aF (jv (f6 (aX o_ge (aC 3) (aR o_pow aH aH) (by with_unfolding_all rfl)) (aR rR (aC 3) (aC 1)) aH) (l9 hu1 (aC 0) aH))
    (aK (aQ (aR m9 (aC 3) (aC 1)))))) aS)
    (aF (jv (aR m9 (aR a9 (aR rQ (ak hu1 (aC 0) aH) aH) aH) aH) (l9 hu1 (aC 0) aH))
    (aK (aQ (aR m9 (aR rR (ak hu1 (aC 0) aH) aH) (aC 1))))))))
abbrev iS:Stmt:=(top 58)
abbrev N_law_other:List Str:=["_law_state","_law_thing","_law_some","_law_k"]
def bY:Nat→MF
  | 0=>bD 2 eA
  | n+1=>bD 2 (aO (ao 2 (cS (aB (aJ (lv dSub) (eC (.int 0)) (eC (.int 1))) (aB (eC (.int 0)) (aB (eC (.int 60)) (aB (eC (.int 61)) (aB (eC (.int 9999)) (aB (eC (.int 10000)) (aB (eC (.int 999999)) (aB (eC (.int 1000000)) (aB (eC (.bool true)) (aB (eC .none) (aB (eC (.str "")) (aB (eC (.str "A")) (aB (eC (.str "x")) (aB (eC (.str "fly")) (aB (bB (aE)) (aB (bB (aB (bB (aB (eC (.int 0)) (aB (eC (.int 1)) (aE)))) (aE))) (aB (bB (aB (eC (.int 0)) (aB (eC (.int 1)) (aE)))) (aB (cS (aB (eC (.int 0)) (aE))) (aE)))))))))))))))))))))
  (aO (ao 2 (aJ (lv0 am) (eV 2) (cS (aB (bB (aB (eC (.int 61)) (aB (eC (.int 1)) (aE)))) (aB (bB (aB (bB (aB (eC (.int 3)) (aB (eC (.int 4)) (aE)))) (aB (bB (aB (eC (.int 61)) (aB (eC (.int 5)) (aE)))) (aE)))) (aB (bB (aB (eC (.int 60)) (aB (eC (.int 9999)) (aE)))) (aB (bB (aB (eC (.int 60)) (aB (eC (.int 10000)) (aE)))) (aE))))))))
  (aO (sIf (eq (bi (cI (eB aY (aB (eV 1) (aB (eC (.ty "tuple")) (aE)))))) (tOf (aJ (lv dEq) (aN 2 aI (aB (eV 0) (aB (eC (.int 6)) (aE)))) (eC (.int 0))))) (aq (aJ fIx (eV 2) (aN 2 aI (aB (eV 0) (aB (eB bF (aB (eV 2) (aE))) (aE)))))) (bQ))
  (aO (ao 3 (aN 2 aI (aB (eV 0) (aB (aJ (lv0 am) (eB bF (aB (eV 1) (aE))) (eC (.int 1))) (aE)))))
  (aO (sIf (tOf (aJ (lv dEq) (eV 3) (eB bF (aB (eV 1) (aE))))) (aq (aJ fIx (cS (aB (fm (eV 1) (pNo) (cR (aJ (lv dSub) (eC (.int 0)) (eC (.int 1))))) (aB (aJ (lv0 am) (eV 1) (fm (eV 1) (pNo) (cR (eC (.int 1))))) (aE)))) (aN 2 aI (aB (eV 0) (aB (eC (.int 2)) (aE)))))) (bQ))
  (aq (aJ (lv0 am) (aJ (lv0 am) (fm (eV 1) (pNo) (cR (eV 3))) (bB (aB (aN 2 (bY n) (aB (eV 0) (aB (aJ fIx (eV 1) (eV 3)) (aE)))) (aE)))) (fm (eV 1) (cR (aJ (lv0 am) (eV 3) (eC (.int 1)))) (pNo)))))))))
theorem iT {P:Program} {w:World} {K:PySem.W.Frag} {mg:Str→Option Value} {base:Heap} (G:Gx P w K mg base):∀n:Nat,FnE P w K mg base (n+2) (He.ga K "_law_other") ["_law_state","_law_thing"] (bY n)
  | 0=>by
    obtain ⟨fd,F⟩:=G.f_law_other
    have h:FnE P w K mg base 2 (He.ga K "_law_other") ["_law_state","_law_thing"] (bD 2 eA):=by
      refine ⟨fd,?_⟩
      refine bE (N:=N_law_other) (st:=iS) (k:=1) F ⟨rfl,rfl,rfl,by decide +kernel,rfl,by decide +kernel,by decide +kernel⟩ rfl (fun _ _ _ _ _ _ us hl=>match us,hl with|[_,_],_=>rfl) fun cdv A outer s H E hcd hp hr W tk=>?_
      exact gX
    rw[Nat.zero_add]
    exact h
  | n+1=>by
    have ih:=iT G n
    obtain ⟨fd,F⟩:=G.f_law_other
    have fx:=G.fx
    have h:FnE P w K mg base (n+2+1) (He.ga K "_law_other") ["_law_state","_law_thing"] (bY (n+1)):=by
      refine ⟨fd,?_⟩
      refine bE (N:=N_law_other) (st:=iS) (k:=n+2) F ⟨rfl,rfl,rfl,by decide +kernel,rfl,by decide +kernel,by decide +kernel⟩ rfl (fun _ _ _ _ _ _ us hl=>match us,hl with|[_,_],_=>rfl) fun cdv A outer s H E hcd hp hr W tk=>?_
      have nd:N_law_other.Nodup:=by decide +kernel
      have hu1:=ru1 hr
      have hu64:=dk hr
      have hu65:=dm hr
      exact (aF (aW (i:=2) nd rfl (by first|exact .inl rfl|exact .inr rfl) (bL (aA (aR rO aH aH) (aA aH (aA aH (aA aH (aA aH (aA aH (aA aH (aA aH (aA cY (aA cN (aA aL (aA aL (aA aL (aA aL (aA (ae aD) (aA (ae (aA (ae (aA aH (aA aH aD))) aD)) (aA (ae (aA aH (aA aH aD))) (aA (bL (aA aH aD)) aD))))))))))))))))))))
    (aF (aW (i:=2) nd rfl (by first|exact .inl rfl|exact .inr rfl) (aR a9 (aC 2) (bL (aA (ae (aA aH (aA aH aD))) (aA (ae (aA (ae (aA aH (aA aH aD))) (aA (ae (aA aH (aA aH aD))) aD))) (aA (ae (aA aH (aA aH aD))) (aA (ae (aA aH (aA aH aD))) aD)))))))
    (aF (a4 (c6 (dg (bp (bK (ai bw rfl fx.n_isinstance aG (aA (aC 1) (aA (bX rfl fx.n_tuple bT) aD))))) (dY (aX (dG hu64) (aM (ps:=["_law_state","_law_many"]) (m:=aI) (aT G) (hr.mono (by omega)) fx.d__law_drawn tk (aA (aC 0) (aA aH aD))) aH (by with_unfolding_all rfl))))) (aK (aQ (ak hu1 (aC 2) (aM (ps:=["_law_state","_law_many"]) (m:=aI) (aT G) (hr.mono (by omega)) fx.d__law_drawn tk (aA (aC 0) (aA (ai cx rfl fx.n_len bx (aA (aC 2) aD)) aD)))))) aS)
    (aF (aW (i:=3) nd rfl (by first|exact .inl rfl|exact .inr rfl) (aM (ps:=["_law_state","_law_many"]) (m:=aI) (aT G) (hr.mono (by omega)) fx.d__law_drawn tk (aA (aC 0) (aA (aR a9 (ai cx rfl fx.n_len bx (aA (aC 1) aD)) aH) aD))))
    (aF (a4 (aX (dG hu64) (aC 3) (ai cx rfl fx.n_len bx (aA (aC 1) aD)) (by with_unfolding_all rfl)) (aK (aQ (ak hu1 (bL (aA (fV (aC 1) jE (dC (aR rO aH aH))) (aA (aR a9 (aC 1) (fV (aC 1) jE (dC aH))) aD))) (aM (ps:=["_law_state","_law_many"]) (m:=aI) (aT G) (hr.mono (by omega)) fx.d__law_drawn tk (aA (aC 0) (aA aH aD)))))) aS)
    (aK (aQ (aR a9 (aR a9 (fV (aC 1) jE (dC (aC 3))) (ae (aA (aM (ps:=["_law_state","_law_thing"]) (m:=(bY n)) ih hr fx.d__law_other tk (aA (aC 0) (aA (ak hu1 (aC 1) (aC 3)) aD))) aD))) (fV (aC 1) (dC (aR a9 (aC 3) aH)) jE)))))))))
    rw[show n+1+2=n+2+1 by omega]
    exact h
theorem iU {P:Program} {w:World} {K:PySem.W.Frag} {mg:Str→Option Value} {base:Heap} (G:Gx P w K mg base):∃fd,FnOk P w K mg base C8.CX0 1 (He.ma K (He.ga K "BadText") "__init__") fd ["self","row"] (spI (He.ga K "BadText") ["row"])∧Binds K fd ["self","row"] []:=by
  obtain ⟨fd,F⟩:=G.f_BadText_init__
  have fx:=G.fx
  exact ⟨fd,nX (k:=0) fx.e_BadText F ⟨rfl,rfl,rfl,by decide +kernel,rfl,by decide +kernel,by decide +kernel⟩ fx.d_AirError rfl rfl (fun _ _=>⟨plainOf _ _,rfl⟩),F.bindsN (fun _ _ _ _ _ _ us hl=>match us,hl with|[_,_],_=>rfl)⟩
abbrev mS:Stmt:=(top 43)
abbrev N_number_of:List Str:=["word","sign"]
def jQ:MS:=aO (sIf (eq (bi (tOf (f7 (lv dLe) (lv dLe) (eC (.int 1)) (eB bF (aB (eV 0) (aE))) (eC (.int 6))))) (bi (cI (eB kh (aB (cD (dj (eV 0)) (gV 1) (bv) (aJ fIn (eV 1) (eC (.str "0123456789"))) [1]) (aE)))))) (aq (eC .none)) (bQ))
  (aq (eIf (eq (tOf (aJ (lv dEq) (eV 0) (eC (.str "0")))) (tOf (aJ (lv dNe) (aJ fIx (eV 0) (eC (.int 0))) (eC (.str "0"))))) (eB qJ (aB (eV 0) (aE))) (eC .none)))
def cK:MF:=bD 1 jQ
theorem iV {P:Program} {w:World} {K:PySem.W.Frag} {mg:Str→Option Value} {base:Heap} (G:Gx P w K mg base):FnE P w K mg base 1 (He.ga K "number_of") ["word"] cK:=by
  obtain ⟨fd,F⟩:=G.f_number_of
  have fx:=G.fx
  refine ⟨fd,?_⟩
  refine bE (N:=N_number_of) (st:=mS) (k:=0) F ⟨rfl,rfl,rfl,by decide +kernel,rfl,by decide +kernel,by decide +kernel⟩ rfl (fun _ _ _ _ _ _ us hl=>match us,hl with|[_],_=>rfl) fun cdv A outer s H E hcd hp hr W tk=>?_
  have nd:N_number_of.Nodup:=by decide +kernel
  have hu1:=ru1 hr
  have hu64:=dk hr
  have hu65:=dm hr
  exact (aF (a4 (c6 (dg (bp (rX oU oU aH (ai cx rfl fx.n_len bx (aA (aC 0) aD)) (mE fx.i_MOST_FIGURES))) (dY (bp (bK (ai (pq rfl) rfl fx.n_all mG (aA (cO (own:=[("sign",1)]) rfl nd (cf (aC 0)) (blkOk_by (by kernel_rfl)) (fun _ _ _ _ _=>(bG (i:=1) nd rfl (by first|exact .inl rfl|exact .inr rfl) (by decide))) (fun _ _ _ _ _=>cZ) (fun _ _ _ _ _=>(dz (o_in hu65) (aC 1) (mF fx.s_FIGURES) (by with_unfolding_all rfl)))) aD))))))) (aK (aQ cN)) aS)
    (aK (aQ (f6 (c6 (dg (aX (dG hu64) (aC 0) aL (by with_unfolding_all rfl)) (dY (aX (gp hu64) (ak hu1 (aC 0) aH) aL (by with_unfolding_all rfl))))) (f8 c_intS rfl fx.n_int io (aA (aC 0) aD)) cN))))
abbrev kM:Stmt:=(top 44)
abbrev N_part_of:List Str:=["word","shape","numbers","rides","one"]
def a8:Nat→MF
  | 0=>bD 3 eA
  | n+1=>bD 3 (aO (sIf (tOf (aJ (lv dEq) (eV 1) (eC (.str "n")))) (aq (aN 1 cK (aB (eV 0) (aE)))) (bQ))
  (aO (sIf (tOf (aJ (lv dEq) (eV 1) (eC (.str "r")))) (aO (ao 2 (cD (dj (eM bM de (eV 0) (aB (eC (.str ":")) (aE)))) (gV 4) (bv) (aN 1 cK (aB (eV 4) (aE))) [4]))
  (aq (eIf (pi (tOf (aJ (lv dEq) (eB bF (aB (eV 2) (aE))) (eC (.int 2)))) (cI (aN 1 bR (aB (eB jW (aB (eV 2) (aE))) (aE))))) (eB jW (aB (eV 2) (aE))) (eC .none)))) (bQ))
  (aO (sIf (tOf (aJ (lv dEq) (eV 1) (eC (.str "v")))) (aO (ao 3 (cD (dj (eM bM de (eV 0) (aB (eC (.str ",")) (aE)))) (gV 4) (bv) (aN 2 (a8 n) (aB (eV 4) (aB (eC (.str "r")) (aE)))) [4]))
  (aq (eIf (tOf (aJ fIn (eC .none) (eV 3))) (eC .none) (eB jW (aB (eV 3) (aE)))))) (bQ))
  (aq (eIf (cI (aN 2 bq (aB (eV 0) (aB (eV 1) (aE))))) (eV 0) (eC .none))))))
theorem kN {P:Program} {w:World} {K:PySem.W.Frag} {mg:Str→Option Value} {base:Heap} (G:Gx P w K mg base):∀n:Nat,FnE P w K mg base (n+4) (He.ga K "part_of") ["word","shape"] (a8 n)
  | 0=>by
    obtain ⟨fd,F⟩:=G.f_part_of
    have h:FnE P w K mg base 4 (He.ga K "part_of") ["word","shape"] (bD 3 eA):=by
      refine ⟨fd,?_⟩
      refine bE (N:=N_part_of) (st:=kM) (k:=3) F ⟨rfl,rfl,rfl,by decide +kernel,rfl,by decide +kernel,by decide +kernel⟩ rfl (fun _ _ _ _ _ _ us hl=>match us,hl with|[_,_],_=>rfl) fun cdv A outer s H E hcd hp hr W tk=>?_
      exact gX
    rw[Nat.zero_add]
    exact h
  | n+1=>by
    have ih:=kN G n
    obtain ⟨fd,F⟩:=G.f_part_of
    have fx:=G.fx
    have h:FnE P w K mg base (n+4+1) (He.ga K "part_of") ["word","shape"] (a8 (n+1)):=by
      refine ⟨fd,?_⟩
      refine bE (N:=N_part_of) (st:=kM) (k:=n+4) F ⟨rfl,rfl,rfl,by decide +kernel,rfl,by decide +kernel,by decide +kernel⟩ rfl (fun _ _ _ _ _ _ us hl=>match us,hl with|[_,_],_=>rfl) fun cdv A outer s H E hcd hp hr W tk=>?_
      have nd:N_part_of.Nodup:=by decide +kernel
      have hu1:=ru1 hr
      have hu64:=dk hr
      have hu65:=dm hr
      exact (aF (a4 (aX (dG hu64) (aC 1) aL (by with_unfolding_all rfl)) (aK (aQ (aM (ps:=["word"]) (m:=cK) (iV G) (hr.mono (by omega)) fx.d_number_of tk (aA (aC 0) aD)))) aS)
    (aF (a4 (aX (dG hu64) (aC 1) aL (by with_unfolding_all rfl)) (aF (gv (own:=[("one",4)]) (i:=2) rfl nd rfl rfl rfl (cf (fE eG PySem.F.plainAttrs_str PySem.F.slot_str_split PySem.F.type_str_split iI (aC 0) (aA aL aD))) (blkOk_by (by kernel_rfl)) (fun _ _ _ _ _=>(bG (i:=4) nd rfl (by first|exact .inl rfl|exact .inr rfl) (by decide))) (fun _ _ _ _ _=>cZ) (fun _ _ _ _ _=>(aM (ps:=["word"]) (m:=cK) (iV G) (hr.mono (by omega)) fx.d_number_of takes0 (aA (aC 4) aD))))
    (aK (aQ (f6 (c6 (sW_and (aX (dG hu64) (ai cx rfl fx.n_len bx (aA (aC 2) aD)) aH (by with_unfolding_all rfl)) (uC (bK (aM (ps:=["thing"]) (m:=bR) (gx G) (hr.mono (by omega)) fx.d_is_ride tk (aA (f8 nS rfl fx.n_tuple bT (aA (aC 2) aD)) aD)))))) (f8 nS rfl fx.n_tuple bT (aA (aC 2) aD)) cN)))) aS)
    (aF (a4 (aX (dG hu64) (aC 1) aL (by with_unfolding_all rfl)) (aF (gv (own:=[("one",4)]) (i:=3) rfl nd rfl rfl rfl (cf (fE eG PySem.F.plainAttrs_str PySem.F.slot_str_split PySem.F.type_str_split iI (aC 0) (aA aL aD))) (blkOk_by (by kernel_rfl)) (fun _ _ _ _ _=>(bG (i:=4) nd rfl (by first|exact .inl rfl|exact .inr rfl) (by decide))) (fun _ _ _ _ _=>cZ) (fun _ _ _ _ _=>(aM (ps:=["word","shape"]) (m:=(a8 n)) ih hr fx.d_part_of takes0 (aA (aC 4) (aA aL aD)))))
    (aK (aQ (f6 (aX (o_in hu65) cN (aC 3) (by with_unfolding_all rfl)) cN (f8 nS rfl fx.n_tuple bT (aA (aC 3) aD)))))) aS)
    (aK (aQ (f6 (bK (aM (ps:=["thing","shape"]) (m:=bq) (kH G) (hr.mono (by omega)) fx.d_is_part tk (aA (aC 0) (aA (aC 1) aD)))) (aC 0) cN))))))
    rw[show n+1+4=n+4+1 by omega]
    exact h
abbrev pJ:Stmt:=(top 45)
abbrev N_deed_of:List Str:=["row","word","rest","parts","one","shape"]
def lS:MS:=aO (nI (eM bM de (eV 0) (aB (eC (.str " ")) (aE))) (ji (ar (gV 1) (ar (gV 2) (cz)))))
  (aO (sIf (eq (tOf (iN true [("fly",2),("sell",3),("back",1),("away",1),("late",2),("off",1),("kind",2),("turn",1),("mend",1)] (eV 1))) (tOf (aJ (lv dNe) (eB bF (aB (eV 2) (aE))) (kA [("fly",2),("sell",3),("back",1),("away",1),("late",2),("off",1),("kind",2),("turn",1),("mend",1)] (eV 1))))) (aq (eC .none)) (bQ))
  (aO (ao 3 (cD (sy (aB (eV 2) (aB (aN 1 bz (aB (eV 1) (aE))) (aE)))) (cp 2 (ar (gV 4) (ar (gV 5) (cz)))) (bv) (aN 2 (a8 2) (aB (eV 4) (aB (eV 5) (aE)))) [4,5]))
  (aq (eIf (tOf (aJ fIn (eC .none) (eV 3))) (eC .none) (aJ (lv0 am) (bB (aB (eV 1) (aE))) (eB jW (aB (eV 3) (aE))))))))
def fN:MF:=bD 5 lS
theorem pK {P:Program} {w:World} {K:PySem.W.Frag} {mg:Str→Option Value} {base:Heap} (G:Gx P w K mg base):FnE P w K mg base 7 (He.ga K "deed_of") ["row"] fN:=by
  obtain ⟨fd,F⟩:=G.f_deed_of
  have fx:=G.fx
  refine ⟨fd,?_⟩
  refine bE (N:=N_deed_of) (st:=pJ) (k:=6) F ⟨rfl,rfl,rfl,by decide +kernel,rfl,by decide +kernel,by decide +kernel⟩ rfl (fun _ _ _ _ _ _ us hl=>match us,hl with|[_],_=>rfl) fun cdv A outer s H E hcd hp hr W tk=>?_
  have nd:N_deed_of.Nodup:=by decide +kernel
  have hu1:=ru1 hr
  have hu64:=dk hr
  have hu65:=dm hr
  exact (aF (jv (fE eG PySem.F.plainAttrs_str PySem.F.slot_str_split PySem.F.type_str_split iI (aC 0) (aA aL aD)) (qk rfl (dH (bo (i:=1) nd rfl (by first|exact .inl rfl|exact .inr rfl)) (dH (bo (i:=2) nd rfl (by first|exact .inl rfl|exact .inr rfl)) jc))))
    (aF (a4 (c6 (dg (qG (.inr ⟨rfl,rfl⟩) G.t_DEEDS fx.d_DEEDS rfl (aC 1)) (dY (aX (gp hu64) (ai cx rfl fx.n_len bx (aA (aC 2) aD)) (qH G.t_DEEDS fx.d_DEEDS rfl (aC 1)) (by with_unfolding_all rfl))))) (aK (aQ cN)) aS)
    (aF (gv (own:=[("one",4),("shape",5)]) (i:=3) rfl nd rfl rfl rfl (ub rfl fx.n_zip (aA (aC 2) (aA (aM (ps:=["word"]) (m:=bz) (jN G) (hr.mono (by decide)) fx.d_shape_of tk (aA (aC 1) aD)) aD))) (blkOk_by (by kernel_rfl)) (fun _ _ _ _ _=>(l0 rfl (dJ (bG (i:=4) nd rfl (by first|exact .inl rfl|exact .inr rfl) (by decide)) (dJ (bG (i:=5) nd rfl (by first|exact .inl rfl|exact .inr rfl) (by decide)) jd)))) (fun _ _ _ _ _=>cZ) (fun _ _ _ _ _=>(aM (ps:=["word","shape"]) (m:=(a8 2)) (kN G 2) (hr.mono (by decide)) fx.d_part_of takes0 (aA (aC 4) (aA (aC 5) aD)))))
    (aK (aQ (f6 (aX (o_in hu65) cN (aC 3) (by with_unfolding_all rfl)) cN (aR a9 (ae (aA (aC 1) aD)) (f8 nS rfl fx.n_tuple bT (aA (aC 3) aD)))))))))
abbrev ue:Stmt:=(top 46)
abbrev N_read:List Str:=["text","found","number","row","deed"]
def pL:MS:=aO (ao 1 (iB (aE)))
  (aO (eR (fX (aB (eIf (tOf (aJ (lv dNe) (eV 0) (eC (.str "")))) (eM bM de (eV 0) (aB (eC (.str "\n")) (aE))) (cS (aE))) (aE))) (cp 2 (ar (gV 2) (ar (gV 3) (cz)))) (aO (ao 4 (aN 1 fN (aB (eV 3) (aE))))
  (aO (sIf (tOf (aJ (lv dIsN) (eV 4) (eC .none))) (dn "BadText" ["row"] (aB (eV 2) (aE))) (bQ))
  (fB (eM bS bH (eV 1) (aB (eV 4) (aE)))))))
  (aq (eV 1)))
def gz:MF:=bD 4 pL
theorem uf {P:Program} {w:World} {K:PySem.W.Frag} {mg:Str→Option Value} {base:Heap} (G:Gx P w K mg base):FnE P w K mg base 8 (He.ga K "read") ["text"] gz:=by
  obtain ⟨fd,F⟩:=G.f_read
  have fx:=G.fx
  refine ⟨fd,?_⟩
  refine bE (N:=N_read) (st:=ue) (k:=7) F ⟨rfl,rfl,rfl,by decide +kernel,rfl,by decide +kernel,by decide +kernel⟩ rfl (fun _ _ _ _ _ _ us hl=>match us,hl with|[_],_=>rfl) fun cdv A outer s H E hcd hp hr W tk=>?_
  have nd:N_read.Nodup:=by decide +kernel
  have hu1:=ru1 hr
  have hu64:=dk hr
  have hu65:=dm hr
  exact (aF (aW (i:=1) nd rfl (by first|exact .inl rfl|exact .inr rfl) (gQ aD))
    (aF (eE hp rfl (lz rfl fx.n_enumerate (aA (f6 (aX (gp hu64) (aC 0) aL (by with_unfolding_all rfl)) (fE eG PySem.F.plainAttrs_str PySem.F.slot_str_split PySem.F.type_str_split iI (aC 0) (aA aL aD)) (bL aD)) aD)) (oW rfl (dH (bo (i:=2) nd rfl (by first|exact .inl rfl|exact .inr rfl)) (dH (bo (i:=3) nd rfl (by first|exact .inl rfl|exact .inr rfl)) jc))) (aF (aW (i:=4) nd rfl (by first|exact .inl rfl|exact .inr rfl) (aM (ps:=["row"]) (m:=fN) (pK G) (hr.mono (by decide)) fx.d_deed_of tk (aA (aC 3) aD)))
    (aF (a4 (aX o_is (aC 4) cN (by with_unfolding_all rfl)) (aK (fJ (ns:=["row"]) rfl tk fx.e_BadText (iU G) (hr.mono (by decide)) fx.d_BadText rfl (aA (aC 2) aD))) aS)
    (aK (eS (fE gA PySem.F.plainAttrs_list PySem.F.slot_list_append PySem.F.type_list_append fF (aC 1) (aA (aC 4) aD)))))))
    (aK (aQ (aC 1)))))
abbrev mT:Stmt:=(top 52)
abbrev N_law_deeds:List Str:=["_law_state","_law_found","_law_k","_law_ride","_law_rides","_law_word","_law_n","_law_some","_law_j"]
def jR:MS:=aO (ao 1 (iB (aE)))
  (aO (eR (c7 (aB (aN 2 aI (aB (eV 0) (aB (eC (.int 7)) (aE)))) (aE))) (gV 2) (aO (ao 3 (bB (aB (aN 2 aI (aB (eV 0) (aB (eC (.int 61)) (aE)))) (aB (aJ (lv0 am) (eC (.int 1)) (aN 2 aI (aB (eV 0) (aB (aJ fIx (cS (aB (eC (.int 120)) (aB (eC (.int 9999)) (aE)))) (aN 2 aI (aB (eV 0) (aB (eC (.int 2)) (aE))))) (aE))))) (aE)))))
  (aO (ao 4 (eB jW (aB (cD (c7 (aB (aJ (lv0 am) (eC (.int 1)) (aN 2 aI (aB (eV 0) (aB (eC (.int 5)) (aE))))) (aE))) (gV 8) (bv) (bB (aB (aN 2 aI (aB (eV 0) (aB (eC (.int 61)) (aE)))) (aB (aJ (lv0 am) (eC (.int 1)) (aN 2 aI (aB (eV 0) (aB (eC (.int 9999)) (aE))))) (aE)))) [8]) (aE))))
  (aO (ao 5 (aJ fIx (cS (aB (eC (.str "p")) (aB (eC (.str "ab")) (aB (eC (.str "qwertz")) (aB (eC (.str "elevensigns")) (aE)))))) (aN 2 aI (aB (eV 0) (aB (eC (.int 4)) (aE))))))
  (aO (ao 6 (aN 2 aI (aB (eV 0) (aB (aJ fIx (cS (aB (eC (.int 9)) (aB (eC (.int 1000000)) (aE)))) (aN 2 aI (aB (eV 0) (aB (eC (.int 2)) (aE))))) (aE)))))
  (aO (ao 7 (cS (aB (bB (aB (eC (.str "fly")) (aB (eV 3) (aB (eV 5) (aE))))) (aB (bB (aB (eC (.str "sell")) (aB (eV 5) (aB (eV 4) (aB (eC (.str "y")) (aE)))))) (aB (bB (aB (eC (.str "back")) (aB (eV 6) (aE)))) (aB (bB (aB (eC (.str "away")) (aB (eV 6) (aE)))) (aB (bB (aB (eC (.str "late")) (aB (eV 3) (aB (eV 6) (aE))))) (aE))))))))
  (aO (ao 7 (aJ (lv0 am) (eV 7) (cS (aB (bB (aB (eC (.str "off")) (aB (eV 3) (aE)))) (aB (bB (aB (eC (.str "kind")) (aB (eV 5) (aB (eC (.str "big")) (aE))))) (aB (bB (aB (eC (.str "turn")) (aB (eV 6) (aE)))) (aB (bB (aB (eC (.str "mend")) (aB (eV 6) (aE)))) (aE))))))))
  (fB (eM bS bH (eV 1) (aB (aJ fIx (eV 7) (aN 2 aI (aB (eV 0) (aB (eC (.int 9)) (aE))))) (aE)))))))))))
  (aq (eV 1)))
def dP:MF:=bD 8 jR
theorem mU {P:Program} {w:World} {K:PySem.W.Frag} {mg:Str→Option Value} {base:Heap} (G:Gx P w K mg base):FnE P w K mg base 2 (He.ga K "_law_deeds") ["_law_state"] dP:=by
  obtain ⟨fd,F⟩:=G.f_law_deeds
  have fx:=G.fx
  refine ⟨fd,?_⟩
  refine bE (N:=N_law_deeds) (st:=mT) (k:=1) F ⟨rfl,rfl,rfl,by decide +kernel,rfl,by decide +kernel,by decide +kernel⟩ rfl (fun _ _ _ _ _ _ us hl=>match us,hl with|[_],_=>rfl) fun cdv A outer s H E hcd hp hr W tk=>?_
  have nd:N_law_deeds.Nodup:=by decide +kernel
  have hu1:=ru1 hr
  have hu64:=dk hr
  have hu65:=dm hr
  exact (aF (aW (i:=1) nd rfl (by first|exact .inl rfl|exact .inr rfl) (gQ aD))
    (aF (eE hp rfl (eT rfl fx.n_range (aA (aM (ps:=["_law_state","_law_many"]) (m:=aI) (aT G) (hr.mono (by decide)) fx.d__law_drawn tk (aA (aC 0) (aA aH aD))) aD)) (bo (i:=2) nd rfl (by first|exact .inl rfl|exact .inr rfl)) (aF (aW (i:=3) nd rfl (by first|exact .inl rfl|exact .inr rfl) (ae (aA (aM (ps:=["_law_state","_law_many"]) (m:=aI) (aT G) (hr.mono (by decide)) fx.d__law_drawn tk (aA (aC 0) (aA aH aD))) (aA (aR a9 aH (aM (ps:=["_law_state","_law_many"]) (m:=aI) (aT G) (hr.mono (by decide)) fx.d__law_drawn tk (aA (aC 0) (aA (ak hu1 (bL (aA aH (aA aH aD))) (aM (ps:=["_law_state","_law_many"]) (m:=aI) (aT G) (hr.mono (by decide)) fx.d__law_drawn tk (aA (aC 0) (aA aH aD)))) aD)))) aD))))
    (aF (aW (i:=4) nd rfl (by first|exact .inl rfl|exact .inr rfl) (f8 nS rfl fx.n_tuple bT (aA (cO (own:=[("_law_j",8)]) rfl nd (eT rfl fx.n_range (aA (aR a9 aH (aM (ps:=["_law_state","_law_many"]) (m:=aI) (aT G) (hr.mono (by decide)) fx.d__law_drawn tk (aA (aC 0) (aA aH aD)))) aD)) (blkOk_by (by kernel_rfl)) (fun _ _ _ _ _=>(bG (i:=8) nd rfl (by first|exact .inl rfl|exact .inr rfl) (by decide))) (fun _ _ _ _ _=>cZ) (fun _ _ _ _ _=>(ae (aA (aM (ps:=["_law_state","_law_many"]) (m:=aI) (aT G) (hr.mono (by decide)) fx.d__law_drawn takes0 (aA (aC 0) (aA aH aD))) (aA (aR a9 aH (aM (ps:=["_law_state","_law_many"]) (m:=aI) (aT G) (hr.mono (by decide)) fx.d__law_drawn takes0 (aA (aC 0) (aA aH aD)))) aD))))) aD)))
    (aF (aW (i:=5) nd rfl (by first|exact .inl rfl|exact .inr rfl) (ak hu1 (bL (aA aL (aA aL (aA aL (aA aL aD))))) (aM (ps:=["_law_state","_law_many"]) (m:=aI) (aT G) (hr.mono (by decide)) fx.d__law_drawn tk (aA (aC 0) (aA aH aD)))))
    (aF (aW (i:=6) nd rfl (by first|exact .inl rfl|exact .inr rfl) (aM (ps:=["_law_state","_law_many"]) (m:=aI) (aT G) (hr.mono (by decide)) fx.d__law_drawn tk (aA (aC 0) (aA (ak hu1 (bL (aA aH (aA aH aD))) (aM (ps:=["_law_state","_law_many"]) (m:=aI) (aT G) (hr.mono (by decide)) fx.d__law_drawn tk (aA (aC 0) (aA aH aD)))) aD))))
    (aF (aW (i:=7) nd rfl (by first|exact .inl rfl|exact .inr rfl) (bL (aA (ae (aA aL (aA (aC 3) (aA (aC 5) aD)))) (aA (ae (aA aL (aA (aC 5) (aA (aC 4) (aA aL aD))))) (aA (ae (aA aL (aA (aC 6) aD))) (aA (ae (aA aL (aA (aC 6) aD))) (aA (ae (aA aL (aA (aC 3) (aA (aC 6) aD)))) aD)))))))
    (aF (aW (i:=7) nd rfl (by first|exact .inl rfl|exact .inr rfl) (aR a9 (aC 7) (bL (aA (ae (aA aL (aA (aC 3) aD))) (aA (ae (aA aL (aA (aC 5) (aA aL aD)))) (aA (ae (aA aL (aA (aC 6) aD))) (aA (ae (aA aL (aA (aC 6) aD))) aD)))))))
    (aK (eS (fE gA PySem.F.plainAttrs_list PySem.F.slot_list_append PySem.F.type_list_append fF (aC 1) (aA (ak hu1 (aC 7) (aM (ps:=["_law_state","_law_many"]) (m:=aI) (aT G) (hr.mono (by decide)) fx.d__law_drawn tk (aA (aC 0) (aA aH aD)))) aD)))))))))))
    (aK (aQ (aC 1)))))
abbrev mV:Stmt:=(top 48)
abbrev N_law_start:List Str:=["_law_script","_law_mixed","_law_cell"]
def jS:MS:=aO (ao 1 (eC (.int 1)))
  (aO (eR (dj (eV 0)) (gV 2) (ao 1 (aJ (lv dMod) (aJ (lv0 am) (aJ (lv0 am) (aJ (lv rN) (eV 1) (eC (.int 48271))) (eV 2)) (eC (.int 7))) (eC (.int 2147483647)))))
  (aq (iB (aB (eV 0) (aB (eC (.int 0)) (aB (eV 1) (aB (eC (.int 0)) (aE))))))))
def dQ:MF:=bD 2 jS
theorem mW {P:Program} {w:World} {K:PySem.W.Frag} {mg:Str→Option Value} {base:Heap} (G:Gx P w K mg base):FnE P w K mg base 1 (He.ga K "_law_start") ["_law_script"] dQ:=by
  obtain ⟨fd,F⟩:=G.f_law_start
  have fx:=G.fx
  refine ⟨fd,?_⟩
  refine bE (N:=N_law_start) (st:=mV) (k:=0) F ⟨rfl,rfl,rfl,by decide +kernel,rfl,by decide +kernel,by decide +kernel⟩ rfl (fun _ _ _ _ _ _ us hl=>match us,hl with|[_],_=>rfl) fun cdv A outer s H E hcd hp hr W tk=>?_
  have nd:N_law_start.Nodup:=by decide +kernel
  have hu1:=ru1 hr
  have hu64:=dk hr
  have hu65:=dm hr
  exact (aF (aW (i:=1) nd rfl (by first|exact .inl rfl|exact .inr rfl) aH)
    (aF (eE hp rfl (cf (aC 0)) (bo (i:=2) nd rfl (by first|exact .inl rfl|exact .inr rfl)) (aK (aW (i:=1) nd rfl (by first|exact .inl rfl|exact .inr rfl) (aR m9 (aR a9 (aR a9 (aR rQ (aC 1) aH) (aC 2)) aH) aH))))
    (aK (aQ (gQ (aA (aC 0) (aA aH (aA (aC 1) (aA aH aD)))))))))
abbrev s8:Stmt:=(top 59)
abbrev N_law:List Str:=["_law_script","_law_state","_law_turn","_law_deeds_here","_law_text_here","_law_change","_law_k","_law_due","_law_one"]
def b_law:MS:=aO (ao 1 (aN 1 dQ (aB (eV 0) (aE))))
  (aO (eR (c7 (aB (eC (.int 6)) (aE))) (gV 2) (aO (ao 3 (aN 1 dP (aB (eV 1) (aE))))
  (aO (ao 4 (aN 1 b4 (aB (eV 3) (aE))))
  (aO (sIf (eq (bi (cI (aN 2 (aj 12) (aB (aN 1 ap (aB (eV 3) (aE))) (aB (eV 4) (aE)))))) (bi (cI (aN 2 (aj 12) (aB (aN 1 gz (aB (eV 4) (aE))) (aB (eV 3) (aE))))))) (aq (eC (.bool false))) (bQ))
  (aO (ao 3 (eIf (tOf (aJ (lv dEq) (aN 2 aI (aB (eV 1) (aB (eC (.int 6)) (aE)))) (eC (.int 0)))) (aJ (lv0 am) (eV 3) (cS (aB (bB (aB (eC (.str "sell")) (aB (eC (.str "ab")) (aB (bB (aE)) (aB (eC (.str "y")) (aE)))))) (aE)))) (eV 3)))
  (aO (eR (c7 (aB (aJ (lv0 am) (eC (.int 1)) (aN 2 aI (aB (eV 1) (aB (eC (.int 2)) (aE))))) (aE))) (gV 5) (aO (ao 6 (aN 2 aI (aB (eV 1) (aB (aJ (lv0 am) (eB bF (aB (eV 3) (aE))) (eC (.int 1))) (aE)))))
  (ao 3 (aJ (lv0 am) (aJ (lv0 am) (fm (eV 3) (pNo) (cR (eV 6))) (cD (dj (fm (eV 3) (cR (eV 6)) (cR (aJ (lv0 am) (eV 6) (eC (.int 1)))))) (gV 8) (bv) (aN 2 (bY 8) (aB (eV 1) (aB (eV 8) (aE)))) [8])) (fm (eV 3) (cR (aJ (lv0 am) (eV 6) (eC (.int 1)))) (pNo))))))
  (aO (ao 7 (aN 1 dA (aB (eV 3) (aE))))
  (aO (ao 7 (eIf (tOf (aJ (lv fq) (eV 7) (eC .none))) (bB (aB (eC (.str "BadDeed")) (aB (eV 7) (aE)))) (aN 1 b4 (aB (eV 3) (aE)))))
  (aO (sIf (bi (cI (aN 2 (aj 12) (aB (fG hdK (aN 1 ap (aB (eV 3) (aE)))) (aB (eV 7) (aE)))))) (aq (eC (.bool false))) (bQ))
  (sIf (tOf (aJ (lv dNe) (fG hdK (aN 1 ap (aB (bB (aE)) (aE)))) (bB (aB (eC (.str "BadDeed")) (aB (eC (.int 0)) (aE)))))) (aq (eC (.bool false))) (bQ)))))))))))
  (aq (eC (.bool true))))
def n5:MF:=bD 8 b_law
theorem ok_law {P:Program} {w:World} {K:PySem.W.Frag} {mg:Str→Option Value} {base:Heap} (G:Gx P w K mg base) {fd:FuncData} (F:FunD K "law" "law" (defArgs (top 59)) (defBody (top 59)) (defScope (top 59)) [] [] (He.ga K "law") fd):FnM P w K mg base 16 (He.ga K "law") fd ["_law_script"] n5:=by
  have fx:=G.fx
  refine bE (N:=N_law) (st:=s8) (k:=15) F ⟨rfl,rfl,rfl,by decide +kernel,rfl,by decide +kernel,by decide +kernel⟩ rfl (fun _ _ _ _ _ _ us hl=>match us,hl with|[_],_=>rfl) fun cdv A outer s H E hcd hp hr W tk=>?_
  have nd:N_law.Nodup:=by decide +kernel
  have hu1:=ru1 hr
  have hu64:=dk hr
  have hu65:=dm hr
  have lh:=om (X:=cxOf (L2N.CX P w) P w K mg base N_law "law" (defScope s8) (He.ga K "law") cdv A outer s H E) (p:=("law",none)) F rfl (G.tb (("law",none),"law.<locals>.<lambda>") (by decide)) hcd.symm rfl (G.tm (("law",none),"law.<locals>.<lambda>") (by decide)) (G.tu (("law",none),"law.<locals>.<lambda>") (by decide))
  exact (aF (aW (i:=1) nd rfl (by first|exact .inl rfl|exact .inr rfl) (aM (ps:=["_law_script"]) (m:=dQ) (mW G) (hr.mono (by decide)) fx.d__law_start tk (aA (aC 0) aD)))
    (aF (eE hp rfl (eT rfl fx.n_range (aA aH aD)) (bo (i:=2) nd rfl (by first|exact .inl rfl|exact .inr rfl)) (aF (aW (i:=3) nd rfl (by first|exact .inl rfl|exact .inr rfl) (aM (ps:=["_law_state"]) (m:=dP) (mU G) (hr.mono (by decide)) fx.d__law_deeds tk (aA (aC 1) aD)))
    (aF (aW (i:=4) nd rfl (by first|exact .inl rfl|exact .inr rfl) (aM (ps:=["_law_deeds_here"]) (m:=b4) (jP G) (hr.mono (by decide)) fx.d__law_text tk (aA (aC 3) aD)))
    (aF (a4 (c6 (dg (bp (bK (aM (ps:=["_law_found","_law_due"]) (m:=(aj 12)) (eW G 12) (hr.mono (by decide)) fx.d__law_same tk (aA (aM (ps:=["deeds"]) (m:=ap) (gy G) (hr.mono (by decide)) fx.d_written tk (aA (aC 3) aD)) (aA (aC 4) aD))))) (dY (bp (bK (aM (ps:=["_law_found","_law_due"]) (m:=(aj 12)) (eW G 12) (hr.mono (by decide)) fx.d__law_same tk (aA (aM (ps:=["text"]) (m:=gz) (uf G) (hr.mono (by decide)) fx.d_read tk (aA (aC 4) aD)) (aA (aC 3) aD)))))))) (aK (aQ cY)) aS)
    (aF (aW (i:=3) nd rfl (by first|exact .inl rfl|exact .inr rfl) (f6 (aX (dG hu64) (aM (ps:=["_law_state","_law_many"]) (m:=aI) (aT G) (hr.mono (by decide)) fx.d__law_drawn tk (aA (aC 1) (aA aH aD))) aH (by with_unfolding_all rfl)) (aR a9 (aC 3) (bL (aA (ae (aA aL (aA aL (aA (ae aD) (aA aL aD))))) aD))) (aC 3)))
    (aF (eE hp rfl (eT rfl fx.n_range (aA (aR a9 aH (aM (ps:=["_law_state","_law_many"]) (m:=aI) (aT G) (hr.mono (by decide)) fx.d__law_drawn tk (aA (aC 1) (aA aH aD)))) aD)) (bo (i:=5) nd rfl (by first|exact .inl rfl|exact .inr rfl)) (aF (aW (i:=6) nd rfl (by first|exact .inl rfl|exact .inr rfl) (aM (ps:=["_law_state","_law_many"]) (m:=aI) (aT G) (hr.mono (by decide)) fx.d__law_drawn tk (aA (aC 1) (aA (aR a9 (ai cx rfl fx.n_len bx (aA (aC 3) aD)) aH) aD))))
    (aK (aW (i:=3) nd rfl (by first|exact .inl rfl|exact .inr rfl) (aR a9 (aR a9 (fV (aC 3) jE (dC (aC 6))) (cO (own:=[("_law_one",8)]) rfl nd (cf (fV (aC 3) (dC (aC 6)) (dC (aR a9 (aC 6) aH)))) (blkOk_by (by kernel_rfl)) (fun _ _ _ _ _=>(bG (i:=8) nd rfl (by first|exact .inl rfl|exact .inr rfl) (by decide))) (fun _ _ _ _ _=>cZ) (fun _ _ _ _ _=>(aM (ps:=["_law_state","_law_thing"]) (m:=(bY 8)) (iT G 8) (hr.mono (by decide)) fx.d__law_other takes0 (aA (aC 1) (aA (aC 8) aD)))))) (fV (aC 3) (dC (aR a9 (aC 6) aH)) jE))))))
    (aF (aW (i:=7) nd rfl (by first|exact .inl rfl|exact .inr rfl) (aM (ps:=["_law_deeds_here"]) (m:=dA) (pI G) (hr.mono (by decide)) fx.d__law_bad tk (aA (aC 3) aD)))
    (aF (aW (i:=7) nd rfl (by first|exact .inl rfl|exact .inr rfl) (f6 (aX o_isnt (aC 7) cN (by with_unfolding_all rfl)) (ae (aA aL (aA (aC 7) aD))) (aM (ps:=["_law_deeds_here"]) (m:=b4) (jP G) (hr.mono (by decide)) fx.d__law_text tk (aA (aC 3) aD))))
    (aF (a4 (bp (bK (aM (ps:=["_law_found","_law_due"]) (m:=(aj 12)) (eW G 12) (hr.mono (by decide)) fx.d__law_same tk (aA (pz (hd:=hdK) (k:=s5) (qK G) fx.d__law_kind lh (hr.mono (by decide)) (lamS_by (by kernel_rfl)) (fun A outer s H E f c' hr W tk2=>by
    have hu1:=ru1 hr
    have hu64:=dk hr
    have hu65:=dm hr
    exact (aM (ps:=["deeds"]) (m:=ap) (gy G) (hr.mono (by decide)) fx.d_written tk2 (aA (aC 3) aD)))) (aA (aC 7) aD))))) (aK (aQ cY)) aS)
    (aK (a4 (aX (gp hu64) (pz (hd:=hdK) (k:=s5) (qK G) fx.d__law_kind lh (hr.mono (by decide)) (lamS_by (by kernel_rfl)) (fun A outer s H E f c' hr W tk2=>by
    have hu1:=ru1 hr
    have hu64:=dk hr
    have hu65:=dm hr
    exact (aM (ps:=["deeds"]) (m:=ap) (gy G) (hr.mono (by decide)) fx.d_written tk2 (aA (ae aD) aD)))) (ae (aA aL (aA aH aD))) (by with_unfolding_all rfl)) (aK (aQ cY)) aS)))))))))))
    (aK (aQ cY))))
end
end DL
namespace DL
open PySem PySem.Spec PyProof.Rows L2 LamX
def dayD (b:Bool) (l:List Int):D:=if b then .tpn (l.map .int) else .tup (l.map .int)
structure Leg where
  num:Int
  start:Str
  goal:Str
  out:Int
  long:Int
  db:Bool
  days:List Int
  fare:Int
  deriving Inhabited
def Leg.d (l:Leg):D:=.tup [.int l.num,.str l.start,.str l.goal,.int l.out,.int l.long,dayD l.db l.days,.int l.fare]
structure LegOk (names:List Str) (l:Leg):Prop where
  num:1≤l.num∧l.num≤9999
  s:l.start∈names
  g:l.goal∈names
  ne:l.start≠l.goal
  out:0≤l.out∧l.out<1440
  long:20≤l.long∧l.long≤900
  dne:l.days≠[]
  dlt:l.days.Pairwise (·<·)
  dbd:∀d∈l.days,0≤d∧d≤6
  fare:1≤l.fare∧l.fare≤100000
  odd:l.num≠99∧l.num≠9999
def six:List Str:=["aba","bcd","cad","dub","eli","fra"]
structure NetOk (ps:List (Str × Int)) (ls:List Leg):Prop where
  names:∃n,2≤n∧n≤6∧ps.map (·.1)=six.take n
  ch:∀p∈ps,10≤p.2∧p.2≤300
  legs:∀l∈ls,LegOk (ps.map (·.1)) l
  nd:(ls.map (·.num)).Nodup
  ne:ls≠[]
  len:ls.length≤60
  few:ls.length≤28
@[simp] theorem dayD_vt (b:Bool) (l:List Int):vt (dayD b l)=.tup (l.map .int):=by cases b<;>rfl
@[simp] theorem dayD_view (S:Sto) (b:Bool) (l:List Int):view S (dayD b l)=.tup (l.map .int):=by cases b<;>rfl
def HasLeg (ls:List Leg) (n:Int):Prop:=∃l∈ls,l.num=n
theorem HasLeg.of {ls:List Leg} {l:Leg} (h:l∈ls):HasLeg ls l.num:=⟨l,h,rfl⟩
structure NetAt (S:Sto) (l:Nat) (ps:List (Str × Int)) (ls:List Leg):Prop where
  ex:∃c g,S[l]?=some (.ins "Net" [("changes",.loc c),("legs",.loc g)])∧S[c]?=some (.dct false (ps.map fun p=>(.str p.1,.int p.2)))∧S[g]?=some (.dct false (ls.map fun x=>(.int x.num,x.d)))
/-- the same,told: its legs may be locked -/
structure NetL (S:Sto) (l:Nat) (ls:List Leg):Prop where
  ex:∃c g,S[l]?=some (.ins "Net" [("changes",.loc c),("legs",.loc g)])∧b9 S[g]?=some (false,ls.map fun x=>(.int x.num,x.d))
theorem NetAt.l {S:Sto} {l:Nat} {ps:List (Str × Int)} {ls:List Leg} (h:NetAt S l ps ls):NetL S l ls:=by
  obtain ⟨c,g,h1,h2,h3⟩:=h.ex
  exact ⟨⟨c,g,h1,by rw[h3]; rfl⟩⟩
theorem mX {S:Sto} {l:Nat} {o:O} (h:S[l]?=some o) (T:Sto):(S++T)[l]?=some o:=by
  rw[List.getElem?_append_left (List.getElem?_eq_some_iff.mp h).1]; exact h
end DL
set_option maxHeartbeats 1000000
namespace DL
open PySem PySem.Spec PyProof.Rows L2 LamX
/-- the state of the drawing -/
def stD (sc:List Int) (p m r:Int):O:=.lst [.ro (sc.map .int),.int p,.int m,.int r]
structure Dr (sc:List Int) (o:O):Prop where
  ex:∃p m r,o=stD sc p m r∧0≤p∧0≤r
theorem pM {sc:List Int} {p m r:Int} {T:Sto} {many:Int} (hm:0<many) (hm2:many<1073741824) (h0:0≤p) (hr:0≤r) :
    ∃v p' m' r',aI [.loc 0,.int many] (stD sc p m r::T)=.ok (.int v) (stD sc p' m' r'::T)∧0≤v∧v<many∧0≤p'∧0≤r':=by
  by_cases h:0<r
  · exact ⟨r % many,p,m,r / many,by simp[aI,dO,stD,fIx,h,hm,hm2,atI,ixN,eh,gj,fInt,dZ],Int.emod_nonneg _ (by omega),Int.emod_lt_of_pos _ hm,h0,Int.ediv_nonneg hr (by omega)⟩
  · have hr0:r=0:=by omega
    subst hr0
    by_cases hp:p+1≤sc.length
    · have hx:atI (sc.map D.int) p=some (.int (sc[p.toNat]'(by omega))):=by
        rw[jh h0 (by simp; omega)]
        simp[List.getElem?_map,List.getElem?_eq_getElem (show p.toNat<sc.length by omega)]
      generalize sc[p.toNat]'(by omega)=c at hx
      have x1:ixN 4 1=some 1:=rfl
      have x3:ixN 4 3=some 3:=rfl
      by_cases hc:1000000000000000000≤c
      · refine ⟨c % many,p+1,m,c / many,?_,Int.emod_nonneg _ (by omega),Int.emod_lt_of_pos _ hm,by omega,Int.ediv_nonneg (by omega) (by omega)⟩
        simp[aI,dO,stD,fIx,x1,x3,hx,hc,hm,hm2,eh,gj,fInt,dZ,bF,hp,cPow]
      · refine ⟨c % many,p+1,m,0,?_,Int.emod_nonneg _ (by omega),Int.emod_lt_of_pos _ hm,by omega,by omega⟩
        simp[aI,dO,stD,fIx,x1,x3,hx,hc,hm,hm2,eh,gj,fInt,dZ,bF,hp,cPow]
    · refine ⟨(m*48271+11) % 2147483647 / 7 % many,p+1,(m*48271+11) % 2147483647,0,?_,Int.emod_nonneg _ (by omega),Int.emod_lt_of_pos _ hm,by omega,by omega⟩
      simp[aI,dO,stD,fIx,hm,hm2,atI,ixN,eh,gj,fInt,dZ,bF,hp,cPow,bP]
theorem ay {sc:List Int} {o:O} {T:Sto} {many:Int} {Q:D→Sto→Prop} {E:XV→Sto→Prop} (d:Dr sc o) (hm:0<many) (hm2:many<1073741824) (k:∀(v:Int) (o':O),Dr sc o'→0≤v→v<many→Q (.int v) (o'::T)):Res.wp (aI [.loc 0,.int many] (o::T)) Q E:=by
  obtain ⟨p,m,r,rfl,h0,hr⟩:=d.ex
  obtain ⟨v,p',m',r',e,h1,h2,h3,h4⟩:=pM (sc:=sc) (m:=m) (T:=T) hm hm2 h0 hr
  rw[e,fK]
  exact k v _ ⟨p',m',r',rfl,h3,h4⟩ h1 h2
theorem s9 {sc:List Int} {Q:D→Sto→Prop} {E:XV→Sto→Prop} (k:∀o,Dr sc o→Q (.loc 0) [o]):Res.wp (dQ [.ro (sc.map .int)] []) Q E:=by
  unfold dQ
  apply ac
  unfold jS
  simp
  refine fY (f:=D.int) sc (fun _ _ env S=>∃m x,env=[some (.ro (sc.map .int)),some (.int m),x]∧S=[]) rfl ⟨_,_,rfl,rfl⟩ ?_ ?_
  · rintro pre x rest env S _ ⟨m,y,rfl,rfl⟩
    refine ⟨_,rfl,?_⟩
    simp[bP,eh]
  · rintro env S ⟨m,x,rfl,rfl⟩
    simp
    exact k _ ⟨0,m,0,rfl,by omega,by omega⟩
end DL
namespace DL
open PySem PySem.Spec PyProof.Rows L2 LamX
theorem dR (lo:Int) (n:Nat):ij lo n=(List.range n).map fun i=>D.int (lo+(i:Nat)):=rfl
theorem gG {n:Nat} {pre rest:List Nat} {k:Nat} (h:pre++k::rest=List.range n):k=pre.length∧k<n:=by
  have hl:=congrArg List.length h
  simp at hl
  have hk:(pre++k::rest)[pre.length]?=some k:=by simp
  rw[h,List.getElem?_range (by omega)] at hk
  cases hk
  exact ⟨rfl,by omega⟩
/-- legs that are being drawn: k turns of them behind one another -/
structure LegsUpTo (names:List Str) (top:Int) (n:Nat) (ls:List Leg):Prop where
  ok:∀l∈ls,LegOk names l
  nd:(ls.map (·.num)).Nodup
  lt:∀l∈ls,l.num<top
  len:ls.length≤n
theorem LegsUpTo.mono {names:List Str} {t t':Int} {n n':Nat} {ls:List Leg} (h:LegsUpTo names t n ls) (h1:t≤t') (hn:n≤n'):LegsUpTo names t' n' ls:=
  ⟨h.ok,h.nd,fun l hl=>by have:=h.lt l hl; omega,by have:=h.len; omega⟩
theorem LegsUpTo.nil (names:List Str) (t:Int) (n:Nat):LegsUpTo names t n []:=⟨nofun,.nil,nofun,by simp⟩
def nm (i:Int):Str:=six.getD i.toNat ""
end DL
namespace DL
open PySem PySem.Spec PyProof.Rows L2 LamX
theorem ax {α:Type} {r:Res α} {v:α} {S0:Sto} (h:Res.wp r (fun a S'=>a=v∧S'=S0) NoE):r=.ok v S0:=by
  cases r with
  | ok a S=>rw[fK] at h; obtain ⟨rfl,rfl⟩:=h; rfl
  | exc e S=>simp at h
  | stuck=>simp at h
theorem av {τ:Type} {g:MG} {tc:MT} {m:ME} {w:En} {f:τ→D} {ds:List D} {S:Sto} {Q:List D→Sto→Prop} {E:XV→Sto→Prop} (xs:List τ) (p:τ→Bool) (v:τ→D) (e:ds=xs.map f) (hl:xs.length≤1000000)
    (hx:∀x∈xs,∃e,g (f x) w S=some (e,S)∧tc e S=.ok (p x) S∧(p x=true→m e S=.ok (v x) S)) (q:Q ((xs.filter p).map v) S):Res.wp (cr g tc m w ds [] S) Q E:=by
  rw[e,eI xs p v hl hx,fK]; exact q
theorem bU {α:Type} (xs:List α):xs.filter (fun _=>true)=xs:=List.filter_eq_self.mpr fun _ _=>rfl
@[simp] theorem tA {τ:Type} (S:Sto) (xs:List τ) (g:τ→Bool):kh S [.lst (xs.map fun x=>.bool (g x))]=some (.bool (xs.all g)):=by
  have:=ou S (xs.map g)
  rw[List.map_map] at this
  rw[show (xs.map fun x=>D.bool (g x))=xs.map (D.bool∘g) from rfl,this,List.all_map]
  rfl
@[simp] theorem cut_1 {α:Type} (xs:List α):bc xs (some 1) none=xs.tail:=by
  rw[show (1:Int)=((1:Nat):Int) from rfl,j6,List.drop_one]
/-- a whole number between two -/
def bI (x:D) (a b:Int):Bool:=match x with
  | .int i=>decide (a≤i)&&decide (i≤b)
  | _=>false
@[simp] theorem known_int:dD "int"=true:=rfl
@[simp] theorem known_bool:dD "bool"=true:=rfl
@[simp] theorem known_str:dD "str"=true:=rfl
@[simp] theorem vW:dD "tuple"=true:=rfl
@[simp] theorem known_list:dD "list"=true:=rfl
@[simp] theorem known_dict:dD "dict"=true:=rfl
@[simp] theorem tyo_int (S:Sto) (i:Int):eF S (.int i)=some "int":=rfl
@[simp] theorem tyo_bool (S:Sto) (i:Bool):eF S (.bool i)=some "bool":=rfl
@[simp] theorem tyo_str (S:Sto) (i:Str):eF S (.str i)=some "str":=rfl
@[simp] theorem tyo_tup (S:Sto) (i:List D):eF S (.tup i)=some "tuple":=rfl
@[simp] theorem tyo_tpn (S:Sto) (i:List D):eF S (.tpn i)=some "tuple":=rfl
@[simp] theorem tyo_lst (S:Sto) (i:List D):eF S (.lst i)=some "list":=rfl
@[simp] theorem tyo_none (S:Sto):eF S .none=some "NoneType":=rfl
@[simp] theorem tyo_day (S:Sto) (b:Bool) (l:List Int):eF S (dayD b l)=some "tuple":=by cases b<;>rfl
@[simp] theorem isTy_at (a b:String):isTy a b=(a == b||(a == "bool"&&b == "int")):=rfl
theorem mY {S:Sto} {x:D} {t:String} (a b:Int) (h:eF S x=some t):au [x,.int a,.int b] S=.ok (.bool (bI x a b)) S:=by
  have st:∀t:String,t≠"int"→t≠"bool"→eF S x=some t→bI x a b=false→au [x,.int a,.int b] S=.ok (.bool (bI x a b)) S:=by
    intro t h1 h2 h3 h4
    simp[au,eU,aY,h3,h1,h2,h4]
  cases x with
  | int i=>
    by_cases h1:a≤i<;>by_cases h2:i≤b<;>simp[au,eU,aY,bI,h1,h2]
  | bool i=>simp[au,eU,aY,bI]
  | none=>cases h; exact st _ (by decide) (by decide) rfl rfl
  | str=>cases h; exact st _ (by decide) (by decide) rfl rfl
  | tup=>cases h; exact st _ (by decide) (by decide) rfl rfl
  | tpn=>cases h; exact st _ (by decide) (by decide) rfl rfl
  | lst=>cases h; exact st _ (by decide) (by decide) rfl rfl
  | loc l=>
    simp only[eF] at h
    refine st t ?_ ?_ (by simp only[eF]; exact h) rfl
    · rintro rfl; split at h<;>simp at h
    · rintro rfl; split at h<;>simp at h
  | ty=>cases h
  | ro=>cases h
  | glo=>cases h
  | adr=>cases h
  | clo=>cases h
  | exn=>cases h
@[simp] theorem num_int (S:Sto) (i a b:Int):au [.int i,.int a,.int b] S=.ok (.bool (decide (a≤i)&&decide (i≤b))) S:=mY a b rfl
end DL
namespace DL
open PySem PySem.Spec PyProof.Rows L2 LamX
theorem qm {τ:Type} {ps:List τ} {pre rest:List (τ × Nat)} {x:τ × Nat} (h:pre++x::rest=ps.zipIdx):x.2=pre.length∧ps=pre.map (·.1)++x.1::rest.map (·.1):=by
  have h1:=congrArg (fun l=>l.map (·.1)) h
  have h2:=congrArg (fun l=>l[pre.length]?) h
  simp at h1 h2
  refine ⟨?_,h1.symm⟩
  obtain ⟨a,ha,e⟩:=Option.map_eq_some_iff.mp h2.symm
  rw[←e]
def cG:List Nat:=(("abcdefghijklmnopqrstuvwxyz":Str)).cps.toList
theorem NetOk.sub {ps:List (Str × Int)} {ls:List Leg} (h:NetOk ps ls):∀x∈ps.map (·.1),x∈six:=by
  obtain ⟨n,_,_,e⟩:=h.names
  rw[e]
  exact fun x hx=>List.mem_of_mem_take hx
end DL
namespace DL
open PySem PySem.Spec PyProof.Rows L2 LamX
open PySem.NumText (digitsVal AllDigits)
def pN:List Nat:=(("0123456789":Str)).cps.toList
theorem n6 (c:Nat):c∈pN↔48≤c∧c≤57:=by
  have:pN=[48,49,50,51,52,53,54,55,56,57]:=by decide +kernel
  rw[this]
  simp only[List.mem_cons,List.not_mem_nil,or_false]
  omega
def sg (c:Nat):Str:=⟨#[c]⟩
/-- the text's first sign is no 0,or it is one sign long -/
def lead (w:Str):Bool:=decide (w.length=1)||decide (w.cps.getD 0 0≠48)
def fig (w:Str):Bool:=(decide (1≤w.length)&&decide (w.length≤6))&&w.cps.toList.all fun c=>decide (c∈pN)
def br (w:Str):Option Int:=if fig w&&lead w then some ((digitsVal w.cps.toList:Nat):Int) else none
def cW:Option Int→D
  | some i=>.int i
  | none=>.none
section
variable {S:Sto} {w:Str}
theorem ug (h:fig w=true):intText? w=some ((digitsVal w.cps.toList:Nat):Int):=by
  unfold fig at h
  simp only[Bool.and_eq_true,decide_eq_true_eq,List.all_eq_true] at h
  refine intText_digits (fun c hc=>(n6 c).mp (h.2 c hc)) (fun e=>?_) (by omega)
  have:w.length=0:=by
    show w.cps.size=0
    rw[←Array.length_toList,e]
    rfl
  omega
theorem ok_sg (h:PyData.strOk w=true) {c:Nat} (hc:c∈w.cps.toList):PyData.strOk (sg c)=true:=by
  unfold PyData.strOk at h ⊢
  rw[Array.all_eq_true'] at h
  have:=h c (by simpa using hc)
  simpa [sg] using this
theorem tB (hl0:w.length≤1000000) (h:1≤w.length):w.cps.getD 0 0∈w.cps.toList∧fIx S (.str w) (.int 0)=some (.str (sg (w.cps.getD 0 0))):=by
  have hs:0<w.cps.size:=h
  have e:w.cps.getD 0 0=w.cps[0]:=by simp[Array.getD,hs]
  rw[e]
  refine ⟨by simp,?_⟩
  have hl:0<w.cps.toList.length:=by simpa using hs
  simp[fIx,atI,ixN,sg,hs,hl0]
theorem fix_sg {i:Nat} (hl0:w.length≤1000000) (h:i<w.length):fIx S (.str w) (.int (i:Nat))=some (.str (sg (w.cps.getD i 0))):=by
  have hs:i<w.cps.size:=h
  have e:w.cps.getD i 0=w.cps[i]:=by simp[Array.getD,hs]
  rw[e]
  have hl:i<w.cps.toList.length:=by simpa using hs
  have hx:=gZ (xs:=w.cps.toList) hl
  have h2:w.cps.toList[i]?=some w.cps[i]:=by
    rw[List.getElem?_eq_getElem hl]
    simp
  rw[h2] at hx
  simp[fIx,hx,sg,hl0]
theorem tC (ok:PyData.strOk w=true):dEq (.str w) (.str "0")=some (.bool (decide (w="0"))):=by
  have:PyData.strOk "0"=true:=by decide +kernel
  simp[ok,this]
theorem uh {c:Nat} (ok:PyData.strOk (sg c)=true):dNe (.str (sg c)) (.str "0")=some (.bool (decide (c≠48))):=by
  have h0:PyData.strOk "0"=true:=by decide +kernel
  have e:(sg c=("0":Str))↔c=48:=by
    constructor
    · intro h
      have h2:(sg c).cps=(("0":Str)).cps:=by rw[h]
      have h3:(("0":Str)).cps=#[48]:=by decide +kernel
      rw[h3] at h2
      simpa [sg] using h2
    · rintro rfl
      decide +kernel
  simp[ok,h0,e]
theorem tD (h:1≤w.length):lead w=(decide (w="0")||decide (w.cps.getD 0 0≠48)):=by
  unfold lead
  by_cases h0:w.cps.getD 0 0=48
  · have e:w.length=1↔w="0":=by
      constructor
      · intro h1
        have h2:=nE (x:=w) h1
        rw[h2,h0]
        decide +kernel
      · rintro rfl
        decide +kernel
    simp[h0,e]
  · rw[decide_eq_true h0]
    simp
theorem lT (hl:w.length≤1000000) (ok:PyData.strOk w=true):cK [.str w] S=.ok (cW (br w)) S:=by
  have e1:bF S [.str w]=some (.int w.length):=by simp[bF,hl]
  have hi:cJ S (.str w)=some (.items (w.cps.toList.map fun c=>D.str ⟨#[c]⟩)):=by simp[cJ,hl,bj]
  apply ax
  unfold cK
  apply ac
  unfold jQ
  by_cases h1:1≤w.length
  · by_cases h2:w.length≤6
    · have h1':(1:Int)≤w.length:=by omega
      have h2':(w.length:Int)≤6:=by omega
      simp -dsimp [e1,h1',h2',hi]
      refine av (f:=fun c=>D.str ⟨#[c]⟩) w.cps.toList (fun _=>true) (fun c=>.bool (decide (c∈pN))) rfl (by simpa [Str.length] using hl) (fun c hc=>⟨_,rfl,rfl,fun _=>?_⟩) ?_
      · simp[dIn,pN]
      · rw[bU]
        obtain ⟨hin,hf⟩:=tB (S:=S) hl h1
        have q1:=uh (ok_sg ok hin)
        have ez:=tD h1
        obtain ⟨c0,hc0⟩:∃c0,c0=w.cps.getD 0 0:=⟨_,rfl⟩
        rw[←hc0] at hf q1 ez
        have q2:=tC ok
        have h1'':decide (1≤w.length)=true:=decide_eq_true h1
        have h2'':decide (w.length≤6)=true:=decide_eq_true h2
        cases hA:w.cps.toList.all fun c=>decide (c∈pN) with
        | false=>
          have hn:br w=none:=by unfold br fig; rw[hA]; simp
          rw[hn]
          simp -dsimp [hA]
          rfl
        | true=>
          have hfig:fig w=true:=by unfold fig; rw[hA,h1'',h2'']; rfl
          have hint:=ug hfig
          have hl640:w.length≤640:=by omega
          have hn:br w=if lead w then some ((digitsVal w.cps.toList:Nat):Int) else none:=by unfold br; rw[hfig]; rfl
          rw[hn,ez]
          generalize decide (w="0")=b1 at q2 ⊢
          generalize decide (c0≠48)=b2 at q1 ⊢
          have hA:(w.cps.toList.all fun c=>decide (c∈pN))=true:=hA
          cases b1 with
          | true=>
            simp -dsimp [hA,q2,hint,hl640,-aU,-a6]
            rfl
          | false=>
            cases b2 with
            | true=>
              simp -dsimp [hA,q2,hf,q1,hint,hl640,-aU,-a6]
              rfl
            | false=>
              simp -dsimp [hA,q2,hf,q1,-aU,-a6]
              rfl
    · have hn:br w=none:=by unfold br fig; rw[decide_eq_false h2]; simp
      have h1':(1:Int)≤w.length:=by omega
      have h2':¬(w.length:Int)≤6:=by omega
      rw[hn]
      simp -dsimp [e1,h1',h2']
      rfl
  · have hn:br w=none:=by unfold br fig; rw[decide_eq_false h1]; simp
    have h1':¬(1:Int)≤w.length:=by omega
    rw[hn]
    simp -dsimp [e1,h1']
    rfl
end
end DL
namespace DL
open PySem PySem.Spec PyProof.Rows L2 LamX
open PySem.NumText (digitsVal AllDigits)
section
variable {S:Sto} {w:Str}
theorem qo (ok:PyData.strOk w=true) (p:Nat→Bool):((w.cps.toList.filter p).map fun c=>D.str ⟨#[c]⟩).all (dok 59)=true:=by
  rw[List.all_eq_true]
  intro z hz
  obtain ⟨c,hc,rfl⟩:=List.mem_map.mp hz
  rw[mK]
  exact ok_sg ok (List.mem_filter.mp hc).1
theorem qp (ok:PyData.strOk w=true) (p:Nat→Bool):dNe (.lst ((w.cps.toList.filter p).map fun c=>D.str ⟨#[c]⟩)) (.lst [])=some (.bool (!(w.cps.toList.all fun c=>!p c)))∧dEq (.lst ((w.cps.toList.filter p).map fun c=>D.str ⟨#[c]⟩)) (.lst [])=some (.bool (w.cps.toList.all fun c=>!p c)):=by
  have h1:=qo ok p
  have h2:dok 60 (.lst ((w.cps.toList.filter p).map fun c=>D.str ⟨#[c]⟩))=true:=h1
  have h3:peq (.lst ((w.cps.toList.filter p).map fun c=>D.str ⟨#[c]⟩)) (.lst [])=w.cps.toList.all fun c=>!p c:=by
    rw[mI]
    cases h:w.cps.toList.filter p with
    | nil=>
      have:(w.cps.toList.all fun c=>!p c)=true:=by
        rw[List.all_eq_true]
        intro c hc
        have:=(List.filter_eq_nil_iff.mp h) c hc
        simpa using this
      rw[this]
      simp
    | cons a l=>
      have hm:a∈w.cps.toList.filter p:=by rw[h]; exact List.mem_cons_self
      have hm:=List.mem_filter.mp hm
      have:(w.cps.toList.all fun c=>!p c)=false:=by
        rw[List.all_eq_false]
        exact ⟨a,hm.1,by simp[hm.2]⟩
      rw[this]
      simp
  unfold dNe dEq
  rw[h2,h3]
  exact ⟨rfl,rfl⟩
/-- what a split's parts are -/
def Okt (w:Str):Prop:=w.length≤100000∧PyData.strOk w=true
def eX (a b:Option Int):Option D:=match a,b with
  | some i,some j=>if i≤60∧1≤j∧j≤9999 then some (.tpn [.int i,.int j]) else none
  | _,_=>none
def kO:List (Option Int)→Option D
  | [a,b]=>eX a b
  | _=>none
def aw (w:Str):Option D:=kO ((Txt.split w ":").map br)
def az:Option D→D
  | some d=>d
  | none=>.none
theorem ui {i:Int} (h:br w=some i):0≤i:=by
  unfold br at h
  split at h
  · cases h
    exact Int.natCast_nonneg _
  · cases h
end
end DL
namespace DL
open PySem PySem.Spec PyProof.Rows L2 LamX
section
variable {S:Sto} {w s:Str}
theorem eL (a b:Str) (ha:PyData.strOk a=true) (hb:PyData.strOk b=true) (h:a≠b):dEq (.str a) (.str b)=some (.bool false):=by simp[ha,hb,h]
theorem jZ (a:Str) (ha:PyData.strOk a=true):dEq (.str a) (.str a)=some (.bool true):=by simp[ha]
theorem a7:PyData.strOk "n"=true∧PyData.strOk "r"=true∧PyData.strOk "v"=true∧PyData.strOk "w"=true∧PyData.strOk ""=true:=by decide +kernel
theorem af:("n":Str)≠"r"∧("n":Str)≠"v"∧("v":Str)≠"n"∧("v":Str)≠"r"∧("w":Str)≠"n"∧("w":Str)≠"r"∧("w":Str)≠"v"∧("r":Str)≠"n":=by decide +kernel
theorem iW {c:Nat} (h:w.length≤100000):de S (.str w) [.str (sg c)]=some (.lst ((Txt.split w (sg c)).map .str),S):=by
  show (if (((sg c).length == 0)=false∧w.length≤100000) then some (D.lst ((Txt.split w (sg c)).map D.str),S) else none)=_
  rw[if_pos ⟨rfl,h⟩]
theorem gb {c:Nat}:(Txt.split w (sg c)).length≤w.length+1:=by
  have:=split_weight w (sg c) (Nat.le_refl 1)
  omega
theorem qL {c:Nat}:∀(ys:List Str) {y:Str},y∈ys→∀k∈y.cps.toList,k∈(PySem.Str.join (sg c) ys).cps.toList
  | [],y,h,k,hk=>by cases h
  | [x],y,h,k,hk=>by
    rw[List.mem_singleton.mp h] at hk
    exact hk
  | x::z::ys,y,h,k,hk=>by
    show k∈(x.cps++(sg c).cps++(PySem.Str.join (sg c) (z::ys)).cps).toList
    rw[Array.toList_append,List.mem_append]
    rcases List.mem_cons.mp h with rfl|h
    · left
      rw[Array.toList_append,List.mem_append]
      exact .inl hk
    · exact .inr (qL (z::ys) h k hk)
theorem iX {c:Nat} (h:Okt w) {y:Str} (hy:y∈Txt.split w (sg c)):Okt y:=by
  refine ⟨Nat.le_trans (part_short hy) h.1,?_⟩
  have hc:=split_closes w c
  rw[Bool.and_eq_true] at hc
  have he:PySem.Str.join (sg c) (Txt.split w (sg c))=w:=by simpa [sg] using hc.1
  have h2:=h.2
  unfold PyData.strOk at h2 ⊢
  rw[Array.all_eq_true'] at h2 ⊢
  intro k hk
  have:=qL (c:=c) (Txt.split w (sg c)) hy k (by simpa using hk)
  rw[he] at this
  exact h2 k (by simpa using this)
theorem pO (a b:Option Int) (ha:∀i,a=some i→0≤i):bR [.tpn [cW a,cW b]] S=.ok (.bool (eX a b).isSome) S:=by
  have e0:∀S',fIx S' (.tpn [cW a,cW b]) (.int 0)=some (cW a):=fun _=>rfl
  have e1:∀S',fIx S' (.tpn [cW a,cW b]) (.int 1)=some (cW b):=fun _=>rfl
  have t:∀c:Option Int,∃ty,eF S (cW c)=some ty:=fun c=>by cases c<;>exact ⟨_,rfl⟩
  obtain ⟨ta,hta⟩:=t a
  obtain ⟨tb,htb⟩:=t b
  have n1:=mY 0 60 hta
  have n2:=mY 1 9999 htb
  apply ax
  unfold bR
  apply ac
  unfold iw
  simp -dsimp [aY,e0,e1,n1,n2]
  cases a with
  | none=>simp[cW,bI,eX]
  | some i=>
    have h0:=ha i rfl
    cases b with
    | none=>
      simp[cW,bI,eX]
      split<;>simp_all
    | some j=>
      simp[cW,bI,eX,h0]
      by_cases h1:i≤60<;>by_cases h2:1≤j<;>by_cases h3:j≤9999<;>simp[h1,h2,h3]
end
end DL
namespace DL
open PySem PySem.Spec PyProof.Rows L2 LamX
def ja (w:Str):Bool:=decide (w≠"")&&w.cps.toList.all fun c=>decide (c∈cG)
def lU (rs:List (Option D)):Option D:=if rs.all Option.isSome then some (.tpn (rs.map az)) else none
def gH (w:Str):Option D:=lU ((Txt.split w ",").map aw)
def dU (s w:Str):Option D:=if s="n" then (br w).map .int else if s="r" then aw w else if s="v" then gH w else if ja w then some (.str w) else none
section
variable {S:Sto} {w s:Str} {n:Nat}
theorem uj (a:Option Int):cW a=az (a.map .int):=by cases a<;>rfl
theorem qq {a b:Option Int}:dok 58 (az (eX a b))=true:=by
  unfold eX
  split
  · split
    · simp[az]
    · rfl
  · rfl
theorem qr {a b:Option Int} {d:D} (h:eX a b=some d):d=.tpn [cW a,cW b]:=by
  unfold eX at h
  split at h
  · split at h
    · cases h; rfl
    · cases h
  · cases h
theorem tF {τ:Type} {ys:List τ} (h:ys.length=2):∃a b,ys=[a,b]:=by
  match ys,h with
  | [a,b],_=>exact ⟨a,b,rfl⟩
theorem qt {τ:Type} {f:τ→Option Int} {ys:List τ} (h:ys.length≠2):kO (ys.map f)=none:=by
  match ys,h with
  | [],_=>rfl
  | [a],_=>rfl
  | [a,b],h=>exact absurd rfl h
  | a::b::c::l,_=>rfl
theorem qu:dok 58 (az (aw w))=true:=by
  unfold aw kO
  split
  · exact qq
  · rfl
theorem qv (h:w.length≤100000):de S (.str w) [.str ":"]=some (.lst ((Txt.split w ":").map .str),S):=iW (c:=58) h
theorem qw (h:w.length≤100000):de S (.str w) [.str ","]=some (.lst ((Txt.split w ",").map .str),S):=iW (c:=44) h
theorem col_ok (h:Okt w) {y:Str} (hy:y∈Txt.split w ":"):Okt y:=iX (c:=58) h hy
theorem com_ok (h:Okt w) {y:Str} (hy:y∈Txt.split w ","):Okt y:=iX (c:=44) h hy
theorem uk:(Txt.split w ":").length≤w.length+1:=gb (c:=58)
theorem ul:(Txt.split w ",").length≤w.length+1:=gb (c:=44)
theorem lV (ys:List Str):cJ S (.lst (ys.map .str))=some (.items (ys.map D.str)):=rfl
theorem part_n (h:Okt w):a8 (n+1) [.str w,.str "n"] S=.ok (cW (br w)) S:=by
  have e1:=lT (S:=S) (w:=w) (by have:=h.1; omega) h.2
  have q1:=jZ "n" a7.1
  apply ax
  unfold a8
  apply ac
  simp -dsimp [q1,e1,-aU]
theorem tH (h:Okt w):a8 (n+1) [.str w,.str "r"] S=.ok (az (aw w)) S:=by
  have hl:=h.1
  have q1:=eL "r" "n" a7.2.1 a7.1 af.2.2.2.2.2.2.2
  have q2:=jZ "r" a7.2.1
  have hsp:=fun S=>qv (S:=S) h.1
  have hfew:=uk (w:=w)
  obtain ⟨ys,hys⟩:∃ys,ys=Txt.split w ":":=⟨_,rfl⟩
  have hok:∀y∈ys,Okt y:=fun y hy=>col_ok h (by rw[←hys]; exact hy)
  rw[←hys] at hsp hfew
  have hW:aw w=kO (ys.map br):=by unfold aw; rw[←hys]
  rw[hW]
  have isb:∀S,bM S (.str w)=true:=fun _=>rfl
  apply ax
  unfold a8
  apply ac
  simp -dsimp [q1,q2,hsp,isb,lV,-aU]
  refine av (f:=D.str) ys (fun _=>true) (fun y=>cW (br y)) rfl (by omega) (fun y hy=>⟨_,rfl,rfl,fun _=>?_⟩) ?_
  · have e1:=lT (S:=S) (w:=y) (by have:=(hok y hy).1; omega) (hok y hy).2
    simp[e1]
  · rw[bU]
    by_cases h2:ys.length=2
    · obtain ⟨a,b,rfl⟩:=tF h2
      have hr:=pO (S:=S) (br a) (br b) fun i hi=>ui hi
      have ft:jW S [.lst [cW (br a),cW (br b)]]=some (.tpn [cW (br a),cW (br b)]):=rfl
      have q3:dEq (.int 2) (.int 2)=some (.bool true):=by simp
      have hl2:bF S [.lst [cW (br a),cW (br b)]]=some (.int 2):=by simp[bF]
      have hLL:kO ([a,b].map br)=eX (br a) (br b):=rfl
      rw[hLL]
      rw[show ([a,b].map fun y=>cW (br y))=[cW (br a),cW (br b)] from rfl]
      cases hR:eX (br a) (br b) with
      | none=>
        rw[hR] at hr
        have hr:bR [.tpn [cW (br a),cW (br b)]] S=.ok (.bool false) S:=hr
        simp -dsimp [hl2,q3,ft,hr,-aU]
        rfl
      | some d=>
        have hv:=qr hR
        rw[hR] at hr
        have hr:bR [.tpn [cW (br a),cW (br b)]] S=.ok (.bool true) S:=hr
        simp -dsimp [hl2,q3,ft,hr,-aU]
        rw[hv]
        rfl
    · have hl2:bF S [.lst (ys.map fun y=>cW (br y))]=some (.int ys.length):=by simp[bF]
      have q3:dEq (.int ys.length) (.int 2)=some (.bool false):=by
        have:¬((ys.length:Int)=2):=by omega
        simp[this]
      rw[qt h2]
      simp -dsimp [hl2,q3,-aU]
      rfl
end
end DL
namespace DL
open PySem PySem.Spec PyProof.Rows L2 LamX
section
variable {S:Sto} {w s:Str} {n:Nat}
theorem i4 {d:D} (h:aw w=some d):∃i j:Int,d=.tpn [.int i,.int j]:=by
  unfold aw kO at h
  split at h
  · unfold eX at h
    split at h
    · split at h
      · cases h; exact ⟨_,_,rfl⟩
      · cases h
    · cases h
  · cases h
theorem um (ys:List Str):dIn S .none (.lst (ys.map fun y=>az (aw y)))=some (!(ys.map aw).all Option.isSome):=by
  have h1:dok 60 (.lst (ys.map fun y=>az (aw y)))=true:=by
    show (ys.map fun y=>az (aw y)).all (dok 59)=true
    rw[List.all_eq_true]
    intro z hz
    obtain ⟨y,_,rfl⟩:=List.mem_map.mp hz
    cases h:aw y with
    | none=>rfl
    | some d=>
      obtain ⟨i,j,rfl⟩:=i4 h
      rfl
  have h2:((ys.map fun y=>az (aw y)).any fun z=>peq z .none)=!(ys.map aw).all Option.isSome:=by
    rw[List.any_map,List.all_map]
    induction ys with
    | nil=>rfl
    | cons y ys ih=>
      have ih:=ih (by
        have:(D.lst ((y::ys).map fun y=>az (aw y)))=.lst (az (aw y)::ys.map fun y=>az (aw y)):=rfl
        rw[this] at h1
        have h1:(dok 59 (az (aw y))&&(ys.map fun y=>az (aw y)).all (dok 59))=true:=h1
        rw[Bool.and_eq_true] at h1
        exact h1.2)
      rw[List.any_cons,List.all_cons,ih]
      cases h:aw y with
      | none=>
        have:((fun z=>peq z D.none)∘fun y=>az (aw y)) y=true:=by
          show peq (az (aw y)) .none=true
          rw[h]
          exact sW
        rw[this]
        simp[h]
      | some d=>
        obtain ⟨i,j,rfl⟩:=i4 h
        have:((fun z=>peq z D.none)∘fun y=>az (aw y)) y=false:=by
          show peq (az (aw y)) .none=false
          rw[h]
          rfl
        rw[this]
        simp[h]
  show (if dok 60 .none&&dok 60 (.lst (ys.map fun y=>az (aw y))) then some ((ys.map fun y=>az (aw y)).any fun z=>peq z .none) else none)=_
  rw[h1,h2]
  rfl
theorem part_v (h:Okt w):a8 (n+2) [.str w,.str "v"] S=.ok (az (gH w)) S:=by
  have hl:=h.1
  have q1:=eL "v" "n" a7.2.2.1 a7.1 af.2.2.1
  have q2:=eL "v" "r" a7.2.2.1 a7.2.1 af.2.2.2.1
  have q3:=jZ "v" a7.2.2.1
  have hsp:=fun S=>qw (S:=S) h.1
  have hfew:=ul (w:=w)
  obtain ⟨ys,hys⟩:∃ys,ys=Txt.split w ",":=⟨_,rfl⟩
  have hok:∀y∈ys,Okt y:=fun y hy=>com_ok h (by rw[←hys]; exact hy)
  rw[←hys] at hsp hfew
  have hW:gH w=lU (ys.map aw):=by unfold gH; rw[←hys]
  rw[hW]
  have isb:∀S,bM S (.str w)=true:=fun _=>rfl
  apply ax
  unfold a8
  apply ac
  simp -dsimp [q1,q2,q3,hsp,isb,lV,-aU]
  refine av (f:=D.str) ys (fun _=>true) (fun y=>az (aw y)) rfl (by omega) (fun y hy=>⟨_,rfl,rfl,fun _=>?_⟩) ?_
  · have e1:=tH (S:=S) (n:=n) (hok y hy)
    simp[e1]
  · rw[bU]
    have hin:=um (S:=S) ys
    have ft:jW S [.lst (ys.map fun y=>az (aw y))]=some (.tpn (ys.map fun y=>az (aw y))):=rfl
    have hT:lU (ys.map aw)=if (ys.map aw).all Option.isSome then some (.tpn (ys.map fun y=>az (aw y))) else none:=by
      unfold lU
      rw[List.map_map]
      rfl
    rw[hT]
    generalize (ys.map aw).all Option.isSome=b at hin ⊢
    generalize (ys.map fun y=>az (aw y))=L at hin ft ⊢
    cases b with
    | true=>
      simp -dsimp [fIn,hin,ft]
      rfl
    | false=>
      simp -dsimp [fIn,hin,ft]
      rfl
theorem part_w (h:Okt w):a8 (n+1) [.str w,.str "w"] S=.ok (if ja w then .str w else .none) S:=by
  have hl:=h.1
  have ok:=h.2
  have q1:=eL "w" "n" a7.2.2.2.1 a7.1 af.2.2.2.2.1
  have q2:=eL "w" "r" a7.2.2.2.1 a7.2.1 af.2.2.2.2.2.1
  have q3:=eL "w" "v" a7.2.2.2.1 a7.2.2.1 af.2.2.2.2.2.2.1
  have hi:cJ S (.str w)=some (.items (w.cps.toList.map fun c=>D.str ⟨#[c]⟩)):=by simp[cJ,show w.length≤1000000 by omega,bj]
  have q4:dNe (.str w) (.str "")=some (.bool (decide (w≠""))):=by simp[ok,a7.2.2.2.2]
  have hcl:w.cps.toList.length≤1000000:=by
    have:w.cps.toList.length=w.length:=by simp[Str.length]
    omega
  have hp:bq [.str w,.str "w"] S=.ok (.bool (ja w)) S:=by
    apply ax
    unfold bq
    apply ac
    unfold iy
    unfold ja
    cases hb:decide (w≠"") with
    | false=>
      rw[hb] at q4
      simp -dsimp [q1,q2,q3,aY,q4,-aU,-a6]
    | true=>
      rw[hb] at q4
      simp -dsimp [q1,q2,q3,aY,q4,hi,-aU,-a6]
      refine av (f:=fun c=>D.str ⟨#[c]⟩) w.cps.toList (fun _=>true) (fun c=>.bool (decide (c∈cG))) rfl hcl (fun c hc=>⟨_,rfl,rfl,fun _=>?_⟩) ?_
      · simp[dIn,cG]
      · rw[bU]
        simp -dsimp
  apply ax
  unfold a8
  apply ac
  simp -dsimp [q1,q2,q3,hp,-aU]
  cases ja w<;>simp
theorem uo (h:Okt w) (hs:s="n"∨s="r"∨s="v"∨s="w"):a8 2 [.str w,.str s] S=.ok (az (dU s w)) S:=by
  unfold dU
  rcases hs with rfl|rfl|rfl|rfl
  · rw[part_n h,uj]; rfl
  · rw[tH h,if_neg af.2.2.2.2.2.2.2]; rfl
  · rw[part_v h,if_neg af.2.2.1,if_neg af.2.2.2.1]; rfl
  · rw[part_w h,if_neg af.2.2.2.2.1,if_neg af.2.2.2.2.2.1,if_neg af.2.2.2.2.2.2.1]
    cases ja w<;>rfl
end
end DL
namespace DL
open PySem PySem.Spec PyProof.Rows L2 LamX
abbrev shTbl:List (Str × Str):=[("fly","rw"),("sell","wvw"),("back","n"),("away","n"),("late","rn"),("off","r"),("kind","ww"),("turn","n"),("mend","n")]
abbrev dTbl:List (Str × Int):=[("fly",2),("sell",3),("back",1),("away",1),("late",2),("off",1),("kind",2),("turn",1),("mend",1)]
abbrev sTbl:List (Str × Str):=[("fly","rw"),("sell","wvw"),("back","n"),("away","n"),("late","rn"),("off","r"),("kind","ww"),("turn","n")]
def sgs (z:Str):List Str:=z.cps.toList.map sg
def bt (z:Str) (rest:List Str):List (Option D):=(rest.zip (sgs z)).map fun p=>dU p.2 p.1
def gI (h:Str) (rest:List Str):Option D:=match shTbl.lookup h with
  | none=>none
  | some z=>if rest.length=z.length∧(bt z rest).all Option.isSome=true then some (.tup (.str h::(bt z rest).map az)) else none
def qM:List Str→Option D
  | h::rest=>gI h rest
  | []=>none
def fO (row:Str):Option D:=qM (Txt.split row " ")
section
variable {S:Sto} {w s:Str} {n:Nat}
theorem cL {τ:Type} {h:Str} {z:τ}:∀ {l:List (Str × τ)},l.lookup h=some z→(h,z)∈l
  | [],e=>by cases e
  | (k,v)::l,e=>by
    rw[List.lookup_cons] at e
    by_cases hk:h=k
    · subst hk
      simp at e
      rw[e]
      exact List.mem_cons_self
    · have:(h == k)=false:=by simpa using hk
      rw[this] at e
      exact List.mem_cons_of_mem _ (cL e)
theorem gJ {τ:Type} {h:Str}:∀ {l:List (Str × τ)},l.lookup h=none→(l.map (·.1)).contains h=false
  | [],e=>rfl
  | (k,v)::l,e=>by
    rw[List.lookup_cons] at e
    by_cases hk:h=k
    · subst hk
      simp at e
    · have h1:(h == k)=false:=by simpa using hk
      rw[h1] at e
      rw[List.map_cons,List.contains_cons,h1,Bool.false_or]
      exact gJ e
theorem iY:∀p∈shTbl,dTbl.lookup p.1=some ((p.2.length:Nat):Int)∧(dTbl.map (·.1)).contains p.1=true∧(match sTbl.lookup p.1 with|some y=>y|none=>"n")=p.2∧(∀q∈sgs p.2,q="n"∨q="r"∨q="v"∨q="w")∧p.2.length≤3∧PyData.strOk p.1=true:=by decide +kernel
theorem n7:dTbl.map (·.1)=shTbl.map (·.1):=by decide +kernel
theorem uq {h z:Str} (e:shTbl.lookup h=some z):fZ sTbl h (.str "n")=.str z:=by
  have:=(iY _ (cL e)).2.2.1
  unfold fZ
  cases hl:sTbl.lookup h with
  | none=>rw[hl] at this; exact congrArg D.str this
  | some y=>rw[hl] at this; exact congrArg D.str this
theorem lW (z:Str):bj z=(sgs z).map .str:=by
  unfold bj sgs
  rw[List.map_map]
  rfl
theorem kP {h z:Str} (e:shTbl.lookup h=some z):bz [.str h] S=.ok (.str z) S:=by
  have:=uq e
  apply ax
  unfold bz
  apply ac
  unfold kI
  simp -dsimp [this]
theorem tJ (os:List (Option D)) (h:∀o∈os,∀d,o=some d→dok 59 d=true∧peq d .none=false):dIn S .none (.lst (os.map az))=some (!os.all Option.isSome):=by
  have h1:dok 60 (.lst (os.map az))=true:=by
    show (os.map az).all (dok 59)=true
    rw[List.all_eq_true]
    intro z hz
    obtain ⟨o,ho,rfl⟩:=List.mem_map.mp hz
    cases o with
    | none=>rfl
    | some d=>exact (h _ ho d rfl).1
  have h2:((os.map az).any fun z=>peq z .none)=!os.all Option.isSome:=by
    rw[List.any_map]
    clear h1
    induction os with
    | nil=>rfl
    | cons o os ih=>
      rw[List.any_cons,List.all_cons,ih fun o ho=>h o (List.mem_cons_of_mem _ ho)]
      cases o with
      | none=>
        have:((fun z=>peq z D.none)∘az) none=true:=sW
        rw[this]
        simp
      | some d=>
        have:((fun z=>peq z D.none)∘az) (some d)=false:=(h _ List.mem_cons_self d rfl).2
        rw[this]
        simp
  show (if dok 60 .none&&dok 60 (.lst (os.map az)) then some ((os.map az).any fun z=>peq z .none) else none)=_
  rw[h1,h2]
  rfl
theorem tK {d:D} (h:Okt w) (e:dU s w=some d):dok 59 d=true∧peq d .none=false:=by
  unfold dU at e
  split at e
  · cases hn:br w with
    | none=>rw[hn] at e; cases e
    | some i=>rw[hn] at e; cases e; exact ⟨rfl,rfl⟩
  · split at e
    · obtain ⟨i,j,rfl⟩:=i4 e
      exact ⟨rfl,rfl⟩
    · split at e
      · unfold gH lU at e
        split at e
        · rename_i ha
          cases e
          refine ⟨?_,rfl⟩
          show (((Txt.split w ",").map aw).map az).all (dok 58)=true
          rw[List.all_eq_true]
          intro z hz
          obtain ⟨o,ho,rfl⟩:=List.mem_map.mp hz
          obtain ⟨y,hy,rfl⟩:=List.mem_map.mp ho
          exact qu
        · cases e
      · split at e
        · cases e
          exact ⟨h.2,rfl⟩
        · cases e
end
end DL
namespace DL
open PySem PySem.Spec PyProof.Rows L2 LamX
section
variable {S:Sto} {w s:Str} {n:Nat}
theorem qx (h:w.length≤100000):de S (.str w) [.str " "]=some (.lst ((Txt.split w " ").map .str),S):=iW (c:=32) h
theorem spc_ok (h:Okt w) {y:Str} (hy:y∈Txt.split w " "):Okt y:=iX (c:=32) h hy
theorem uu:(Txt.split w " ").length≤w.length+1:=gb (c:=32)
theorem n8 (w:Str) (c:Nat):Txt.split w (sg c)≠[]:=by
  unfold Txt.split
  split
  · simp
  · split
    · simp
    · intro h
      have:=congrArg List.length h
      rw[length_partsBetween] at this
      simp at this
theorem dE (z:Str):(sgs z).length=z.length:=by
  unfold sgs
  simp[Str.length]
theorem kQ {tbl:List (Str × Int)} {hd:Str} {b:Bool} (h:(tbl.map (·.1)).contains hd=b) (env:En) (S:Sto) (e:env[1]?=some (some (.str hd))):iN true tbl (eV 1) env S=.ok (.bool (!b)) S:=by
  rw[dM]
  have:eV 1 env S=.ok (.str hd) S:=by simp[e]
  rw[this,←h]
  rfl
theorem pP {tbl:List (Str × Int)} {hd:Str} {i:Int} (h:tbl.lookup hd=some i) (env:En) (S:Sto) (e:env[1]?=some (some (.str hd))):kA tbl (eV 1) env S=.ok (.int i) S:=by
  rw[fL]
  have:eV 1 env S=.ok (.str hd) S:=by simp[e]
  rw[this]
  show ofO S ((tbl.lookup hd).map D.int)=_
  rw[h]
  rfl
theorem uv (h:Okt w):fN [.str w] S=.ok (az (fO w)) S:=by
  have hsp:=fun S=>qx (S:=S) h.1
  have hfew:=uu (w:=w)
  have hne:Txt.split w " "≠[]:=n8 w 32
  have hl:=h.1
  have hW:fO w=qM (Txt.split w " "):=rfl
  have hok:∀y∈Txt.split w " ",Okt y:=fun y hy=>spc_ok h hy
  rw[hW]
  obtain ⟨hd,rest,hys⟩:∃hd rest,Txt.split w " "=hd::rest:=by
    cases e:Txt.split w " " with
    | nil=>exact absurd e hne
    | cons a l=>exact ⟨a,l,rfl⟩
  rw[hys] at hsp hfew hok ⊢
  have hR:qM (hd::rest)=gI hd rest:=rfl
  rw[hR]
  have hrl:rest.length≤100000:=by
    rw[List.length_cons] at hfew
    omega
  have isb:∀S,bM S (.str w)=true:=fun _=>rfl
  have e2:bF S [.lst (rest.map .str)]=some (.int rest.length):=by simp[bF,show rest.length≤1000000 by omega]
  apply ax
  unfold fN
  apply ac
  unfold lS
  cases hL:shTbl.lookup hd with
  | none=>
    have hc:=gJ hL
    rw[←n7] at hc
    have hk:=kQ hc
    have hE:gI hd rest=none:=by unfold gI; rw[hL]
    rw[hE]
    simp -dsimp [hsp,isb,hk,-dM]
    rfl
  | some z=>
    have hT:=iY _ (cL hL)
    have hsh:=kP (S:=S) hL
    have q1:dNe (.int rest.length) (.int (z.length:Nat))=some (.bool (!decide (rest.length=z.length))):=by
      have:((rest.length:Int)=((z.length:Nat):Int))↔rest.length=z.length:=by omega
      simp[this]
    have hc:(dTbl.map (·.1)).contains hd=true:=hT.2.1
    have hlk:dTbl.lookup hd=some ((z.length:Nat):Int):=hT.1
    have hk:=kQ hc
    have hx:=pP hlk
    by_cases hz:rest.length=z.length
    · rw[decide_eq_true hz] at q1
      have hE:gI hd rest=if (bt z rest).all Option.isSome=true then some (D.tup (.str hd::(bt z rest).map az)) else none:=by
        unfold gI
        rw[hL]
        simp[hz]
      rw[hE]
      have hzip:lN [.lst (rest.map .str),.str z]=some ((rest.zip (sgs z)).map fun p=>D.tup [.str p.1,.str p.2]):=by
        show some (cU (rest.map .str) (bj z))=_
        rw[lW,qD]
      have hzl:(rest.zip (sgs z)).length=z.length:=by
        rw[List.length_zip,dE]
        omega
      have hsh2:∀S,bz [.str hd] S=.ok (.str z) S:=fun S=>kP hL
      simp -dsimp [hsp,isb,hk,hx,e2,q1,hsh2,hzip,-a6,-dM,-fL]
      refine av (f:=fun p:Str × Str=>D.tup [.str p.1,.str p.2]) (rest.zip (sgs z)) (fun _=>true) (fun p=>az (dU p.2 p.1)) rfl (by have:=hT.2.2.2.2.1; omega) (fun p hp=>⟨_,rfl,rfl,fun _=>?_⟩) ?_
      · have hm:=List.of_mem_zip (a:=p.1) (b:=p.2) hp
        have e1:=uo (S:=S) (hok p.1 (List.mem_cons_of_mem _ hm.1)) (hT.2.2.2.1 p.2 hm.2)
        simp[e1]
      · rw[bU]
        have hP:((rest.zip (sgs z)).map fun p=>az (dU p.2 p.1))=(bt z rest).map az:=by
          unfold bt
          rw[List.map_map]
          rfl
        rw[hP]
        have hin:=tJ (S:=S) (bt z rest) fun o ho d hd2=>by
          unfold bt at ho
          obtain ⟨p,hp,rfl⟩:=List.mem_map.mp ho
          have hm:=List.of_mem_zip (a:=p.1) (b:=p.2) hp
          exact tK (hok p.1 (List.mem_cons_of_mem _ hm.1)) hd2
        have ft:jW S [.lst ((bt z rest).map az)]=some (.tpn ((bt z rest).map az)):=rfl
        have hpl:((bt z rest).map az).length≤3:=by
          unfold bt
          rw[List.length_map,List.length_map,hzl]
          exact hT.2.2.2.2.1
        have had:am (.tup [.str hd]) (.tpn ((bt z rest).map az))=some (.tup (.str hd::(bt z rest).map az)):=by
          show (if [D.str hd].length+((bt z rest).map az).length≤1000000 then some (if [D.str hd]=[] then D.tpn ((bt z rest).map az) else .tup ([D.str hd]++(bt z rest).map az)) else none)=_
          rw[if_pos (by show 1+_≤_; omega),if_neg (by simp)]
          rfl
        generalize (bt z rest).all Option.isSome=b at hin ⊢
        generalize (bt z rest).map az=L at hin ft had ⊢
        cases b with
        | true=>
          simp -dsimp [fIn,hin,ft,had]
          rfl
        | false=>
          simp -dsimp [fIn,hin,ft]
          rfl
    · rw[decide_eq_false hz] at q1
      have hE:gI hd rest=none:=by
        unfold gI
        rw[hL]
        simp[hz]
      rw[hE]
      simp -dsimp [hsp,isb,hk,hx,e2,q1,hz,-a6,-dM,-fL]
      rfl
end
end DL
namespace DL
open PySem PySem.Spec PyProof.Rows L2 LamX
def eN (t:Str):List Str:=if t="" then [] else Txt.split t "\n"
def rowD (y:Str):D:=az (fO y)
def badAt (rows:List Str) (k:Nat):Prop:=∃pre y post,rows=pre++y::post∧k=pre.length∧(∀p∈pre,(fO p).isSome=true)∧fO y=none
structure RdI (S:Sto) (t:Str) (rows:List Str) (pre:List (Str × Nat)) (env:En) (S':Sto):Prop where
  ex:∃e2 e3 e4,env=[some (.str t),some (.loc S.length),e2,e3,e4]∧S'=S++[.lst ((pre.map (·.1)).map rowD)]∧∀p∈pre.map (·.1),(fO p).isSome=true
section
variable {S:Sto} {t:Str} {n:Nat}
theorem tL (h:t.length≤100000):de S (.str t) [.str "\n"]=some (.lst ((Txt.split t "\n").map .str),S):=iW (c:=10) h
theorem nl_ok (h:Okt t) {y:Str} (hy:y∈Txt.split t "\n"):Okt y:=iX (c:=10) h hy
theorem nl_few:(Txt.split t "\n").length≤t.length+1:=gb (c:=10)
theorem uw (h:Okt t) {y:Str} (hy:y∈eN t):Okt y:=by
  unfold eN at hy
  split at hy
  · cases hy
  · exact nl_ok h hy
theorem tN:(eN t).length≤t.length+1:=by
  unfold eN
  split
  · exact Nat.zero_le _
  · exact nl_few
theorem ux (h:Okt t):Res.wp (gz [.str t] S) (fun v S'=>v=.loc S.length∧S'=S++[.lst ((eN t).map rowD)]∧∀y∈eN t,(fO y).isSome=true)
    (fun e S'=>∃k T,badAt (eN t) k∧e=⟨"BadText",[("row",.int (k:Nat))]⟩∧S'=S++T):=by
  have hfew:=tN (t:=t)
  have hl:=h.1
  have q1:dNe (.str t) (.str "")=some (.bool (decide (t≠""))):=by simp[h.2,a7.2.2.2.2]
  have hsp:=fun S=>tL (S:=S) h.1
  have isb:∀S,bM S (.str t)=true:=fun _=>rfl
  by_cases ht:t=""
  · have hd0:decide (t≠"")=false:=by simp[ht]
    rw[hd0] at q1
    have hr:eN t=[]:=by unfold eN; rw[if_pos ht]
    rw[hr]
    unfold gz
    apply ac
    unfold pL
    simp -dsimp [q1,-a6]
    simp[cC,dI]
  · have hd0:decide (t≠"")=true:=by simp[ht]
    rw[hd0] at q1
    have hr:eN t=Txt.split t "\n":=by unfold eN; rw[if_neg ht]
    rw[←hr] at hsp
    have hok:=fun y (hy:y∈eN t)=>uw h hy
    obtain ⟨rows,hrows⟩:∃rows,rows=eN t:=⟨_,rfl⟩
    rw[←hrows] at hsp hfew hok ⊢
    unfold gz
    apply ac
    unfold pL
    simp -dsimp [q1,isb,hsp,ni,-a6]
    refine fY (f:=fun p:Str × Nat=>D.tup [.int (p.2:Nat),.str p.1]) rows.zipIdx (fun pre _=>RdI S t rows pre) rfl ⟨_,_,_,rfl,rfl,fun p hp=>by cases hp⟩ ?_ ?_
    · rintro pre x rest env S' hpre ⟨e2,e3,e4,rfl,rfl,hg⟩
      obtain ⟨hx2,hx1⟩:=qm hpre
      have hm:x.1∈rows:=by rw[hx1]; simp
      have e1:=fun S'=>uv (S:=S') (hok x.1 hm)
      refine ⟨_,rfl,?_⟩
      cases hD:fO x.1 with
      | none=>
        rw[hD] at e1
        have isn:dIsN .none .none=some (.bool true):=rfl
        simp -dsimp [e1,az,isn]
        exact ⟨pre.length,⟨pre.map (·.1),x.1,rest.map (·.1),hx1,by simp,hg,hD⟩,by rw[hx2]⟩
      | some d=>
        rw[hD] at e1
        have hd2:∃xs,d=.tup xs:=by
          have:fO x.1=some d:=hD
          unfold fO qM at this
          split at this
          · unfold gI at this
            split at this
            · cases this
            · split at this
              · cases this; exact ⟨_,rfl⟩
              · cases this
          · cases this
        obtain ⟨xs,rfl⟩:=hd2
        have hpl:((pre.map (·.1)).map rowD).length<1000000:=by
          have:=congrArg List.length hx1
          simp at this ⊢
          omega
        have hlb:∀L:List D,bS (S++[O.lst L]) (.loc S.length)=true:=fun L=>by simp[bS]
        have hap:∀L:List D,L.length<1000000→bH (S++[O.lst L]) (.loc S.length) [.tup xs]=some (.none,S++[O.lst (L++[.tup xs])]):=fun L hL=>by
          unfold bH
          have g:(S++[O.lst L])[S.length]?=some (.lst L):=by simp
          simp only[g]
          rw[if_pos hL]
          simp
        have happ:=hap _ hpl
        rw[List.map_map] at happ
        have hisn:isN (.tup xs)=false:=rfl
        simp -dsimp [e1,az,hisn,hlb,happ]
        refine ⟨_,_,_,rfl,?_,?_⟩
        · simp[rowD,hD,az]
        · intro p hp
          rw[List.map_append,List.mem_append] at hp
          rcases hp with hp|hp
          · exact hg p hp
          · have:p=x.1:=by simpa using hp
            rw[this,hD]
            rfl
    · rintro env S' ⟨e2,e3,e4,rfl,rfl,hg⟩
      have hz:rows.zipIdx.map (·.1)=rows:=List.zipIdx_map_fst 0 rows
      rw[hz] at hg ⊢
      simp -dsimp
      exact hg
end
end DL
namespace DL
open PySem PySem.Spec PyProof.Rows L2 LamX
end DL
namespace DL
open PySem PySem.Spec PyProof.Rows L2 LamX
end DL
namespace DL
open PySem PySem.Spec PyProof.Rows L2 LamX
def txI (n:Nat):Str:=PySem.Str.ofString (toString ((n:Nat):Int))
section
variable {S:Sto} {w s:Str} {n:Nat}
theorem n9 (x:String):PyData.strOk (PySem.Str.ofString x)=true:=by
  unfold PyData.strOk
  rw[Array.all_eq_true']
  intro c hc
  have hc:c∈(PySem.Str.ofString x).cps.toList:=by simpa using hc
  rw[show (PySem.Str.ofString x).cps.toList=x.toList.map Char.toNat from signs_ofString x] at hc
  obtain ⟨ch,_,rfl⟩:=List.mem_map.mp hc
  have:=ch.valid
  have h2:ch.toNat<0x110000:=by
    rcases this with h|h
    · exact Nat.lt_of_lt_of_le h (by decide)
    · exact h.2
  simpa using h2
theorem pQ (n:Nat):PyData.strOk (txI n)=true:=n9 _
theorem dt (h:n<10 ^ 10):(txI n).length≤10:=PySem.W.KT.len_num (Int.natCast_nonneg n) (by exact_mod_cast h)
theorem mZ {a b:Str} (ha:PyData.strOk a=true) (hb:PyData.strOk b=true):PyData.strOk (a++b)=true:=by
  unfold PyData.strOk at ha hb ⊢
  rw[Array.all_eq_true'] at ha hb ⊢
  intro c hc
  have hc:c∈a.cps++b.cps:=hc
  rcases Array.mem_append.mp hc with h|h
  · exact ha c h
  · exact hb c h
theorem du (a b:Str):(a++b).length=a.length+b.length:=by
  show (a.cps++b.cps).size=_
  rw[Array.size_append]
  rfl
theorem me (h:n<1000000):gk S [.int (n:Nat)]=some (.str (txI n)):=by
  show (if ((n:Nat):Int).natAbs.log2<1920 then some (D.str (toString ((n:Nat):Int))) else none)=_
  rw[if_pos]
  · rfl
  · rw[Int.natAbs_natCast]
    by_cases h0:n=0
    · rw[h0]; decide
    · exact Nat.lt_trans ((Nat.log2_lt h0).mpr (Nat.lt_trans h (by decide:1000000<2 ^ 20))) (by decide)
theorem fm_n (h:n<1000000):fmD (.int (n:Nat))=some (.str (txI n)):=by
  show (if ((n:Nat):Int).natAbs<1000000000 then some (D.str (toString ((n:Nat):Int))) else none)=_
  rw[if_pos (by rw[Int.natAbs_natCast]; omega)]
  rfl
def rdT (p:Nat × Nat):Str:=txI p.1++":"++txI p.2
theorem cP:((":":Str)).length=1∧PyData.strOk ":"=true∧((",": Str)).length=1∧PyData.strOk ","=true:=by decide +kernel
theorem rdT_ok {a b:Nat} (ha:a≤60) (hb2:b≤9999):(rdT (a,b)).length≤21∧PyData.strOk (rdT (a,b))=true:=by
  have h1:=dt (n:=a) (by omega)
  have h2:=dt (n:=b) (by omega)
  refine ⟨?_,mZ (mZ (pQ a) cP.2.1) (pQ b)⟩
  show (txI a++":"++txI b).length≤21
  rw[du,du,cP.1]
  omega
theorem word_r {a b:Nat} (ha:a≤60) (hb2:b≤9999) (k:Nat):aZ (k+1) [.tup [.int (a:Nat),.int (b:Nat)],.str "r"] S=.ok (.str (rdT (a,b))) S:=by
  have q1:=jZ "r" a7.2.1
  have e0:∀S',fIx S' (.tup [.int (a:Nat),.int (b:Nat)]) (.int 0)=some (.int (a:Nat)):=fun _=>rfl
  have e1:∀S',fIx S' (.tup [.int (a:Nat),.int (b:Nat)]) (.int 1)=some (.int (b:Nat)):=fun _=>rfl
  have f0:=fm_n (n:=a) (by omega)
  have f1:=fm_n (n:=b) (by omega)
  have h1:=dt (n:=a) (by omega)
  have h2:=dt (n:=b) (by omega)
  have hz:(Str.empty++txI a:Str)=txI a:=by
    show (⟨Str.empty.cps++(txI a).cps⟩:Str)=txI a
    rw[show Str.empty.cps=#[] from rfl,Array.empty_append]
  have l1:(txI a).length≤16777216:=by omega
  have l2:(txI a++":").length≤16777216:=by rw[du,cP.1]; omega
  have l3:(txI a++":"++txI b).length≤16777216:=by rw[du,du,cP.1]; omega
  apply ax
  unfold aZ
  apply ac
  simp -dsimp [q1,e0,e1,f0,f1,hz,l1,l2,l3,-aU]
  rfl
end
end DL
namespace DL
open PySem PySem.Spec PyProof.Rows L2 LamX
open PySem.Builtin.Str (glued)
section
variable {S:Sto} {w s sep:Str} {n B:Nat}
theorem qN (hs:PyData.strOk sep=true):∀(ys:List Str),(∀y∈ys,PyData.strOk y=true)→PyData.strOk (PySem.Str.join sep ys)=true
  | [],_=>by
    show PyData.strOk PySem.Str.empty=true
    decide +kernel
  | [x],h=>h x List.mem_cons_self
  | x::z::ys,h=>by
    have ih:=qN hs (z::ys) fun y hy=>h y (List.mem_cons_of_mem _ hy)
    exact mZ (mZ (h x List.mem_cons_self) hs) ih
theorem kR (ys:List Str) (hs:PyData.strOk sep=true) (h:∀y∈ys,y.length≤B∧PyData.strOk y=true):PyData.strOk (Txt.join sep ys)=true∧(Txt.join sep ys).length≤ys.length*(B+sep.length):=by
  have e:Txt.join sep ys=PySem.Str.join sep ys:=StrLaws.glued_eq_join sep ys
  have e2:=size_glued sep ys
  have e3:(Txt.join sep ys).length=(ys.map (·.length)).sum+(ys.length - 1)*sep.length:=e2
  have e4:=StrLaws.sumLen_le (B:=B) ys fun y hy=>(h y hy).1
  refine ⟨?_,?_⟩
  · rw[e]
    exact qN hs ys fun y hy=>(h y hy).2
  · rw[e3,Nat.mul_add]
    have:(ys.length - 1)*sep.length≤ys.length*sep.length:=Nat.mul_le_mul (by omega) (Nat.le_refl _)
    omega
theorem i5 (ys:List Str) (hs:sep.length≤1) (hl:ys.length≤1000) (h:∀y∈ys,y.length≤10000):iP sep (ys.map .str)=some (.str (Txt.join sep ys)):=by
  have ej:∀zs:List Str,lP (zs.map .str)=some zs:=fun zs=>by
    induction zs with
    | nil=>rfl
    | cons z zs ih=>
      rw[List.map_cons]
      unfold lP
      rw[ih]
      rfl
  have e4:=StrLaws.sumLen_le (B:=10000) ys h
  unfold iP
  rw[ej]
  dsimp only
  rw[if_pos]
  have h1:ys.length*10000≤1000*10000:=Nat.mul_le_mul hl (Nat.le_refl _)
  have h2:ys.length*sep.length≤1000*1:=Nat.mul_le_mul hl hs
  omega
theorem gd (ys:List Str) (hs:sep.length≤1) (hl:ys.length≤1000) (h:∀y∈ys,y.length≤10000):fi S (.str sep) [.lst (ys.map .str)]=some (.str (Txt.join sep ys),S):=by
  have:=i5 ys hs hl h
  show (iP sep (ys.map .str)).map (fun d=>(d,S))=_
  rw[this]
  rfl
def rdP (p:Nat × Nat):D:=.tup [.int (p.1:Nat),.int (p.2:Nat)]
end
end DL
namespace DL
open PySem PySem.Spec PyProof.Rows L2 LamX
section
variable {S:Sto} {v d:D} {n:Nat}
theorem tO {tbl:List (Str × Int)} {hd:Str} {b:Bool} {m:ME} {env:En} {S:Sto} (h:(tbl.map (·.1)).contains hd=b) (e:m env S=.ok (.str hd) S):iN true tbl m env S=.ok (.bool (!b)) S:=by
  rw[dM,e,←h]
  rfl
theorem kdIx_m {tbl:List (Str × Int)} {hd:Str} {i:Int} {m:ME} {env:En} {S:Sto} (h:tbl.lookup hd=some i) (e:m env S=.ok (.str hd) S):kA tbl m env S=.ok (.int i) S:=by
  rw[fL,e]
  show ofO S ((tbl.lookup hd).map D.int)=_
  rw[h]
  rfl
end
end DL
namespace DL
open PySem PySem.Spec PyProof.Rows L2 LamX
section
variable {S:Sto} {v d:D} {n:Nat}
theorem oA:∀(ps:List D) (ss:List Str),cU ps (ss.map .str)=(ps.zip ss).map fun p=>D.tup [p.1,.str p.2]
  | [],_=>by simp[cU]
  | _::_,[]=>by simp[cU]
  | p::ps,s::ss=>by
    rw[List.map_cons,List.zip_cons_cons,List.map_cons]
    unfold cU
    rw[oA ps ss]
theorem eY:((" ":Str)).length=1∧PyData.strOk " "=true∧(("\n":Str)).length=1∧PyData.strOk "\n"=true:=by decide +kernel
theorem tQ:∀p∈shTbl,p.1.length≤4:=by decide +kernel
end
end DL
namespace DL
open PySem PySem.Spec PyProof.Rows L2 LamX
/-- plain data,not deep,not long -/
def cm:Nat→D→Bool
  | _,.none=>true
  | _,.bool _=>true
  | _,.int _=>true
  | _,.str x=>PyData.strOk x&&decide (x.length≤1000)
  | n+1,.tup xs=>decide (xs.length≤1000)&&xs.all (cm n)
  | n+1,.lst xs=>decide (xs.length≤1000)&&xs.all (cm n)
  | n+1,.tpn xs=>decide (xs.length≤1000)&&xs.all (cm n)
  | _,_=>false
theorem qy (n:Nat):cm n .none=true:=by cases n<;>rfl
theorem qz (n:Nat) (b:Bool):cm n (.bool b)=true:=by cases n<;>rfl
theorem tR (n:Nat) (i:Int):cm n (.int i)=true:=by cases n<;>rfl
theorem gK (n:Nat) (x:Str):cm n (.str x)=(PyData.strOk x&&decide (x.length≤1000)):=by cases n<;>rfl
theorem kS (n:Nat) (xs:List D):cm (n+1) (.tup xs)=(decide (xs.length≤1000)&&xs.all (cm n)):=rfl
theorem oB (n:Nat) (xs:List D):cm (n+1) (.lst xs)=(decide (xs.length≤1000)&&xs.all (cm n)):=rfl
theorem kT (n:Nat) (xs:List D):cm (n+1) (.tpn xs)=(decide (xs.length≤1000)&&xs.all (cm n)):=rfl
theorem gM:∀ {n:Nat} {d:D},cm n d=true→dok n d=true
  | n,.none,_=>ng n
  | n,.bool b,_=>nh n b
  | n,.int b,_=>mJ n b
  | n,.str x,h=>by rw[gK] at h; rw[mK]; exact (Bool.and_eq_true_iff.mp h).1
  | n+1,.tup xs,h=>by
    rw[kS] at h
    rw[mL]
    simp only[Bool.and_eq_true,List.all_eq_true] at *
    exact fun x hx=>gM (h.2 x hx)
  | n+1,.lst xs,h=>by
    rw[oB] at h
    rw[mM]
    simp only[Bool.and_eq_true,List.all_eq_true] at *
    exact fun x hx=>gM (h.2 x hx)
  | n+1,.tpn xs,h=>by
    rw[kT] at h
    rw[mN]
    simp only[Bool.and_eq_true,List.all_eq_true] at *
    exact fun x hx=>gM (h.2 x hx)
  | n,.ty _,h=>by cases n<;>cases h
  | n,.ro _,h=>by cases n<;>cases h
  | n,.loc _,h=>by cases n<;>cases h
  | n,.glo _,h=>by cases n<;>cases h
  | n,.adr _,h=>by cases n<;>cases h
  | n,.clo _ _ _ _,h=>by cases n<;>cases h
  | n,.exn _ _ _ _,h=>by cases n<;>cases h
  | 0,.tup _,h=>by cases h
  | 0,.lst _,h=>by cases h
  | 0,.tpn _,h=>by cases h
theorem kU:∀ {n m:Nat} {d:D},n≤m→dok n d=true→dok m d=true
  | n,m,.none,_,_=>ng m
  | n,m,.bool b,_,_=>nh m b
  | n,m,.int b,_,_=>mJ m b
  | n,m,.str x,_,h=>by rw[mK] at *; exact h
  | n+1,m+1,.tup xs,hl,h=>by
    rw[mL] at *
    simp only[List.all_eq_true] at *
    exact fun x hx=>kU (by omega) (h x hx)
  | n+1,m+1,.lst xs,hl,h=>by
    rw[mM] at *
    simp only[List.all_eq_true] at *
    exact fun x hx=>kU (by omega) (h x hx)
  | n+1,m+1,.tpn xs,hl,h=>by
    rw[mN] at *
    simp only[List.all_eq_true] at *
    exact fun x hx=>kU (by omega) (h x hx)
  | n,_,.ty _,_,h=>by cases n<;>cases h
  | n,_,.ro _,_,h=>by cases n<;>cases h
  | n,_,.loc _,_,h=>by cases n<;>cases h
  | n,_,.glo _,_,h=>by cases n<;>cases h
  | n,_,.adr _,_,h=>by cases n<;>cases h
  | n,_,.clo _ _ _ _,_,h=>by cases n<;>cases h
  | n,_,.exn _ _ _ _,_,h=>by cases n<;>cases h
  | 0,_,.tup _,_,h=>by cases h
  | 0,_,.lst _,_,h=>by cases h
  | 0,_,.tpn _,_,h=>by cases h
  | n+1,0,.tup _,hl,_=>by omega
  | n+1,0,.lst _,hl,_=>by omega
  | n+1,0,.tpn _,hl,_=>by omega
/-- its kind is known -/
theorem uz {n:Nat} {d:D} (S:Sto) (h:cm n d=true):∃t,eF S d=some t:=by
  cases d with
  | none=>exact ⟨_,rfl⟩
  | bool b=>exact ⟨_,rfl⟩
  | int b=>exact ⟨_,rfl⟩
  | str b=>exact ⟨_,rfl⟩
  | tup b=>exact ⟨_,rfl⟩
  | tpn b=>exact ⟨_,rfl⟩
  | lst b=>exact ⟨_,rfl⟩
  | _=>cases n<;>cases h
theorem iZ {n:Nat} {S:Sto} {x:D} (a b:Int) (h:cm n x=true):au [x,.int a,.int b] S=.ok (.bool (bI x a b)) S:=by
  obtain ⟨t,ht⟩:=uz S h
  exact mY a b ht
/-- a tuple's items -/
def bf:D→Option (List D)
  | .tup xs=>some xs
  | .tpn xs=>some xs
  | _=>none
theorem aV {x:D} {xs:List D} (h:bf x=some xs):x=.tup xs∨x=.tpn xs:=by
  cases x<;>cases h
  · exact .inl rfl
  · exact .inr rfl
theorem gN {n:Nat} {x:D} {xs:List D} (h:cm (n+1) x=true) (e:bf x=some xs):xs.length≤1000∧∀y∈xs,cm n y=true:=by
  rcases aV e with rfl|rfl
  · rw[kS] at h
    simp only[Bool.and_eq_true,List.all_eq_true,decide_eq_true_eq] at h
    exact h
  · rw[kT] at h
    simp only[Bool.and_eq_true,List.all_eq_true,decide_eq_true_eq] at h
    exact h
/-- no tuple -/
theorem fP {n:Nat} {x:D} (h:cm n x=true) (e:bf x=none) (S:Sto):aY S [x,.ty "tuple"]=some (.bool false):=by
  cases x with
  | tup=>cases e
  | tpn=>cases e
  | none=>simp[aY]
  | bool=>simp[aY]
  | int=>simp[aY]
  | str=>simp[aY]
  | lst=>simp[aY]
  | _=>cases n<;>cases h
theorem dW {x:D} {xs:List D} (e:bf x=some xs) (S:Sto):aY S [x,.ty "tuple"]=some (.bool true):=by
  rcases aV e with rfl|rfl<;>simp[aY]
theorem ge {x:D} {xs:List D} (e:bf x=some xs) (S:Sto) (h:xs.length≤1000):bF S [x]=some (.int xs.length):=by
  have h2:xs.length≤1000000:=by omega
  rcases aV e with rfl|rfl<;>simp[bF,h2]
theorem ic {x:D} {xs:List D} (e:bf x=some xs) (S:Sto):cJ S x=some (.items xs):=by
  rcases aV e with rfl|rfl<;>simp
end DL
namespace DL
open PySem PySem.Spec PyProof.Rows L2 LamX
def aP (L:Nat):Nat→D→Bool
  | _,.none=>true
  | _,.bool _=>true
  | _,.int _=>true
  | _,.str x=>PyData.strOk x&&decide (x.length≤1000)
  | n+1,.tup xs=>decide (xs.length≤L)&&xs.all (aP L n)
  | n+1,.lst xs=>decide (xs.length≤L)&&xs.all (aP L n)
  | n+1,.tpn xs=>decide (xs.length≤L)&&xs.all (aP L n)
  | _,_=>false
section
variable {L M:Nat}
theorem u3 (n:Nat):aP L n .none=true:=by cases n<;>rfl
theorem u4 (n:Nat) (b:Bool):aP L n (.bool b)=true:=by cases n<;>rfl
theorem mf (n:Nat) (i:Int):aP L n (.int i)=true:=by cases n<;>rfl
theorem kW (n:Nat) (x:Str):aP L n (.str x)=(PyData.strOk x&&decide (x.length≤1000)):=by cases n<;>rfl
theorem fe (n:Nat) (xs:List D):aP L (n+1) (.tup xs)=(decide (xs.length≤L)&&xs.all (aP L n)):=rfl
theorem tU (n:Nat) (xs:List D):aP L (n+1) (.lst xs)=(decide (xs.length≤L)&&xs.all (aP L n)):=rfl
theorem kX (n:Nat) (xs:List D):aP L (n+1) (.tpn xs)=(decide (xs.length≤L)&&xs.all (aP L n)):=rfl
theorem fQ:∀ {n m:Nat} {d:D},n≤m→L≤M→aP L n d=true→aP M m d=true
  | n,m,.none,_,_,_=>u3 m
  | n,m,.bool b,_,_,_=>u4 m b
  | n,m,.int b,_,_,_=>mf m b
  | n,m,.str x,_,_,h=>by rw[kW] at *; exact h
  | n+1,m+1,.tup xs,hn,hl,h=>by
    rw[fe] at h ⊢
    simp only[Bool.and_eq_true,List.all_eq_true,decide_eq_true_eq] at *
    exact ⟨Nat.le_trans h.1 hl,fun x hx=>fQ (by omega) hl (h.2 x hx)⟩
  | n+1,m+1,.lst xs,hn,hl,h=>by
    rw[tU] at h ⊢
    simp only[Bool.and_eq_true,List.all_eq_true,decide_eq_true_eq] at *
    exact ⟨Nat.le_trans h.1 hl,fun x hx=>fQ (by omega) hl (h.2 x hx)⟩
  | n+1,m+1,.tpn xs,hn,hl,h=>by
    rw[kX] at h ⊢
    simp only[Bool.and_eq_true,List.all_eq_true,decide_eq_true_eq] at *
    exact ⟨Nat.le_trans h.1 hl,fun x hx=>fQ (by omega) hl (h.2 x hx)⟩
  | n,m,.ty _,_,_,h=>by cases n<;>cases h
  | n,m,.ro _,_,_,h=>by cases n<;>cases h
  | n,m,.loc _,_,_,h=>by cases n<;>cases h
  | n,m,.glo _,_,_,h=>by cases n<;>cases h
  | n,m,.adr _,_,_,h=>by cases n<;>cases h
  | n,m,.clo _ _ _ _,_,_,h=>by cases n<;>cases h
  | n,m,.exn _ _ _ _,_,_,h=>by cases n<;>cases h
  | 0,_,.tup _,_,_,h=>by cases h
  | 0,_,.lst _,_,_,h=>by cases h
  | 0,_,.tpn _,_,_,h=>by cases h
  | n+1,0,.tup _,hl,_,_=>by omega
  | n+1,0,.lst _,hl,_,_=>by omega
  | n+1,0,.tpn _,hl,_,_=>by omega
theorem dw:∀ {n:Nat} {d:D},L≤1000→aP L n d=true→cm n d=true
  | n,.none,_,_=>qy n
  | n,.bool b,_,_=>qz n b
  | n,.int b,_,_=>tR n b
  | n,.str x,_,h=>by rw[kW] at h; rw[gK]; exact h
  | n+1,.tup xs,hl,h=>by
    rw[fe] at h
    rw[kS]
    simp only[Bool.and_eq_true,List.all_eq_true,decide_eq_true_eq] at *
    exact ⟨Nat.le_trans h.1 hl,fun x hx=>dw hl (h.2 x hx)⟩
  | n+1,.lst xs,hl,h=>by
    rw[tU] at h
    rw[oB]
    simp only[Bool.and_eq_true,List.all_eq_true,decide_eq_true_eq] at *
    exact ⟨Nat.le_trans h.1 hl,fun x hx=>dw hl (h.2 x hx)⟩
  | n+1,.tpn xs,hl,h=>by
    rw[kX] at h
    rw[kT]
    simp only[Bool.and_eq_true,List.all_eq_true,decide_eq_true_eq] at *
    exact ⟨Nat.le_trans h.1 hl,fun x hx=>dw hl (h.2 x hx)⟩
  | n,.ty _,_,h=>by cases n<;>cases h
  | n,.ro _,_,h=>by cases n<;>cases h
  | n,.loc _,_,h=>by cases n<;>cases h
  | n,.glo _,_,h=>by cases n<;>cases h
  | n,.adr _,_,h=>by cases n<;>cases h
  | n,.clo _ _ _ _,_,h=>by cases n<;>cases h
  | n,.exn _ _ _ _,_,h=>by cases n<;>cases h
  | 0,.tup _,_,h=>by cases h
  | 0,.lst _,_,h=>by cases h
  | 0,.tpn _,_,h=>by cases h
theorem i6 {n:Nat} {x:D} {xs:List D} (h:aP L (n+1) x=true) (e:bf x=some xs):xs.length≤L∧∀y∈xs,aP L n y=true:=by
  rcases aV e with rfl|rfl
  · rw[fe] at h
    simp only[Bool.and_eq_true,List.all_eq_true,decide_eq_true_eq] at h
    exact h
  · rw[kX] at h
    simp only[Bool.and_eq_true,List.all_eq_true,decide_eq_true_eq] at h
    exact h
theorem tl_mk {n:Nat} {xs:List D} (h1:xs.length≤L) (h2:∀y∈xs,aP L n y=true):aP L (n+1) (.tup xs)=true:=by
  rw[fe]
  simp only[Bool.and_eq_true,List.all_eq_true,decide_eq_true_eq]
  exact ⟨h1,h2⟩
end
theorem mj {a b:D} {xs ys:List D} (ha:bf a=some xs) (hb:bf b=some ys) (hl:xs.length+ys.length≤1000000):∃c,am a b=some c∧bf c=some (xs++ys):=by
  rcases aV ha with rfl|rfl<;>rcases aV hb with rfl|rfl<;>simp only[am,hl,if_true]
  · exact ⟨_,rfl,rfl⟩
  · by_cases h:xs=[]
    · subst h; exact ⟨_,by rw[if_pos rfl],rfl⟩
    · exact ⟨_,by rw[if_neg h],rfl⟩
  · by_cases h:xs=[]
    · subst h; exact ⟨_,by rw[if_pos rfl],rfl⟩
    · by_cases h2:ys=[]
      · subst h2; exact ⟨_,by rw[if_neg h,if_pos rfl],by simp[bf]⟩
      · exact ⟨_,by rw[if_neg h,if_neg h2],rfl⟩
  · by_cases h:xs=[]
    · subst h; exact ⟨_,by rw[if_pos rfl],rfl⟩
    · by_cases h2:ys=[]
      · subst h2; exact ⟨_,by rw[if_neg h,if_pos rfl],by simp[bf]⟩
      · exact ⟨_,by rw[if_neg h,if_neg h2],rfl⟩
theorem gf {a:D} {xs:List D} (ha:bf a=some xs) (lo hi:Option Int):∃c,jV a lo hi=some c∧bf c=some (bc xs lo hi):=by
  obtain ⟨d,e,h⟩:=vt_cut (aV ha) lo hi
  exact ⟨d,e,by rcases h with rfl|rfl<;>rfl⟩
theorem tV {L n:Nat} {c:D} {zs:List D} (h:bf c=some zs) (h1:zs.length≤L) (h2:∀y∈zs,aP L n y=true):aP L (n+1) c=true:=by
  rcases aV h with rfl|rfl
  · exact tl_mk h1 h2
  · rw[kX]
    simp only[Bool.and_eq_true,List.all_eq_true,decide_eq_true_eq]
    exact ⟨h1,h2⟩
theorem mq {α:Type} (xs:List α) (lo hi:Option Int):(bc xs lo hi).length≤xs.length:=by
  unfold bc
  simp
  omega
theorem gO {α:Type} {xs:List α} {lo hi:Option Int} {y:α} (h:y∈bc xs lo hi):y∈xs:=by
  unfold bc at h
  exact List.mem_of_mem_drop (List.mem_of_mem_take h)
theorem dB {S:Sto} {a:D} {xs:List D} (ha:bf a=some xs):view0 S a=a:=by rcases aV ha with rfl|rfl<;>rfl
theorem eO {S:Sto} {x:D} {xs:List D} (e:bf x=some xs) {i:Nat} (h:i<xs.length):fIx S x (.int (i:Nat))=some xs[i]:=by
  rcases aV e with rfl|rfl<;>simp[gZ h,h]
theorem tW {S:Sto} {x:D} {n:Nat} (h:cm n x=true) (hn:n≤58) (xs:List D) (e:bf x=some xs):dok 60 (view S x)=true∧peq (view S x) (.tup [])=decide (xs=[]):=by
  have hd:=kU (m:=60) (by omega) (gM h)
  have hv:view S x=.tup xs:=by rcases aV e with rfl|rfl<;>simp
  have hd2:dok 60 (.tup xs)=true:=by
    rcases aV e with rfl|rfl
    · exact hd
    · rw[qh] at hd
      rw[qg]
      exact hd
  rw[hv]
  refine ⟨hd2,?_⟩
  cases xs with
  | nil=>simp
  | cons a b=>simp
end DL
namespace DL
open PySem PySem.Spec PyProof.Rows L2 LamX
def g7 (x:D):List D:=(bf x).getD []
def bZ (x:D):Bool:=match bf x with
  | some [a,b]=>bI a 0 60&&bI b 1 9999
  | _=>false
def i7 (x:D):Bool:=(bf x).isSome
def fj:D→Bool
  | .str w=>ja w
  | _=>false
def ah (s:Str) (x:D):Bool:=if s="r" then bZ x else if s="v" then i7 x&&(decide (g7 x≠[])&&(g7 x).all bZ) else if s="n" then bI x 0 999999 else fj x
section
variable {S:Sto} {x:D} {n:Nat} {s w:Str}
theorem q5 {xs:List D} (h:bf x=some xs) (h2:xs.length≠2):bZ x=false:=by
  unfold bZ
  rw[h]
  match xs,h2 with
  | [],_=>rfl
  | [a],_=>rfl
  | [a,b],h=>exact absurd rfl h
  | a::b::c::l,_=>rfl
theorem gP (h:cm n x=true):bR [x] S=.ok (.bool (bZ x)) S:=by
  apply ax
  unfold bR
  apply ac
  unfold iw
  cases hi:bf x with
  | none=>
    have h1:=fP h hi S
    have e:bZ x=false:=by unfold bZ; rw[hi]
    rw[e]
    simp -dsimp [h1]
  | some xs=>
    have h1:=dW hi S
    cases n with
    | zero=>rcases aV hi with rfl|rfl<;>cases h
    | succ n=>
      obtain ⟨hl,ht⟩:=gN h hi
      have h2:=ge hi S hl
      by_cases h3:xs.length=2
      · obtain ⟨a,b,rfl⟩:=tF h3
        have q1:dNe (.int 2) (.int 2)=some (.bool false):=by simp
        have h2:bF S [x]=some (.int 2):=h2
        have x0:=eO (S:=S) hi (i:=0) (by simp)
        have x1:=eO (S:=S) hi (i:=1) (by simp)
        have x0:fIx S x (.int 0)=some a:=x0
        have x1:fIx S x (.int 1)=some b:=x1
        have n1:=iZ (S:=S) 0 60 (ht a (by simp))
        have n2:=iZ (S:=S) 1 9999 (ht b (by simp))
        have e:bZ x=(bI a 0 60&&bI b 1 9999):=by unfold bZ; rw[hi]
        rw[e]
        simp -dsimp [h1,h2,q1,x0,x1,n1,n2,-a6]
        cases bI a 0 60<;>simp
      · have q1:dNe (.int (xs.length:Nat)) (.int 2)=some (.bool true):=by
          have:¬((xs.length:Int)=2):=by omega
          simp[this]
        rw[q5 hi h3]
        simp -dsimp [h1,h2,q1,-a6]
theorem qO (h:cm n x=true) (S:Sto):aY S [x,.ty "str"]=some (.bool (match x with|.str _=>true|_=>false)):=by
  cases x with
  | none=>simp[aY]
  | bool=>simp[aY]
  | int=>simp[aY]
  | str=>simp[aY]
  | lst=>simp[aY]
  | tup=>simp[aY]
  | tpn=>simp[aY]
  | _=>cases n<;>cases h
theorem ie (h:cm n x=true) (hn:n≤58) {xs:List D} (e:bf x=some xs):dNe (view S x) (.tup [])=some (.bool (decide (xs≠[])))∧dEq (view S x) (.tup [])=some (.bool (decide (xs=[]))):=by
  obtain ⟨h2,h3⟩:=tW (S:=S) h hn xs e
  have h4:dok 60 (.tup [])=true:=rfl
  unfold dNe dEq
  rw[h2,h3,h4]
  exact ⟨by simp,rfl⟩
theorem oC (h:cm n x=true) (hn:n≤58) (hs:s="n"∨s="r"∨s="v"∨s="w"):bq [x,.str s] S=.ok (.bool (ah s x)) S:=by
  have o:=a7
  have ne:=af
  apply ax
  unfold bq
  apply ac
  unfold iy
  rcases hs with rfl|rfl|rfl|rfl
  · have q1:=eL "n" "r" o.1 o.2.1 af.1
    have q2:=eL "n" "v" o.1 o.2.2.1 af.2.1
    have q3:=jZ "n" o.1
    have e:ah "n" x=bI x 0 999999:=by unfold ah; rw[if_neg ne.1,if_neg ne.2.1,if_pos rfl]
    have n1:=iZ (S:=S) 0 999999 h
    rw[e]
    simp -dsimp [q1,q2,q3,n1,-aU]
  · have q1:=jZ "r" o.2.1
    have e:ah "r" x=bZ x:=by unfold ah; rw[if_pos rfl]
    have n1:=gP (S:=S) h
    rw[e]
    simp -dsimp [q1,n1,-aU]
  · have q1:=eL "v" "r" o.2.2.1 o.2.1 ne.2.2.2.1
    have q2:=jZ "v" o.2.2.1
    have e:ah "v" x=(i7 x&&(decide (g7 x≠[])&&(g7 x).all bZ)):=by unfold ah; rw[if_neg ne.2.2.2.1,if_pos rfl]
    rw[e]
    unfold i7 g7
    cases hi:bf x with
    | none=>
      have h1:=fP h hi S
      simp -dsimp [q1,q2,h1,-aU]
    | some xs=>
      have h1:=dW hi S
      cases n with
      | zero=>rcases aV hi with rfl|rfl<;>cases h
      | succ n=>
        obtain ⟨hl,ht⟩:=gN h hi
        have q3:=(ie (S:=S) h hn hi).1
        have hX:=ic hi S
        by_cases h0:xs=[]
        · rw[decide_eq_false (fun z=>z h0)] at q3
          simp -dsimp [q1,q2,h1,q3,h0,-aU,-a6]
        · rw[decide_eq_true h0] at q3
          simp -dsimp [q1,q2,h1,q3,hX,-aU,-a6]
          refine av (f:=fun z:D=>z) xs (fun _=>true) (fun p=>.bool (bZ p)) (by simp) (by omega) (fun p hp=>⟨_,rfl,rfl,fun _=>?_⟩) ?_
          · have e:=gP (S:=S) (ht p hp)
            simp[e]
          · rw[bU]
            simp -dsimp [h0]
  · have q1:=eL "w" "r" o.2.2.2.1 o.2.1 ne.2.2.2.2.2.1
    have q2:=eL "w" "v" o.2.2.2.1 o.2.2.1 ne.2.2.2.2.2.2.1
    have q3:=eL "w" "n" o.2.2.2.1 o.1 ne.2.2.2.2.1
    have e:ah "w" x=fj x:=by unfold ah; rw[if_neg ne.2.2.2.2.2.1,if_neg ne.2.2.2.2.2.2.1,if_neg ne.2.2.2.2.1]
    have hS:=qO h S
    rw[e]
    cases x with
    | str w=>
      rw[gK] at h
      simp only[Bool.and_eq_true,decide_eq_true_eq] at h
      obtain ⟨ok,hl⟩:=h
      have hi:cJ S (.str w)=some (.items (w.cps.toList.map fun c=>D.str ⟨#[c]⟩)):=by simp[cJ,show w.length≤1000000 by omega,bj]
      have q4:dNe (.str w) (.str "")=some (.bool (decide (w≠""))):=by simp[ok,o.2.2.2.2]
      have hcl:w.cps.toList.length≤1000000:=by
        have:w.cps.toList.length=w.length:=by simp[Str.length]
        omega
      have hS:aY S [.str w,.ty "str"]=some (.bool true):=rfl
      have hW:fj (.str w)=(decide (w≠"")&&w.cps.toList.all fun c=>decide (c∈cG)):=rfl
      rw[hW]
      cases hb:decide (w≠"") with
      | false=>
        rw[hb] at q4
        simp -dsimp [q1,q2,q3,hS,q4,-aU,-a6]
      | true=>
        rw[hb] at q4
        simp -dsimp [q1,q2,q3,hS,q4,hi,-aU,-a6]
        refine av (f:=fun c=>D.str ⟨#[c]⟩) w.cps.toList (fun _=>true) (fun c=>.bool (decide (c∈cG))) rfl hcl (fun c hc=>⟨_,rfl,rfl,fun _=>?_⟩) ?_
        · simp[dIn,cG]
        · rw[bU]
          simp -dsimp
    | _=>first
      | (simp -dsimp [q1,q2,q3,hS,fj,-aU,-a6]; done)
      | (cases n<;>cases h)
theorem pR (a b:Int) (h:cm n x=true):dN [x,.int a,.int b] S=.ok (.bool (bI x a b)) S:=iZ (S:=S) a b h
theorem fk (h:cm n x=true):cA [x] S=.ok (.bool (bZ x)) S:=gP (S:=S) h
theorem pS {xs:List D} (p:D→Bool) (hk:xs.all (dok 59)=true):dEq (.lst (xs.filter fun z=>!p z)) (.lst [])=some (.bool (xs.all p)):=by
  have h1:dok 60 (.lst (xs.filter fun z=>!p z))=true:=by
    show (xs.filter fun z=>!p z).all (dok 59)=true
    rw[List.all_eq_true] at hk ⊢
    exact fun z hz=>hk z (List.mem_filter.mp hz).1
  have h2:peq (.lst (xs.filter fun z=>!p z)) (.lst [])=xs.all p:=by
    rw[mI]
    rw[Bool.eq_iff_iff,List.all_eq_true]
    cases hf:xs.filter fun z=>!p z with
    | nil=>
      have:=List.filter_eq_nil_iff.mp hf
      simp
      intro z hz
      have:=this z hz
      simpa using this
    | cons a l=>
      have hm:a∈xs.filter fun z=>!p z:=by rw[hf]; exact List.mem_cons_self
      have hm:=List.mem_filter.mp hm
      simp
      exact ⟨a,hm.1,by simpa using hm.2⟩
  unfold dEq
  rw[h1,h2]
  rfl
theorem mr (h:cm n x=true) (hn:n≤58) (hs:s="n"∨s="r"∨s="v"∨s="w"):eK [x,.str s] S=.ok (.bool (ah s x)) S:=by
  have o:=a7
  have ne:=af
  apply ax
  unfold eK
  apply ac
  unfold kL
  rcases hs with rfl|rfl|rfl|rfl
  · have q1:=eL "n" "r" o.1 o.2.1 af.1
    have q2:=eL "n" "v" o.1 o.2.2.1 af.2.1
    have q3:=jZ "n" o.1
    have e:ah "n" x=bI x 0 999999:=by unfold ah; rw[if_neg ne.1,if_neg ne.2.1,if_pos rfl]
    have n1:=pR (S:=S) 0 999999 h
    rw[e]
    simp -dsimp [q1,q2,q3,n1,-aU]
  · have q1:=jZ "r" o.2.1
    have e:ah "r" x=bZ x:=by unfold ah; rw[if_pos rfl]
    have n1:=fk (S:=S) h
    rw[e]
    simp -dsimp [q1,n1,-aU]
  · have q1:=eL "v" "r" o.2.2.1 o.2.1 ne.2.2.2.1
    have q2:=jZ "v" o.2.2.1
    have e:ah "v" x=(i7 x&&(decide (g7 x≠[])&&(g7 x).all bZ)):=by unfold ah; rw[if_neg ne.2.2.2.1,if_pos rfl]
    rw[e]
    unfold i7 g7
    cases hi:bf x with
    | none=>
      have h1:=fP h hi S
      simp -dsimp [q1,q2,h1,-aU]
    | some xs=>
      have h1:=dW hi S
      cases n with
      | zero=>rcases aV hi with rfl|rfl<;>cases h
      | succ n=>
        obtain ⟨hl,ht⟩:=gN h hi
        have q3:=(ie (S:=S) h hn hi).1
        have hX:=ic hi S
        by_cases h0:xs=[]
        · rw[decide_eq_false (fun z=>z h0)] at q3
          simp -dsimp [q1,q2,h1,q3,h0,-aU,-a6]
        · rw[decide_eq_true h0] at q3
          simp -dsimp [q1,q2,h1,q3,hX,-aU,-a6]
          refine av (f:=fun z:D=>z) xs (fun p=>!bZ p) (fun p=>p) (by simp) (by omega) (fun p hp=>⟨_,rfl,?_,fun _=>?_⟩) ?_
          · have e:=fk (S:=S) (ht p hp)
            simp[e]
          · simp
          · have q4:=pS (xs:=xs) bZ (by rw[List.all_eq_true]; exact fun z hz=>kU (by omega) (gM (ht z hz)))
            rw[List.map_id'']
            simp -dsimp [h0,q4,-aU]
            intro z; rfl
  · have q1:=eL "w" "r" o.2.2.2.1 o.2.1 ne.2.2.2.2.2.1
    have q2:=eL "w" "v" o.2.2.2.1 o.2.2.1 ne.2.2.2.2.2.2.1
    have q3:=eL "w" "n" o.2.2.2.1 o.1 ne.2.2.2.2.1
    have e:ah "w" x=fj x:=by unfold ah; rw[if_neg ne.2.2.2.2.2.1,if_neg ne.2.2.2.2.2.2.1,if_neg ne.2.2.2.2.1]
    have hS:=qO h S
    rw[e]
    cases x with
    | str w=>
      rw[gK] at h
      simp only[Bool.and_eq_true,decide_eq_true_eq] at h
      obtain ⟨ok,hl⟩:=h
      have hi:cJ S (.str w)=some (.items (w.cps.toList.map fun c=>D.str ⟨#[c]⟩)):=by simp[cJ,show w.length≤1000000 by omega,bj]
      have q4:dEq (.str w) (.str "")=some (.bool (decide (w=""))):=by simp[ok,o.2.2.2.2]
      have hcl:w.cps.toList.length≤1000000:=by
        have:w.cps.toList.length=w.length:=by simp[Str.length]
        omega
      have hS:aY S [.str w,.ty "str"]=some (.bool true):=rfl
      have hW:fj (.str w)=(!decide (w="")&&w.cps.toList.all fun c=>decide (c∈cG)):=by
        show (decide (w≠"")&&_)=_
        rw[decide_not]
      rw[hW]
      cases hb:decide (w="") with
      | true=>
        rw[hb] at q4
        simp -dsimp [q1,q2,q3,hS,q4,-aU,-a6]
      | false=>
        rw[hb] at q4
        simp -dsimp [q1,q2,q3,hS,q4,hi,-aU,-a6]
        refine av (f:=fun c=>D.str ⟨#[c]⟩) w.cps.toList (fun c=>!decide (c∈cG)) (fun c=>.str ⟨#[c]⟩) rfl hcl (fun c hc=>⟨_,rfl,?_,fun _=>rfl⟩) ?_
        · simp[fU,dIn,cG]
        · obtain ⟨_,q0⟩:=qp ok fun c=>!decide (c∈cG)
          have e2:(w.cps.toList.all fun c=>!(!decide (c∈cG)))=w.cps.toList.all fun c=>decide (c∈cG):=by simp
          rw[e2] at q0
          generalize ((w.cps.toList.filter fun c=>!decide (c∈cG)).map fun c=>D.str ⟨#[c]⟩)=ll at q0 ⊢
          simp -dsimp [q0,-aU]
    | _=>first
      | (simp -dsimp [q1,q2,q3,hS,fj,-aU,-a6]; done)
      | (cases n<;>cases h)
end
end DL
namespace DL
open PySem PySem.Spec PyProof.Rows L2 LamX
def rp (x:D):Nat × Nat:=match bf x with
  | some [.int a,.int b]=>(a.toNat,b.toNat)
  | _=>(0,0)
def ptT (s:Str) (x:D):Str:=if s="r" then rdT (rp x) else if s="v" then Txt.join "," ((g7 x).map fun y=>rdT (rp y)) else match x with
  | .int i=>txI i.toNat
  | .str w=>w
  | _=>""
section
variable {S:Sto} {x:D} {n:Nat} {s w:Str}
theorem g8 {x:D} {a b:Int} (h:bI x a b=true):∃i:Int,x=.int i∧a≤i∧i≤b:=by
  unfold bI at h
  split at h
  · rename_i i
    rw[Bool.and_eq_true,decide_eq_true_eq,decide_eq_true_eq] at h
    exact ⟨i,rfl,h⟩
  · cases h
theorem ff (h:bZ x=true):∃a b:Nat,bf x=some [.int (a:Nat),.int (b:Nat)]∧rp x=(a,b)∧a≤60∧1≤b∧b≤9999:=by
  unfold bZ at h
  split at h
  · rename_i u v e
    rw[Bool.and_eq_true] at h
    obtain ⟨i,rfl,h1,h2⟩:=g8 h.1
    obtain ⟨j,rfl,h3,h4⟩:=g8 h.2
    refine ⟨i.toNat,j.toNat,?_,?_,by omega,by omega,by omega⟩
    · rw[e,Int.toNat_of_nonneg h1,Int.toNat_of_nonneg (by omega)]
    · unfold rp
      rw[e]
  · cases h
theorem lX (h:bZ x=true) (k:Nat):aZ (k+1) [x,.str "r"] S=.ok (.str (rdT (rp x))) S:=by
  obtain ⟨a,b,e,er,ha,hb,hb2⟩:=ff h
  rw[er]
  rcases aV e with rfl|rfl
  · exact word_r ha hb2 k
  · have q1:=jZ "r" a7.2.1
    have e0:∀S',fIx S' (.tpn [.int (a:Nat),.int (b:Nat)]) (.int 0)=some (.int (a:Nat)):=fun _=>rfl
    have e1:∀S',fIx S' (.tpn [.int (a:Nat),.int (b:Nat)]) (.int 1)=some (.int (b:Nat)):=fun _=>rfl
    have f0:=fm_n (n:=a) (by omega)
    have f1:=fm_n (n:=b) (by omega)
    have h1:=dt (n:=a) (by omega)
    have h2:=dt (n:=b) (by omega)
    have hz:(Str.empty++txI a:Str)=txI a:=by
      show (⟨Str.empty.cps++(txI a).cps⟩:Str)=txI a
      rw[show Str.empty.cps=#[] from rfl,Array.empty_append]
    have l1:(txI a).length≤16777216:=by omega
    have l2:(txI a++":").length≤16777216:=by rw[du,cP.1]; omega
    have l3:(txI a++":"++txI b).length≤16777216:=by rw[du,du,cP.1]; omega
    apply ax
    unfold aZ
    apply ac
    simp -dsimp [q1,e0,e1,f0,f1,hz,l1,l2,l3,-aU]
    rfl
theorem oD (h:bZ x=true):(rdT (rp x)).length≤21∧PyData.strOk (rdT (rp x))=true:=by
  obtain ⟨a,b,e,er,ha,hb,hb2⟩:=ff h
  rw[er]
  exact rdT_ok ha hb2
theorem v_is (h:ah "v" x=true):∃xs,bf x=some xs∧xs≠[]∧∀y∈xs,bZ y=true:=by
  have ne:=af
  unfold ah at h
  rw[if_neg ne.2.2.2.1,if_pos rfl] at h
  unfold i7 g7 at h
  cases hi:bf x with
  | none=>rw[hi] at h; cases h
  | some xs=>
    rw[hi] at h
    simp at h
    exact ⟨xs,rfl,h.1,h.2⟩
theorem pT (h:aP 20 (n+1) x=true) (hs:s="n"∨s="r"∨s="v"∨s="w") (hf:ah s x=true):(ptT s x).length≤1000∧PyData.strOk (ptT s x)=true:=by
  have ne:=af
  rcases hs with rfl|rfl|rfl|rfl
  · have hf:bI x 0 999999=true:=by unfold ah at hf; rw[if_neg ne.1,if_neg ne.2.1,if_pos rfl] at hf; exact hf
    obtain ⟨i,rfl,h1,h2⟩:=g8 hf
    unfold ptT
    rw[if_neg ne.1,if_neg ne.2.1]
    have:=dt (n:=i.toNat) (by omega)
    exact ⟨by show (txI i.toNat).length≤_; omega,pQ _⟩
  · have hf:bZ x=true:=by unfold ah at hf; rw[if_pos rfl] at hf; exact hf
    unfold ptT
    rw[if_pos rfl]
    have:=oD hf
    exact ⟨by omega,this.2⟩
  · obtain ⟨xs,hi,h0,hr⟩:=v_is hf
    obtain ⟨hl,_⟩:=i6 h hi
    unfold ptT g7
    rw[if_neg ne.2.2.2.1,if_pos rfl,hi]
    have J:=kR (sep:=",") (B:=21) (((some xs).getD []).map fun y=>rdT (rp y)) cP.2.2.2 (fun y hy=>by
      obtain ⟨p,hp,rfl⟩:=List.mem_map.mp hy
      exact oD (hr p hp))
    rw[List.length_map,cP.2.2.1] at J
    have e:((some xs).getD [])=xs:=rfl
    rw[e] at J ⊢
    exact ⟨by omega,J.1⟩
  · have hf:fj x=true:=by unfold ah at hf; rw[if_neg ne.2.2.2.2.2.1,if_neg ne.2.2.2.2.2.2.1,if_neg ne.2.2.2.2.1] at hf; exact hf
    cases x with
    | str w=>
      rw[kW] at h
      simp only[Bool.and_eq_true,decide_eq_true_eq] at h
      unfold ptT
      rw[if_neg ne.2.2.2.2.2.1,if_neg ne.2.2.2.2.2.2.1]
      exact ⟨h.2,h.1⟩
    | _=>cases hf
theorem tX (h:aP 20 (n+1) x=true) (hs:s="n"∨s="r"∨s="v"∨s="w") (hf:ah s x=true):aZ 2 [x,.str s] S=.ok (.str (ptT s x)) S:=by
  have o:=a7
  have ne:=af
  rcases hs with rfl|rfl|rfl|rfl
  · have q1:=eL "n" "r" o.1 o.2.1 af.1
    have q2:=eL "n" "v" o.1 o.2.2.1 af.2.1
    have hf:bI x 0 999999=true:=by unfold ah at hf; rw[if_neg ne.1,if_neg ne.2.1,if_pos rfl] at hf; exact hf
    obtain ⟨i,rfl,h1,h2⟩:=g8 hf
    have e:=me (S:=S) (n:=i.toNat) (by omega)
    rw[Int.toNat_of_nonneg h1] at e
    have ep:ptT "n" (.int i)=txI i.toNat:=by unfold ptT; rw[if_neg ne.1,if_neg ne.2.1]
    rw[ep]
    apply ax
    unfold aZ
    apply ac
    simp -dsimp [q1,q2,e,-aU]
  · have hf:bZ x=true:=by unfold ah at hf; rw[if_pos rfl] at hf; exact hf
    have ep:ptT "r" x=rdT (rp x):=by unfold ptT; rw[if_pos rfl]
    rw[ep]
    exact lX hf 1
  · have q1:=eL "v" "r" o.2.2.1 o.2.1 af.2.2.2.1
    have q2:=jZ "v" o.2.2.1
    obtain ⟨xs,hi,h0,hr⟩:=v_is hf
    obtain ⟨hl,_⟩:=i6 h hi
    have ep:ptT "v" x=Txt.join "," (xs.map fun y=>rdT (rp y)):=by unfold ptT g7; rw[if_neg ne.2.2.2.1,if_pos rfl,hi]; rfl
    rw[ep]
    have hlen:∀y∈xs.map (fun y=>rdT (rp y)),y.length≤21∧PyData.strOk y=true:=fun y hy=>by
      obtain ⟨p,hp,rfl⟩:=List.mem_map.mp hy
      exact oD (hr p hp)
    have hj:=gd (S:=S) (sep:=",") (xs.map fun y=>rdT (rp y)) (by rw[cP.2.2.1]; omega) (by rw[List.length_map]; omega) fun y hy=>by have:=(hlen y hy).1; omega
    have hit:=ic hi S
    have isb:bM S (.str ",")=true:=rfl
    apply ax
    unfold aZ
    apply ac
    have hc:cr (gV 2) bv (aN 2 (aZ 1) (aB (eV 2) (aB (eC (.str "r")) aE))) [some x,some (.str "v"),none] xs [] S=.ok ((xs.map fun y=>rdT (rp y)).map .str) S:=by
      have:=eI (g:=gV 2) (tc:=bv) (m:=aN 2 (aZ 1) (aB (eV 2) (aB (eC (.str "r")) aE))) (w:=[some x,some (.str "v"),none]) (S:=S) (f:=id) xs (fun _=>true) (fun p=>.str (rdT (rp p))) (by omega) (fun p hp=>⟨_,rfl,rfl,fun _=>by
        have e:=lX (S:=S) (hr p hp) 0
        simp[e]⟩)
      rw[List.map_id] at this
      rw[this,bU,List.map_map]
      rfl
    generalize (xs.map fun y=>rdT (rp y))=ys at hj hc ⊢
    simp -dsimp [q1,q2,hit,hc,isb,hj,-aU]
  · have q1:=eL "w" "r" o.2.2.2.1 o.2.1 ne.2.2.2.2.2.1
    have q2:=eL "w" "v" o.2.2.2.1 o.2.2.1 ne.2.2.2.2.2.2.1
    have hf:fj x=true:=by unfold ah at hf; rw[if_neg ne.2.2.2.2.2.1,if_neg ne.2.2.2.2.2.2.1,if_neg ne.2.2.2.2.1] at hf; exact hf
    cases x with
    | str w=>
      have e:gk S [.str w]=some (.str w):=rfl
      have ep:ptT "w" (.str w)=w:=by unfold ptT; rw[if_neg ne.2.2.2.2.2.1,if_neg ne.2.2.2.2.2.2.1]
      rw[ep]
      apply ax
      unfold aZ
      apply ac
      simp -dsimp [q1,q2,e,-aU]
    | _=>cases hf
end
end DL
namespace DL
open PySem PySem.Spec PyProof.Rows L2 LamX
def heD (d:D):Option (Str × Str × List D):=match bf d with
  | some (.str h::ps)=>(shTbl.lookup h).map fun z=>(h,z,ps)
  | _=>none
/-- a known word,and as many things as it wants -/
def shB (d:D):Bool:=match heD d with
  | some (_,z,ps)=>decide (ps.length=z.length)
  | none=>false
def prB (d:D):Bool:=match heD d with
  | some (_,z,ps)=>(ps.zip (sgs z)).all fun p=>ah p.2 p.1
  | none=>false
def bN (d:D):Str:=match heD d with
  | some (h,z,ps)=>Txt.join " " (h::(ps.zip (sgs z)).map fun p=>ptT p.2 p.1)
  | none=>""
def g9 (ds:List D):Str:=Txt.join "\n" (ds.map bN)
/-- the first that p does not let by -/
def b8 (p:D→Bool):List D→Option Nat
  | []=>none
  | d::ds=>if p d then (b8 p ds).map (·+1) else some 0
def fR (ds:List D):Option Nat:=match b8 shB ds with
  | some k=>some k
  | none=>b8 prB ds
theorem gg {p:D→Bool}:∀(pre:List D) (d:D) (rest:List D),(∀q∈pre,p q=true)→p d=false→b8 p (pre++d::rest)=some pre.length
  | [],d,rest,_,h=>by simp[b8,h]
  | q::pre,d,rest,hp,h=>by
    have h1:=hp q List.mem_cons_self
    have ih:=gg pre d rest (fun z hz=>hp z (List.mem_cons_of_mem _ hz)) h
    simp[b8,h1,ih]
theorem cM {p:D→Bool}:∀(ds:List D),(∀q∈ds,p q=true)→b8 p ds=none
  | [],_=>rfl
  | q::ds,h=>by
    have h1:=h q List.mem_cons_self
    have ih:=cM ds fun z hz=>h z (List.mem_cons_of_mem _ hz)
    simp[b8,h1,ih]
theorem fg {p:D→Bool}:∀(ds:List D),b8 p ds=none→∀q∈ds,p q=true
  | [],_,q,h=>by cases h
  | d::ds,e,q,h=>by
    unfold b8 at e
    split at e
    · rename_i hd
      rcases List.mem_cons.mp h with rfl|h
      · exact hd
      · exact fg ds (by simpa using e) q h
    · cases e
theorem kY {d:D} {h z:Str} {ps:List D} (e:heD d=some (h,z,ps)):bf d=some (.str h::ps)∧shTbl.lookup h=some z:=by
  unfold heD at e
  split at e
  · rename_i h' ps' hi
    cases hl:shTbl.lookup h' with
    | none=>rw[hl] at e; cases e
    | some z'=>
      rw[hl] at e
      cases e
      exact ⟨hi,hl⟩
  · cases e
structure NdI (S:Sto) (v:D) (pre:List D) (env:En) (S':Sto):Prop where
  en:∃e1 e2,env=[some v,e1,e2]
  st:S'=S
  ok:∀q∈pre,shB q=true
section
variable {S:Sto} {v d x:D} {n:Nat} {s w:Str}
theorem LV_isl {ds:List D} (hv:LV S v ds):aY S [v,.ty "list"]=some (.bool true):=by
  rcases hv with rfl|⟨l,rfl,e⟩
  · rfl
  · simp[aY,eF,e]
theorem lY (h:cm n x=true):(∃w,x=.str w)∨∀S,aY S [x,.ty "str"]=some (.bool false):=by
  cases x with
  | str w=>exact .inl ⟨w,rfl⟩
  | none=>exact .inr fun S=>by simp[aY]
  | bool=>exact .inr fun S=>by simp[aY]
  | int=>exact .inr fun S=>by simp[aY]
  | lst=>exact .inr fun S=>by simp[aY]
  | tup=>exact .inr fun S=>by simp[aY]
  | tpn=>exact .inr fun S=>by simp[aY]
  | _=>cases n<;>cases h
theorem tY {ds:List D} (hv:LV S v ds) (h:∀d∈ds,cm n d=true) (hn:n≤58):Res.wp (b3 [v] S) (fun r S'=>r=.none∧S'=S∧b8 shB ds=none) (fun e S'=>∃k:Nat,b8 shB ds=some k∧e=⟨"BadDeed",[("number",.int (k:Nat))]⟩∧S'=S):=by
  have hli:=LV_isl hv
  unfold b3
  apply ac
  unfold fc
  simp -dsimp [hli,-iM,-iJ]
  refine j9 (v:=v) (f:=id) ds (fun pre _=>NdI S v pre) (by simp) (by simpa using hv) ?_ ⟨⟨_,_,rfl⟩,rfl,fun _ h=>by cases h⟩ ?_ ?_
  · rintro pre rest env S' _ ⟨⟨e1,e2,rfl⟩,rfl,_⟩
    simpa using hv
  · rintro pre d rest env S' hpre ⟨⟨e1,e2,rfl⟩,rfl,hg⟩
    have hm:d∈ds:=by rw[←hpre]; simp
    have ht:=h d hm
    have bad:shB d=false→∃k:Nat,b8 shB ds=some k∧(k:Int)=(pre.length:Int):=fun hb=>⟨pre.length,by rw[←hpre]; exact gg pre d rest hg hb,rfl⟩
    have good:shB d=true→∀q∈pre++[d],shB q=true:=fun hb q hq=>by
      rcases List.mem_append.mp hq with hq|hq
      · exact hg q hq
      · rw[List.mem_singleton.mp hq]; exact hb
    refine ⟨_,rfl,?_⟩
    show RS.wp _ _ _ _ _ _
    cases hi:bf d with
    | none=>
      have h1:=fun S=>fP ht hi S
      obtain ⟨k,hk,hk2⟩:=bad (by unfold shB heD; rw[hi])
      simp -dsimp [h1]
      exact ⟨k,hk,by rw[hk2]⟩
    | some xs=>
      have h1:=fun S=>dW hi S
      cases n with
      | zero=>rcases aV hi with rfl|rfl<;>cases ht
      | succ n=>
        obtain ⟨hl,ht2⟩:=gN ht hi
        have q3:=fun S=>(ie (S:=S) ht hn hi).2
        have hLn:=fun S=>ge hi S hl
        cases xs with
        | nil=>
          obtain ⟨k,hk,hk2⟩:=bad (by unfold shB heD; rw[hi])
          rw[decide_eq_true rfl] at q3
          simp -dsimp [h1,q3,-aU]
          exact ⟨k,hk,by rw[hk2]⟩
        | cons a ps=>
          rw[decide_eq_false (by simp)] at q3
          have x0:∀S',fIx S' d (.int 0)=some a:=fun S'=>eO (S:=S') hi (i:=0) (by simp)
          rcases lY (ht2 a List.mem_cons_self) with ⟨w,rfl⟩|hns
          · have fs:∀S',aY S' [.str w,.ty "str"]=some (.bool true):=fun _=>rfl
            cases hL:shTbl.lookup w with
            | none=>
              have hc:=gJ hL
              rw[←n7] at hc
              have k1:∀env S,env[2]?=some (some d)→iN true dTbl (aJ fIx (eV 2) (eC (.int 0))) env S=.ok (.bool true) S:=fun env S he=>tO hc (by simp[he,x0])
              obtain ⟨k,hk,hk2⟩:=bad (by unfold shB heD; rw[hi]; dsimp only; rw[hL]; rfl)
              simp -dsimp [h1,q3,x0,fs,k1,-aU,-dM]
              exact ⟨k,hk,by rw[hk2]⟩
            | some z=>
              have hT:=iY _ (cL hL)
              have k1:∀env S,env[2]?=some (some d)→iN true dTbl (aJ fIx (eV 2) (eC (.int 0))) env S=.ok (.bool false) S:=fun env S he=>tO hT.2.1 (by simp[he,x0])
              have k2:∀env S,env[2]?=some (some d)→kA dTbl (aJ fIx (eV 2) (eC (.int 0))) env S=.ok (.int ((z.length:Nat):Int)) S:=fun env S he=>kdIx_m hT.1 (by simp[he,x0])
              have hz3:z.length≤3:=hT.2.2.2.2.1
              have hsh:shB d=decide (ps.length=z.length):=by unfold shB heD; rw[hi]; dsimp only; rw[hL]; rfl
              have q2:dNe (.int ((w.length,(D.str w::ps).length).2:Nat)) (.int ((z.length:Int)+1))=some (.bool (!decide (ps.length=z.length))):=by
                have:(((D.str w::ps).length:Int)=(z.length:Int)+1)↔ps.length=z.length:=by
                  rw[List.length_cons]; omega
                simp[this]
                omega
              have q2:dNe (.int ((D.str w::ps).length:Nat)) (.int ((z.length:Int)+1))=some (.bool (!decide (ps.length=z.length))):=q2
              have hsm:a5 ((z.length:Int)+1)=true:=ck (by omega)
              by_cases hz:ps.length=z.length
              · rw[decide_eq_true hz] at q2 hsh
                generalize ((D.str w::ps).length:Int)=ln at q2 hLn
                simp -dsimp [h1,q3,x0,fs,k1,k2,hLn,q2,hsm,-aU,-a6,-dM,-fL]
                exact ⟨⟨_,_,rfl⟩,rfl,good hsh⟩
              · rw[decide_eq_false hz] at q2 hsh
                obtain ⟨k,hk,hk2⟩:=bad hsh
                generalize ((D.str w::ps).length:Int)=ln at q2 hLn
                simp -dsimp [h1,q3,x0,fs,k1,k2,hLn,q2,hsm,-aU,-a6,-dM,-fL]
                exact ⟨k,hk,by rw[hk2]⟩
          · obtain ⟨k,hk,hk2⟩:=bad (by
              unfold shB heD
              rw[hi]
              cases a with
              | str w=>have:=hns []; simp[aY] at this
              | _=>rfl)
            simp -dsimp [h1,q3,x0,hns,-aU]
            exact ⟨k,hk,by rw[hk2]⟩
  · rintro env S' ⟨⟨e1,e2,rfl⟩,rfl,hg⟩
    simp -dsimp
    exact cM ds hg
end
end DL
namespace DL
open PySem PySem.Spec PyProof.Rows L2 LamX
section
variable {S:Sto} {v d x:D} {n:Nat} {s w:Str}
theorem oE {h z:Str} {ps:List D} (e:heD d=some (h,z,ps)) (ht:aP 20 (n+2) d=true):(∀s∈sgs z,s="n"∨s="r"∨s="v"∨s="w")∧z.length≤3∧h.length≤4∧PyData.strOk h=true∧(∀p∈ps,aP 20 (n+1) p=true)∧ps.length≤19:=by
  obtain ⟨hi,hL⟩:=kY e
  have hT:=iY _ (cL hL)
  have hh:h.length≤4:=tQ _ (cL hL)
  obtain ⟨hl,hm⟩:=i6 ht hi
  rw[List.length_cons] at hl
  exact ⟨hT.2.2.2.1,hT.2.2.2.2.1,hh,hT.2.2.2.2.2,fun p hp=>hm p (List.mem_cons_of_mem _ hp),by omega⟩
theorem hJ {τ σ:Type} {xs:List τ} {ys:List σ} {p:τ × σ} (h:p∈xs.zip ys):p.1∈xs∧p.2∈ys:=List.of_mem_zip (a:=p.1) (b:=p.2) h
theorem oF (h:shB d=true):∃w z ps,heD d=some (w,z,ps)∧ps.length=z.length:=by
  unfold shB at h
  cases he:heD d with
  | none=>rw[he] at h; cases h
  | some q=>
    obtain ⟨w,z,ps⟩:=q
    rw[he] at h
    exact ⟨w,z,ps,rfl,by simpa using h⟩
theorem mt (h:shB d=true) (hp:prB d=true) (ht:aP 20 (n+2) d=true):(bN d).length≤4004∧PyData.strOk (bN d)=true:=by
  obtain ⟨hd,z,ps,he,hz⟩:=oF h
  obtain ⟨g1,g2,g3,g4,g5,g6⟩:=oE he ht
  unfold bN
  unfold prB at hp
  rw[he] at hp ⊢
  rw[List.all_eq_true] at hp
  have hl:(hd::(ps.zip (sgs z)).map fun p=>ptT p.2 p.1).length≤4:=by
    rw[List.length_cons,List.length_map,List.length_zip,dE]
    omega
  have J:=kR (sep:=" ") (B:=1000) (hd::(ps.zip (sgs z)).map fun p=>ptT p.2 p.1) eY.2.1 (fun y hy=>by
    rcases List.mem_cons.mp hy with hy|hy
    · rw[hy]
      exact ⟨by omega,g4⟩
    · obtain ⟨p,hp2,rfl⟩:=List.mem_map.mp hy
      obtain ⟨k1,k2⟩:=hJ hp2
      exact pT (g5 p.1 k1) (g1 p.2 k2) (hp p hp2))
  rw[eY.1] at J
  refine ⟨?_,J.1⟩
  have h2:(hd::(ps.zip (sgs z)).map fun p=>ptT p.2 p.1).length*(1000+1)≤4*1001:=Nat.mul_le_mul hl (Nat.le_refl _)
  exact Nat.le_trans J.2 h2
theorem oG {c:D} {ps:List D} {z:Str} (h:bf c=some ps):eJ [vt c,.str z]=some (.lst ((ps.zip (sgs z)).map fun p=>D.tup [p.1,.str p.2])):=by
  have:eJ [.tup ps,.str z]=some (.lst ((ps.zip (sgs z)).map fun p=>D.tup [p.1,.str p.2])):=by
    show some (D.lst (cU ps (bj z)))=_
    rw[lW,oA]
  rcases aV h with rfl|rfl<;>exact this
structure WrI2 (S:Sto) (v:D) (pre:List D) (env:En) (S':Sto):Prop where
  ex:∃e2 e3 e4 e5 e6,env=[some v,some (.loc S.length),e2,e3,e4,e5,e6]∧S'=S++[.lst ((pre.map bN).map .str)]
  ok:∀q∈pre,prB q=true
theorem pU {ds:List D} (h:∀d∈ds,aP 20 (n+2) d=true∧shB d=true∧prB d=true):PyData.strOk (g9 ds)=true∧(g9 ds).length≤ds.length*4005:=by
  have hrs:∀y∈ds.map bN,y.length≤4004∧PyData.strOk y=true:=fun y hy=>by
    obtain ⟨d,hd,rfl⟩:=List.mem_map.mp hy
    exact mt (h d hd).2.1 (h d hd).2.2 (h d hd).1
  have J:=kR (sep:="\n") (B:=4004) (ds.map bN) eY.2.2.2 hrs
  rw[eY.2.2.1,List.length_map] at J
  exact J
theorem jT {ds:List D} (hv:LV S v ds) (hl:ds.length≤20) (h:∀d∈ds,aP 20 (n+2) d=true) (hn:n+2≤58):Res.wp (ap [v] S) (fun r S'=>fR ds=none∧r=.str (g9 ds)∧∃T,S'=S++T) (fun e S'=>∃k:Nat,fR ds=some k∧e=⟨"BadDeed",[("number",.int (k:Nat))]⟩∧∃T,S'=S++T):=by
  have hvT:∀T,LV (S++T) v ds:=fun T=>by
    rcases hv with rfl|⟨l,rfl,e⟩
    · exact .inl rfl
    · exact .inr ⟨l,rfl,mX e T⟩
  unfold ap
  apply ac
  unfold iz
  simp -dsimp [-iM,-iJ]
  refine dp (tY hv (fun d hd=>dw (by omega) (h d hd)) hn) ?_ ?_
  rotate_left
  · rintro e S2 ⟨k,hk,rfl,rfl⟩
    refine ⟨k,?_,rfl,[],by simp⟩
    unfold fR
    rw[hk]
  rintro _ S2 ⟨rfl,rfl,hsh⟩
  have hB:fR ds=b8 prB ds:=by unfold fR; rw[hsh]
  have hall:=fg ds hsh
  rw[hB]
  simp -dsimp [-iM,-iJ]
  refine j9 (v:=v) (f:=id) ds (fun pre _=>WrI2 S2 v pre) (by simp) (by simpa using hvT _) ?_ ⟨⟨_,_,_,_,_,rfl,rfl⟩,fun _ h=>by cases h⟩ ?_ ?_
  · rintro pre rest env S' _ ⟨⟨e2,e3,e4,e5,e6,rfl,rfl⟩,_⟩
    simpa using hvT _
  · rintro pre d rest env S' hpre ⟨⟨e2,e3,e4,e5,e6,rfl,rfl⟩,hg⟩
    have hm:d∈ds:=by rw[←hpre]; simp
    obtain ⟨hd,z,ps,he,hz⟩:=oF (hall d hm)
    obtain ⟨hi,hL⟩:=kY he
    obtain ⟨g1,g2,g3,g4,g5,g6⟩:=oE he (h d hm)
    refine ⟨_,rfl,?_⟩
    obtain ⟨S3,hS3⟩:∃S3,S3=S2++[O.lst ((pre.map bN).map .str)]:=⟨_,rfl⟩
    have hzl:(ps.zip (sgs z)).length≤3:=by
      rw[List.length_zip,dE]
      omega
    have hpr:prB d=(ps.zip (sgs z)).all fun p=>ah p.2 p.1:=by unfold prB; rw[he]
    have hrow:bN d=Txt.join " " (hd::(ps.zip (sgs z)).map fun p=>ptT p.2 p.1):=by unfold bN; rw[he]
    have hpt:∀p∈ps.zip (sgs z),aP 20 (n+1) p.1=true∧(p.2="n"∨p.2="r"∨p.2="v"∨p.2="w"):=fun p hp=>⟨g5 _ (hJ hp).1,g1 _ (hJ hp).2⟩
    have x0:∀S',fIx S' d (.int 0)=some (.str hd):=fun S'=>eO (S:=S') hi (i:=0) (by simp)
    obtain ⟨c,hcut,hci⟩:=gf hi (some 1) none
    rw[cut_1] at hci
    have hci:bf c=some ps:=hci
    have hv0:=dB (S:=S3) hi
    have hsh:∀S,bz [.str hd] S=.ok (.str z) S:=fun S=>kP hL
    obtain ⟨prs,hprs⟩:∃prs,prs=ps.zip (sgs z):=⟨_,rfl⟩
    have hzip:=oG (z:=z) hci
    rw[←hprs] at hzl hpr hrow hpt hzip
    have hc1:∀(w:En),w.length=7→cr (cp 2 (ar (gV 5) (ar (gV 6) cz))) bv (aN 2 bq (aB (eV 5) (aB (eV 6) aE))) w (prs.map fun p=>D.tup [p.1,.str p.2]) [] S3=.ok (prs.map fun p=>.bool (ah p.2 p.1)) S3:=fun w hw=>by
      obtain ⟨a,b,c,d,e,f,g,rfl⟩:∃a b c d e f g,w=[a,b,c,d,e,f,g]:=by
        match w,hw with
        | [a,b,c,d,e,f,g],_=>exact ⟨a,b,c,d,e,f,g,rfl⟩
      have:=eI (g:=cp 2 (ar (gV 5) (ar (gV 6) cz))) (tc:=bv) (m:=aN 2 bq (aB (eV 5) (aB (eV 6) aE))) (w:=[a,b,c,d,e,f,g]) (S:=S3) (f:=fun p:D × Str=>D.tup [p.1,.str p.2]) prs (fun _=>true) (fun p=>.bool (ah p.2 p.1)) (by omega) (fun p hp2=>⟨_,rfl,rfl,fun _=>by
        have e:=oC (S:=S3) (dw (by omega) (hpt p hp2).1) (by omega) (hpt p hp2).2
        simp[e]⟩)
      rw[this,bU]
    have fa:kh S3 [.lst (prs.map fun p=>.bool (ah p.2 p.1))]=some (.bool (prB d)):=by
      rw[tA S3 prs fun p=>ah p.2 p.1,hpr]
    have hpl:((pre.map bN).map D.str).length<1000000:=by
      have:=congrArg List.length hpre
      simp at this ⊢
      omega
    have hgl:S3[S2.length]?=some (.lst ((pre.map bN).map .str)):=by rw[hS3]; simp
    have hlb:bS S3 (.loc S2.length)=true:=by simp[bS,hgl]
    show RS.wp _ _ _ _ _ _
    rw[←hS3]
    cases hP:prB d with
    | false=>
      rw[hP] at fa
      have hf:b8 prB ds=some pre.length:=by rw[←hpre]; exact gg pre d rest hg hP
      generalize (prs.map fun p=>D.bool (ah p.2 p.1))=BL at hc1 fa
      generalize (prs.map fun p=>D.tup [p.1,.str p.2])=PL at hzip hc1
      simp -dsimp [x0,hcut,hv0,hsh,hzip,hc1,fa]
      exact ⟨pre.length,hf,rfl,_,hS3⟩
    | true=>
      rw[hP] at fa
      have hfit:∀p∈prs,ah p.2 p.1=true:=by
        rw[hP] at hpr
        exact List.all_eq_true.mp hpr.symm
      have hc2:∀(w:En),w.length=7→cr (cp 2 (ar (gV 5) (ar (gV 6) cz))) bv (aN 2 (aZ 2) (aB (eV 5) (aB (eV 6) aE))) w (prs.map fun p=>D.tup [p.1,.str p.2]) [] S3=.ok ((prs.map fun p=>ptT p.2 p.1).map .str) S3:=fun w hw=>by
        obtain ⟨a,b,c,d,e,f,g,rfl⟩:∃a b c d e f g,w=[a,b,c,d,e,f,g]:=by
          match w,hw with
          | [a,b,c,d,e,f,g],_=>exact ⟨a,b,c,d,e,f,g,rfl⟩
        have:=eI (g:=cp 2 (ar (gV 5) (ar (gV 6) cz))) (tc:=bv) (m:=aN 2 (aZ 2) (aB (eV 5) (aB (eV 6) aE))) (w:=[a,b,c,d,e,f,g]) (S:=S3) (f:=fun p:D × Str=>D.tup [p.1,.str p.2]) prs (fun _=>true) (fun p=>.str (ptT p.2 p.1)) (by omega) (fun p hp2=>⟨_,rfl,rfl,fun _=>by
          have e:=tX (S:=S3) (hpt p hp2).1 (hpt p hp2).2 (hfit p hp2)
          simp[e]⟩)
        rw[this,bU,List.map_map]
        rfl
      obtain ⟨ws,hws⟩:∃ws,ws=prs.map fun p=>ptT p.2 p.1:=⟨_,rfl⟩
      rw[←hws] at hc2 hrow
      have hwl:ws.length≤3:=by rw[hws,List.length_map]; exact hzl
      have hwb:∀y∈hd::ws,y.length≤10000:=fun y hy=>by
        rcases List.mem_cons.mp hy with hy|hy
        · rw[hy]; omega
        · rw[hws] at hy
          obtain ⟨p,hp2,rfl⟩:=List.mem_map.mp hy
          have:=(pT (hpt p hp2).1 (hpt p hp2).2 (hfit p hp2)).1
          omega
      have hj:=gd (S:=S3) (sep:=" ") (hd::ws) (by rw[eY.1]; omega) (by rw[List.length_cons]; omega) hwb
      rw[←hrow] at hj
      have had:am (.lst [.str hd]) (.lst (ws.map .str))=some (.lst ((hd::ws).map .str)):=by
        rw[gD,if_pos (by rw[List.length_map]; show 1+_≤_; omega)]
        rfl
      have isb:bM S3 (.str " ")=true:=rfl
      have happ:bH S3 (.loc S2.length) [.str (bN d)]=some (.none,S2++[O.lst ((pre.map bN).map .str++[.str (bN d)])]):=by
        unfold bH
        simp only[hgl]
        rw[if_pos hpl,hS3]
        simp
      have vw:∀L:List D,view S3 (.lst L)=.lst L:=fun _=>rfl
      generalize (prs.map fun p=>D.bool (ah p.2 p.1))=BL at hc1 fa
      generalize (prs.map fun p=>D.tup [p.1,.str p.2])=PL at hzip hc1 hc2
      generalize (hd::ws).map D.str=RL at had hj
      generalize ws.map D.str=WL at hc2 had
      generalize hR:bN d=row at hj happ
      simp -dsimp [x0,hcut,hv0,hsh,hzip,hc1,fa,hc2,had,isb,hj,hlb,happ]
      refine ⟨⟨_,_,_,_,_,rfl,by simp[hR]⟩,fun q hq=>?_⟩
      rcases List.mem_append.mp hq with hq|hq
      · exact hg q hq
      · rw[List.mem_singleton.mp hq]; exact hP
  · rintro env S' ⟨⟨e2,e3,e4,e5,e6,rfl,rfl⟩,hg⟩
    have hrs:∀y∈ds.map bN,y.length≤4004∧PyData.strOk y=true:=fun y hy=>by
      obtain ⟨d,hd,rfl⟩:=List.mem_map.mp hy
      exact mt (hall d hd) (hg d hd) (h d hd)
    have hj:=i5 (sep:="\n") (ds.map bN) (by rw[eY.2.2.1]; omega) (by rw[List.length_map]; omega) fun y hy=>by have:=(hrs y hy).1; omega
    have hT:g9 ds=Txt.join "\n" (ds.map bN):=rfl
    rw[hT]
    generalize hR:ds.map bN=RR at hj
    have hb:fi (S2++[O.lst (RR.map .str)]) (.str "\n") [.loc S2.length]=some (.str (Txt.join "\n" RR),S2++[O.lst (RR.map .str)]):=by
      have g:(S2++[O.lst (RR.map D.str)])[S2.length]?=some (.lst (RR.map .str)):=by simp
      show (match view0 (S2++[O.lst (RR.map D.str)]) (.loc S2.length) with
        | .lst xs=>(iP "\n" xs).map fun d=>(d,S2++[O.lst (RR.map D.str)])
        | _=>none)=_
      have v0:view0 (S2++[O.lst (RR.map D.str)]) (.loc S2.length)=.lst (RR.map .str):=by
        show (match (S2++[O.lst (RR.map D.str)])[S2.length]? with
          | some (.lst xs)=>D.lst xs
          | _=>.loc S2.length)=_
        rw[g]
      rw[v0]
      show (iP "\n" (RR.map .str)).map _=_
      rw[hj]
      rfl
    have isb:∀S,bM S (.str "\n")=true:=fun _=>rfl
    simp -dsimp [isb,hb]
    exact cM ds hg
end
end DL
namespace DL
open PySem PySem.Spec PyProof.Rows L2 LamX
def tZ:MS:=sIf (cI (eB aY (aB (eV 4) (aB (eC (.ty "tuple")) (aE))))) (aO (ao 5 (eIf (cI (eB aY (aB (aJ fIx (eV 4) (eC (.int 0))) (aB (eC (.ty "int")) (aE))))) (cS (aB (eV 4) (aE))) (eB nT (aB (eV 4) (aE)))))
  (fB (eM bS bH (eV 3) (aB (eM bM fi (eC (.str ",")) (aB (cD (dj (eV 5)) (cp 2 (ar (gV 6) (ar (gV 7) (cz)))) (bv) (aJ (lv0 am) (aJ (lv0 am) (eB gk (aB (eV 6) (aE))) (eC (.str ":"))) (eB gk (aB (eV 7) (aE)))) [6,7]) (aE))) (aE))))) (fB (eM bS bH (eV 3) (aB (eB gk (aB (eV 4) (aE))) (aE))))
section
variable {S:Sto} {v d x:D} {n:Nat} {s w:Str}
theorem lZ {rs:List D} (hr:∀y∈rs,bZ y=true) (hl:rs.length≤1000000) (w:En) (hw:w.length=8):cr (cp 2 (ar (gV 6) (ar (gV 7) (cz)))) (bv) (aJ (lv0 am) (aJ (lv0 am) (eB gk (aB (eV 6) (aE))) (eC (.str ":"))) (eB gk (aB (eV 7) (aE)))) w rs [] S=.ok ((rs.map fun y=>rdT (rp y)).map .str) S:=by
  obtain ⟨a,b,c,d,e,f,g,h,rfl⟩:∃a b c d e f g h,w=[a,b,c,d,e,f,g,h]:=by
    match w,hw with
    | [a,b,c,d,e,f,g,h],_=>exact ⟨a,b,c,d,e,f,g,h,rfl⟩
  have:=eI (g:=cp 2 (ar (gV 6) (ar (gV 7) (cz)))) (tc:=bv) (m:=aJ (lv0 am) (aJ (lv0 am) (eB gk (aB (eV 6) (aE))) (eC (.str ":"))) (eB gk (aB (eV 7) (aE)))) (w:=[a,b,c,d,e,f,g,h]) (S:=S) (f:=fun z:D=>z) rs (fun _=>true) (fun y=>.str (rdT (rp y))) hl (fun y hy=>by
    obtain ⟨i,j,ei,er,hi,hj,hj2⟩:=ff (hr y hy)
    have hv:vt y=.tup [.int (i:Nat),.int (j:Nat)]:=by rcases aV ei with rfl|rfl<;>rfl
    have f0:=me (S:=S) (n:=i) (by omega)
    have f1:=me (S:=S) (n:=j) (by omega)
    have h1:=dt (n:=i) (by omega)
    have h2:=dt (n:=j) (by omega)
    have l1:(txI i).length+(":":Str).length≤1000000:=by rw[cP.1]; omega
    have l2:(txI i++":").length+(txI j).length≤1000000:=by rw[du,cP.1]; omega
    have er2:rdT (rp y)=txI i++":"++txI j:=by rw[er]; rfl
    rw[er2]
    refine ⟨_,by rw[sF,hv]; rfl,rfl,fun _=>?_⟩
    simp[f0,f1,l1,l2])
  rw[List.map_id'] at this
  rw[this,bU,List.map_map]
  rfl
theorem td {e0 e1 e2 e5 e6 e7:Option D} {W:Nat} {L:List D} {N B C:En→Sto→Prop} {R:D→Sto→Prop} {E:XV→Sto→Prop} (hx:aP 20 (n+1) x=true) (hs:s="n"∨s="r"∨s="v"∨s="w") (hf:ah s x=true) (hW:S[W]?=some (.lst L)) (hL:L.length<1000000)
    (k:∀e5 e6 e7,N [e0,e1,e2,some (.loc W),some x,e5,e6,e7] (S.set W (.lst (L++[.str (ptT s x)])))):RS.wp (tZ [e0,e1,e2,some (.loc W),some x,e5,e6,e7] S) N R E B C:=by
  have ne:=af
  have hlb:bS S (.loc W)=true:=by simp[bS,hW]
  have happ:bH S (.loc W) [.str (ptT s x)]=some (.none,S.set W (.lst (L++[.str (ptT s x)]))):=by
    unfold bH
    simp only[hW]
    rw[if_pos hL]
  have isb:bM S (.str ",")=true:=rfl
  unfold tZ
  rcases hs with rfl|rfl|rfl|rfl
  · have hf:bI x 0 999999=true:=by unfold ah at hf; rw[if_neg ne.1,if_neg ne.2.1,if_pos rfl] at hf; exact hf
    obtain ⟨i,rfl,h1,h2⟩:=g8 hf
    have e:=me (S:=S) (n:=i.toNat) (by omega)
    rw[Int.toNat_of_nonneg h1] at e
    have ep:ptT "n" (.int i)=txI i.toNat:=by unfold ptT; rw[if_neg ne.1,if_neg ne.2.1]
    have hi:aY S [.int i,.ty "tuple"]=some (.bool false):=by simp[aY]
    rw[ep] at happ k
    simp -dsimp [hi,e,hlb,happ]
    exact k _ _ _
  · have hf:bZ x=true:=by unfold ah at hf; rw[if_pos rfl] at hf; exact hf
    obtain ⟨i,j,ei,er,hi,hj,hj2⟩:=ff hf
    have ep:ptT "r" x=Txt.join "," ([x].map fun y=>rdT (rp y)):=by unfold ptT; rw[if_pos rfl]; rfl
    have hc:=fun w hw=>lZ (S:=S) (rs:=[x]) (fun y hy=>by rw[List.mem_singleton.mp hy]; exact hf) (by simp) w hw
    have hj:=gd (S:=S) (sep:=",") ([x].map fun y=>rdT (rp y)) (by rw[cP.2.2.1]; omega) (by simp) fun y hy=>by
      obtain ⟨p,hp,rfl⟩:=List.mem_map.mp hy
      rw[List.mem_singleton.mp hp]
      have:=(oD hf).1
      omega
    have h1:=dW ei S
    have x0:fIx S x (.int 0)=some (.int (i:Nat)):=eO (S:=S) ei (i:=0) (by simp)
    have h2:aY S [.int (i:Nat),.ty "int"]=some (.bool true):=by simp[aY]
    rw[ep] at happ k
    generalize ([x].map fun y=>rdT (rp y))=ys at *
    simp -dsimp [h1,x0,h2,hc,isb,hj,hlb,happ]
    exact k _ _ _
  · obtain ⟨xs,hi,h0,hr⟩:=v_is hf
    obtain ⟨hl,_⟩:=i6 hx hi
    have ep:ptT "v" x=Txt.join "," (xs.map fun y=>rdT (rp y)):=by unfold ptT g7; rw[if_neg ne.2.2.2.1,if_pos rfl,hi]; rfl
    have hc:=fun w hw=>lZ (S:=S) (rs:=xs) hr (by omega) w hw
    have hj:=gd (S:=S) (sep:=",") (xs.map fun y=>rdT (rp y)) (by rw[cP.2.2.1]; omega) (by rw[List.length_map]; omega) fun y hy=>by
      obtain ⟨p,hp,rfl⟩:=List.mem_map.mp hy
      have:=(oD (hr p hp)).1
      omega
    have h1:=dW hi S
    obtain ⟨a,l,rfl⟩:∃a l,xs=a::l:=by
      cases xs with
      | nil=>exact absurd rfl h0
      | cons a l=>exact ⟨a,l,rfl⟩
    have x0:fIx S x (.int 0)=some a:=eO (S:=S) hi (i:=0) (by simp)
    obtain ⟨i,j,ei,er,_⟩:=ff (hr a List.mem_cons_self)
    have h2:aY S [a,.ty "int"]=some (.bool false):=by rcases aV ei with rfl|rfl<;>simp[aY]
    have h3:nT S [x]=some (.lst (a::l)):=by rcases aV hi with rfl|rfl<;>rfl
    rw[ep] at happ k
    generalize ((a::l).map fun y=>rdT (rp y))=ys at *
    simp -dsimp [h1,x0,h2,h3,hc,isb,hj,hlb,happ]
    exact k _ _ _
  · have hf:fj x=true:=by unfold ah at hf; rw[if_neg ne.2.2.2.2.2.1,if_neg ne.2.2.2.2.2.2.1,if_neg ne.2.2.2.2.1] at hf; exact hf
    cases x with
    | str w=>
      have e:gk S [.str w]=some (.str w):=rfl
      have ep:ptT "w" (.str w)=w:=by unfold ptT; rw[if_neg ne.2.2.2.2.2.1,if_neg ne.2.2.2.2.2.2.1]
      have hi:aY S [.str w,.ty "tuple"]=some (.bool false):=by simp[aY]
      rw[ep] at happ k
      simp -dsimp [hi,e,hlb,happ]
      exact k _ _ _
    | _=>cases hf
structure LxI (S:Sto) (v:D) (pre:List D) (env:En) (S':Sto):Prop where
  ex:∃e2 e3 e4 e5 e6 e7 T,env=[some v,some (.loc S.length),e2,e3,e4,e5,e6,e7]∧S'=S++.lst ((pre.map bN).map .str)::T
structure LyI (S:Sto) (v d:D) (h:Str) (pre:List (D × Str)) (env:En) (S':Sto):Prop where
  ex:∃e4 e5 e6 e7 W,W=S.length∧env=[some v,some (.loc n),some d,some (.loc W),e4,e5,e6,e7]∧S'=S++[.lst (((h::pre.map fun p=>ptT p.2 p.1)).map .str)]
theorem q6 {S:Sto} {l:Nat} {L:List D} (g:S[l]?=some (.lst L)):bS S (.loc l)=true:=by simp[bS,g]
theorem qP {τ σ:Type}:∀ {xs:List τ} {ys:List σ},xs.length=ys.length→(xs.zip ys).map (·.1)=xs
  | [],[],_=>rfl
  | x::xs,y::ys,h=>by
    rw[List.zip_cons_cons,List.map_cons,qP (by simpa using h)]
  | [],_::_,h=>by cases h
  | _::_,[],h=>by cases h
theorem lc {S:Sto} {l:Nat} {sep:Str} {ys:List Str} (g:S[l]?=some (.lst (ys.map .str))) (hs:sep.length≤1) (hl:ys.length≤1000) (h:∀y∈ys,y.length≤10000):fi S (.str sep) [.loc l]=some (.str (Txt.join sep ys),S):=by
  have hj:=i5 ys hs hl h
  show (match view0 S (.loc l) with
    | .lst xs=>(iP sep xs).map fun d=>(d,S)
    | _=>none)=_
  have v0:view0 S (.loc l)=.lst (ys.map .str):=by
    show (match S[l]? with
      | some (.lst xs)=>D.lst xs
      | _=>.loc l)=_
    rw[g]
  rw[v0]
  show (iP sep (ys.map .str)).map _=_
  rw[hj]
  rfl
theorem oH {ds:List D} (hv:LV S v ds) (hl:ds.length≤20) (h:∀d∈ds,aP 20 (n+2) d=true) (hok:∀d∈ds,shB d=true∧prB d=true):Res.wp (b4 [v] S) (fun r S'=>r=.str (g9 ds)∧∃T,S'=S++T) NoE:=by
  have hvT:∀T,LV (S++T) v ds:=fun T=>by
    rcases hv with rfl|⟨l,rfl,e⟩
    · exact .inl rfl
    · exact .inr ⟨l,rfl,mX e T⟩
  unfold b4
  apply ac
  unfold kJ
  simp -dsimp [-iM,-iJ]
  refine qi (v:=v) (f:=id) ds (fun pre _=>LxI S v pre) (by simp) (by simpa using hvT _) ?_ ⟨_,_,_,_,_,_,[],rfl,rfl⟩ ?_ ?_
  · rintro pre rest env S' _ ⟨e2,e3,e4,e5,e6,e7,T,rfl,rfl⟩
    simpa using hvT _
  · rintro pre d rest env S' hpre ⟨e2,e3,e4,e5,e6,e7,T,rfl,rfl⟩
    have hm:d∈ds:=by rw[←hpre]; simp
    obtain ⟨hd,z,ps,he,hz⟩:=oF (hok d hm).1
    obtain ⟨hi,hL⟩:=kY he
    obtain ⟨g1,g2,g3,g4,g5,g6⟩:=oE he (h d hm)
    refine ⟨_,rfl,?_⟩
    obtain ⟨S3,hS3⟩:∃S3,S3=S++O.lst ((pre.map bN).map .str)::T:=⟨_,rfl⟩
    have hrow:bN d=Txt.join " " (hd::(ps.zip (sgs z)).map fun p=>ptT p.2 p.1):=by unfold bN; rw[he]
    have hpr:∀p∈ps.zip (sgs z),ah p.2 p.1=true:=by
      have:=(hok d hm).2
      unfold prB at this
      rw[he] at this
      exact List.all_eq_true.mp this
    have hpt:∀p∈ps.zip (sgs z),aP 20 (n+1) p.1=true∧(p.2="n"∨p.2="r"∨p.2="v"∨p.2="w"):=fun p hp=>⟨g5 _ (hJ hp).1,g1 _ (hJ hp).2⟩
    have x0:∀S',fIx S' d (.int 0)=some (.str hd):=fun S'=>eO (S:=S') hi (i:=0) (by simp)
    obtain ⟨c,hcut,hci⟩:=gf hi (some 1) none
    rw[cut_1] at hci
    have hci:bf c=some ps:=hci
    have hv0:=fun S=>dB (S:=S) hi
    have hit:=fun S=>ic hci S
    have hfs:(ps.zip (sgs z)).map (·.1)=ps:=qP (by rw[dE]; exact hz)
    have hpl:((pre.map bN).map D.str).length<1000000:=by
      have:=congrArg List.length hpre
      simp at this ⊢
      omega
    have hgl:S3[S.length]?=some (.lst ((pre.map bN).map .str)):=by rw[hS3]; simp
    show RS.wp _ _ _ _ _ _
    rw[←hS3]
    simp -dsimp [x0,hcut,hv0,hit]
    refine fY (f:=fun p:D × Str=>p.1) (ps.zip (sgs z)) (fun pre2 _=>LyI (n:=S.length) S3 v d hd pre2) hfs.symm ⟨_,_,_,_,_,rfl,rfl,rfl⟩ ?_ ?_
    · rintro pre2 p rest2 env S' hpre2 ⟨e4,e5,e6,e7,W,hW,rfl,rfl⟩
      have hp2:p∈ps.zip (sgs z):=by rw[←hpre2]; simp
      refine ⟨_,rfl,?_⟩
      refine td (s:=p.2) (W:=W) (hpt p hp2).1 (hpt p hp2).2 (hpr p hp2) (L:=((hd::pre2.map fun p=>ptT p.2 p.1)).map .str) (by rw[hW]; simp) ?_ fun a b c=>?_
      · have:=congrArg List.length hpre2
        rw[List.length_zip] at this
        simp at this ⊢
        omega
      · refine ⟨_,_,_,_,_,hW,rfl,?_⟩
        rw[hW]
        simp[List.set_append_right]
    · rintro env S' ⟨e4,e5,e6,e7,W,hW,rfl,rfl⟩
      obtain ⟨ws,hws⟩:∃ws,ws=(ps.zip (sgs z)).map fun p=>ptT p.2 p.1:=⟨_,rfl⟩
      rw[←hws] at hrow ⊢
      have hwl:ws.length≤3:=by rw[hws,List.length_map,List.length_zip,dE]; omega
      have hwb:∀y∈hd::ws,y.length≤10000:=fun y hy=>by
        rcases List.mem_cons.mp hy with hy|hy
        · rw[hy]; omega
        · rw[hws] at hy
          obtain ⟨p,hp2,rfl⟩:=List.mem_map.mp hy
          have:=(pT (hpt p hp2).1 (hpt p hp2).2 (hpr p hp2)).1
          omega
      have gW:(S3++[O.lst ((hd::ws).map .str)])[W]?=some (.lst ((hd::ws).map .str)):=by rw[hW]; simp
      have hj:=lc (sep:=" ") gW (by rw[eY.1]; omega) (by rw[List.length_cons]; omega) hwb
      rw[←hrow] at hj
      have isb:bM (S3++[O.lst ((hd::ws).map .str)]) (.str " ")=true:=rfl
      have gl:(S3++[O.lst ((hd::ws).map .str)])[S.length]?=some (.lst ((pre.map bN).map .str)):=mX hgl _
      have hlb:bS (S3++[O.lst ((hd::ws).map .str)]) (.loc S.length)=true:=q6 gl
      have happ:bH (S3++[O.lst ((hd::ws).map .str)]) (.loc S.length) [.str (bN d)]=some (.none,S++O.lst ((pre.map bN).map .str++[.str (bN d)])::(T++[O.lst ((hd::ws).map .str)])):=by
        unfold bH
        simp only[gl]
        rw[if_pos hpl,hS3]
        simp[List.set_append_right]
      generalize hWL:(hd::ws).map D.str=WL at *
      generalize hR:bN d=row at hj happ
      simp -dsimp [isb,hj,hlb,happ]
      exact ⟨_,_,_,_,_,_,T++[O.lst WL],rfl,by simp[hR]⟩
  · rintro env S' ⟨e2,e3,e4,e5,e6,e7,T,rfl,rfl⟩
    have hrs:∀y∈ds.map bN,y.length≤4004∧PyData.strOk y=true:=fun y hy=>by
      obtain ⟨d,hd,rfl⟩:=List.mem_map.mp hy
      exact mt (hok d hd).1 (hok d hd).2 (h d hd)
    have hT:g9 ds=Txt.join "\n" (ds.map bN):=rfl
    have gW:(S++O.lst ((ds.map bN).map .str)::T)[S.length]?=some (.lst ((ds.map bN).map .str)):=by simp
    have hj:=lc (sep:="\n") gW (by rw[eY.2.2.1]; omega) (by rw[List.length_map]; omega) fun y hy=>by have:=(hrs y hy).1; omega
    rw[←hT] at hj
    have isb:∀S,bM S (.str "\n")=true:=fun _=>rfl
    generalize (ds.map bN).map D.str=WL at *
    simp -dsimp [isb,hj]
end
end DL
namespace DL
open PySem PySem.Spec PyProof.Rows L2 LamX
theorem oJ (a b:Str):keq false (.str a) (.str b)=decide (a=b):=by simp[keq,fh]
def kvZ (p:Str × Str):D × D:=(.str p.1,.str p.2)
def shHd:List (Str × Str):=[("fly","rw"),("sell","wvw"),("back","n"),("away","n"),("late","rn"),("off","r"),("kind","ww")]
def shTl:List (Str × Str):=[("turn","n"),("mend","n")]
def pV:Option Nat→D
  | some k=>.int (k:Nat)
  | none=>.none
theorem jj:∀(l kvs:List (Str × Str)),((kvs++l).map (·.1)).Nodup→cQ (kvs.map kvZ) (l.map kvZ)=(kvs++l).map kvZ
  | [],kvs,_=>by rw[List.append_nil]; rfl
  | p::l,kvs,h=>by
    have h2:(((kvs++[p])++l).map (·.1)).Nodup:=by
      rw[List.append_assoc]
      exact h
    have ih:=jj l (kvs++[p]) h2
    have hp:jX false (kvs.map kvZ) (.str p.1) (.str p.2)=(kvs++[p]).map kvZ:=by
      unfold jX
      rw[if_neg]
      · rw[List.map_append]
        rfl
      · rw[List.any_map,Bool.not_eq_true,List.any_eq_false]
        intro q hq
        rw[List.map_append,List.nodup_append] at h
        have:=h.2.2 q.1 (List.mem_map.mpr ⟨q,hq,rfl⟩) p.1 (by simp)
        show ¬(keq false (.str q.1) (.str p.1)=true)
        rw[oJ]
        simpa using this
    show cQ (jX false (kvs.map kvZ) (.str p.1) (.str p.2)) (l.map kvZ)=_
    rw[hp,ih,List.append_assoc]
    rfl
theorem kZ (w:Str):∀l:List (Str × Str),df false (l.map kvZ) (.str w)=(l.lookup w).map .str
  | []=>rfl
  | p::l=>by
    have ih:=kZ w l
    unfold df at ih ⊢
    rw[List.map_cons,List.find?_cons,List.lookup_cons]
    have e:keq false (kvZ p).1 (.str w)=decide (p.1=w):=oJ _ _
    rw[e]
    by_cases h:p.1=w
    · have:(w == p.1)=true:=by simp[h]
      rw[decide_eq_true h,this]
      rfl
    · have:(w == p.1)=false:=by
        simp
        exact fun z=>h z.symm
      rw[decide_eq_false h,this]
      exact ih
theorem shNd:(((([]:List (Str × Str))++shHd).map (·.1)).Nodup)∧(((([]:List (Str × Str))++shTl).map (·.1)).Nodup)∧((shHd++shTl).map (·.1)).Nodup:=by decide +kernel
theorem shSp:shHd++shTl=shTbl:=rfl
theorem u5 (env:En) (S:Sto):jL [(eC (.str "fly"),eC (.str "rw")),(eC (.str "sell"),eC (.str "wvw")),(eC (.str "back"),eC (.str "n")),(eC (.str "away"),eC (.str "n")),(eC (.str "late"),eC (.str "rn")),(eC (.str "off"),eC (.str "r")),(eC (.str "kind"),eC (.str "ww"))] env S=.ok (.loc S.length) (S++[.dct false (shHd.map kvZ)]):=by
  have e:=jj shHd [] shNd.1
  have hp:∀r:List (ME × ME),r=[(eC (.str "fly"),eC (.str "rw")),(eC (.str "sell"),eC (.str "wvw")),(eC (.str "back"),eC (.str "n")),(eC (.str "away"),eC (.str "n")),(eC (.str "late"),eC (.str "rn")),(eC (.str "off"),eC (.str "r")),(eC (.str "kind"),eC (.str "ww"))]→j4 r env S=.ok (shHd.map kvZ) S:=by
    rintro r rfl
    rfl
  unfold jL
  rw[hp _ rfl]
  have hk:((shHd.map kvZ).all fun p=>bh false p.1)=true∧(shHd.map kvZ).length≤15:=⟨by decide +kernel,by decide⟩
  show (if _ then _ else _)=_
  rw[if_pos hk]
  rw[show cQ [] (shHd.map kvZ)=shHd.map kvZ from e]
theorem u6 (env:En) (S:Sto):jL [(eC (.str "turn"),eC (.str "n")),(eC (.str "mend"),eC (.str "n"))] env S=.ok (.loc S.length) (S++[.dct false (shTl.map kvZ)]):=by
  have e:=jj shTl [] shNd.2.1
  have hp:∀r:List (ME × ME),r=[(eC (.str "turn"),eC (.str "n")),(eC (.str "mend"),eC (.str "n"))]→j4 r env S=.ok (shTl.map kvZ) S:=by
    rintro r rfl
    rfl
  unfold jL
  rw[hp _ rfl]
  have hk:((shTl.map kvZ).all fun p=>bh false p.1)=true∧(shTl.map kvZ).length≤15:=⟨by decide +kernel,by decide⟩
  show (if _ then _ else _)=_
  rw[if_pos hk]
  rw[show cQ [] (shTl.map kvZ)=shTl.map kvZ from e]
theorem th (S:Sto):nl (S++[.dct false (shHd.map kvZ),.dct false (shTl.map kvZ)]) (.loc S.length) [.loc (S.length+1)]=some (.none,S++[.dct false (shTbl.map kvZ),.dct false (shTl.map kvZ)]):=by
  have e:=jj shTl shHd shNd.2.2
  have g1:(S++[O.dct false (shHd.map kvZ),.dct false (shTl.map kvZ)])[S.length]?=some (.dct false (shHd.map kvZ)):=by simp
  have g2:(S++[O.dct false (shHd.map kvZ),.dct false (shTl.map kvZ)])[S.length+1]?=some (.dct false (shTl.map kvZ)):=by
    rw[List.getElem?_append_right (by omega)]
    simp
  unfold nl
  show (if S.length=S.length+1 then none else match (S++[O.dct false (shHd.map kvZ),.dct false (shTl.map kvZ)])[S.length]?,b9 (S++[O.dct false (shHd.map kvZ),.dct false (shTl.map kvZ)])[S.length+1]? with
    | some (.dct false kvs),some (false,more)=>if kvs.length+more.length≤1000000 then some (D.none,(S++[O.dct false (shHd.map kvZ),.dct false (shTl.map kvZ)]).set S.length (.dct false (cQ kvs more))) else none
    | _,_=>none)=_
  rw[if_neg (by omega),g1,g2]
  show (if (shHd.map kvZ).length+(shTl.map kvZ).length≤1000000 then _ else _)=_
  rw[if_pos (by decide),e,shSp]
  simp
theorem qQ {w:Str} (h:PyData.strOk w=true):bh false (.str w)=true:=by
  simp[bh,fh,h]
theorem u7 {d:D} {h z:Str} {ps:List D} (he:heD d=some (h,z,ps)) (hz:ps.length=z.length):prB d=decide ((List.range z.length).filter (fun j=>!ah ((sgs z).getD j "") (ps.getD j .none))=[]):=by
  unfold prB
  rw[he]
  dsimp only
  rw[Bool.eq_iff_iff,List.all_eq_true,decide_eq_true_eq,List.filter_eq_nil_iff]
  have hs:=dE z
  constructor
  · intro h j hj
    have hj:=List.mem_range.mp hj
    have h1:(ps.zip (sgs z))[j]?=some (ps[j]'(by omega),(sgs z)[j]'(by omega)):=by
      rw[List.getElem?_zip_eq_some]
      exact ⟨List.getElem?_eq_getElem _,List.getElem?_eq_getElem _⟩
    have h2:=h _ (List.mem_of_getElem? h1)
    have e1:(sgs z).getD j ""=(sgs z)[j]'(by omega):=by simp[List.getD_eq_getElem?_getD,show j<(sgs z).length by omega]
    have e2:ps.getD j .none=ps[j]'(by omega):=by simp[List.getD_eq_getElem?_getD,show j<ps.length by omega]
    rw[e1,e2,h2]
    decide
  · intro h p hp
    obtain ⟨j,hj,ej⟩:=List.getElem_of_mem hp
    rw[List.length_zip] at hj
    have h2:=h j (List.mem_range.mpr (by omega))
    have e1:(sgs z).getD j ""=(sgs z)[j]'(by omega):=by simp[List.getD_eq_getElem?_getD,show j<(sgs z).length by omega]
    have e2:ps.getD j .none=ps[j]'(by omega):=by simp[List.getD_eq_getElem?_getD,show j<ps.length by omega]
    rw[e1,e2] at h2
    rw[←ej,List.getElem_zip]
    simpa using h2
theorem ti (l:List Nat):dNe (.lst (l.map fun i:Nat=>D.int i)) (.lst [])=some (.bool (!decide (l=[]))):=by
  have h1:dok 60 (.lst (l.map fun i:Nat=>D.int i))=true:=by
    show (l.map fun i:Nat=>D.int i).all (dok 59)=true
    rw[List.all_eq_true]
    intro z hz
    obtain ⟨i,_,rfl⟩:=List.mem_map.mp hz
    rfl
  have h2:peq (.lst (l.map fun i:Nat=>D.int i)) (.lst [])=decide (l=[]):=by
    rw[mI]
    cases l<;>simp
  unfold dNe
  rw[h1,h2]
  rfl
def cX (S:Sto):Sto:=S++[.dct false (shTbl.map kvZ),.dct false (shTl.map kvZ)]
structure LbI (S:Sto) (ds:List D) (p:D→Bool) (k:Nat) (env:En) (S':Sto):Prop where
  en:∃e2 e3 e4 e5,env=[some (.lst ds),some (.loc S.length),e2,e3,e4,e5]
  st:S'=cX S
  ok:∀q∈ds.take k,p q=true
theorem ld {ds:List D} {k:Nat} (hk:k<ds.length) {p:D→Bool} (h:∀q∈ds.take k,p q=true) (hp:p ds[k]=true):∀q∈ds.take (k+1),p q=true:=by
  rw[List.take_succ_eq_append_getElem hk]
  intro q hq
  rcases List.mem_append.mp hq with hq|hq
  · exact h q hq
  · rw[List.mem_singleton.mp hq]; exact hp
theorem oK {ds:List D} {k:Nat} (hk:k<ds.length) {p:D→Bool} (h:∀q∈ds.take k,p q=true) (hp:p ds[k]=false):b8 p ds=some k:=by
  have e:ds=ds.take k++ds[k]::ds.drop (k+1):=by
    rw[List.getElem_cons_drop hk,List.take_append_drop]
  have:=gg (ds.take k) ds[k] (ds.drop (k+1)) h hp
  rw[←e] at this
  rw[this,List.length_take]
  congr 1
  omega
section
variable {S:Sto} {v d x:D} {n:Nat} {s w:Str}
theorem u8 {ds:List D} (hl:ds.length≤20) (h:∀d∈ds,aP 20 (n+2) d=true) (hn:n+2≤58):Res.wp (dA [.lst ds] S) (fun r S'=>r=pV (fR ds)∧∃T,S'=S++T) NoE:=by
  have dS:(cX S)[S.length]?=some (.dct false (shTbl.map kvZ)):=by simp[cX]
  have hfl:∀S,bF S [.lst ds]=some (.int ds.length):=fun S=>by simp[bF,show ds.length≤1000000 by omega]
  have hsm:a5 (ds.length:Int)=true:=ck (by omega)
  have hlaw:∃T,cX S=S++T:=⟨_,rfl⟩
  have hlk:∀ {w z:Str},PyData.strOk w=true→shTbl.lookup w=some z→fIx (cX S) (.loc S.length) (.str w)=some (.str z):=by
    intro w z ok e
    have vw:view (cX S) (.loc S.length)=.loc S.length:=by simp[view,view0,dS,vt]
    unfold fIx
    rw[vw]
    show (match b9 (cX S)[S.length]? with
      | some (t,kvs)=>if bh t (.str w) then df t kvs (.str w) else none
      | none=>none)=_
    rw[dS]
    show (if bh false (.str w) then df false (shTbl.map kvZ) (.str w) else none)=_
    rw[if_pos (qQ ok),kZ,e]
    rfl
  have hnin:∀ {w:Str},PyData.strOk w=true→dIn (cX S) (.str w) (.loc S.length)=some (shTbl.lookup w).isSome:=by
    intro w ok
    have vw:view (cX S) (.loc S.length)=.loc S.length:=by simp[view,view0,dS,vt]
    unfold dIn
    rw[vw]
    show (match b9 (cX S)[S.length]? with
      | some (t,kvs)=>if bh t (.str w) then some (df t kvs (.str w)).isSome else none
      | none=>none)=_
    rw[dS]
    show (if bh false (.str w) then some (df false (shTbl.map kvZ) (.str w)).isSome else none)=_
    rw[if_pos (qQ ok),kZ]
    simp
  have hisd:j1 (S++[.dct false (shHd.map kvZ)]) (.loc S.length)=true:=by simp[j1,b9]
  have hupd:_=some (D.none,cX S):=th S
  have hlen2:(S++[O.dct false (shHd.map kvZ)]).length=S.length+1:=by simp
  have hst2:S++[O.dct false (shHd.map kvZ)]++[.dct false (shTl.map kvZ)]=S++[.dct false (shHd.map kvZ),.dct false (shTl.map kvZ)]:=by simp
  have hL:S++[.dct false (shTbl.map kvZ),.dct false (shTl.map kvZ)]=cX S:=rfl
  unfold dA
  apply ac
  unfold lR
  simp -dsimp [u5,u6,hisd,hlen2,hst2,hupd,hfl,hsm,dR]
  refine fY (f:=fun i:Nat=>D.int i) (List.range ds.length) (fun pre _=>LbI S ds shB pre.length) rfl ⟨⟨_,_,_,_,rfl⟩,rfl,fun q hq=>by simp at hq⟩ ?_ ?_
  · rintro pre x rest env S' hpre ⟨⟨e2,e3,e4,e5,rfl⟩,rfl,hg⟩
    obtain ⟨rfl,hx⟩:=gG hpre
    have hix:fIx (cX S) (.lst ds) (.int (pre.length:Nat))=some ds[pre.length]:=by rw[iL,gZ hx,List.getElem?_eq_getElem]
    have hm:=List.getElem_mem hx
    have bad:shB ds[pre.length]=false→.int (pre.length:Nat)=pV (fR ds):=fun hb=>by
      unfold fR
      rw[oK hx hg hb]
      rfl
    have good:=fun hp=>ld hx (p:=shB) hg hp
    have ht:=dw (by omega) (h _ hm)
    have htL:=h _ hm
    generalize ds[pre.length]=d at *
    refine ⟨_,rfl,?_⟩
    rw[List.length_append]
    cases hi:bf d with
    | none=>
      have h1:=fP ht hi (cX S)
      simp -dsimp [hix,h1]
      exact ⟨bad (by unfold shB heD; rw[hi]),hlaw⟩
    | some xs=>
      have h1:=dW hi (cX S)
      obtain ⟨hl2,ht2⟩:=gN ht hi
      have q3:=(ie (S:=cX S) ht hn hi).2
      have hLn:=ge hi (cX S) hl2
      cases xs with
      | nil=>
        rw[decide_eq_true rfl] at q3
        simp -dsimp [hix,h1,q3,-aU]
        exact ⟨bad (by unfold shB heD; rw[hi]),hlaw⟩
      | cons a ps=>
        rw[decide_eq_false (by simp)] at q3
        have x0:fIx (cX S) d (.int 0)=some a:=eO (S:=cX S) hi (i:=0) (by simp)
        have ta:=ht2 a List.mem_cons_self
        rcases lY ta with ⟨w,rfl⟩|hns
        · have fs:aY (cX S) [.str w,.ty "str"]=some (.bool true):=rfl
          have ok:PyData.strOk w=true:=by rw[gK] at ta; exact (Bool.and_eq_true_iff.mp ta).1
          have k1:=hnin ok
          cases hLk:shTbl.lookup w with
          | none=>
            have hsb:shB d=false:=by unfold shB heD; rw[hi]; dsimp only; rw[hLk]; rfl
            rw[hLk] at k1
            have k1:dIn (cX S) (.str w) (.loc S.length)=some false:=k1
            simp -dsimp [hix,h1,q3,x0,fs,fU,k1,-aU]
            exact ⟨bad hsb,hlaw⟩
          | some z=>
            rw[hLk] at k1
            have k1:dIn (cX S) (.str w) (.loc S.length)=some true:=k1
            have k2:=hlk ok hLk
            have hT:=iY _ (cL hLk)
            have hz3:z.length≤3:=hT.2.2.2.2.1
            have hzl:bF (cX S) [.str z]=some (.int (z.length:Nat)):=by simp[bF,show z.length≤1000000 by omega]
            have hsh:shB d=decide (ps.length=z.length):=by unfold shB heD; rw[hi]; dsimp only; rw[hLk]; rfl
            have q2:dNe (.int ((D.str w::ps).length:Nat)) (.int ((z.length:Int)+1))=some (.bool (!decide (ps.length=z.length))):=by
              have:(((D.str w::ps).length:Int)=(z.length:Int)+1)↔ps.length=z.length:=by
                rw[List.length_cons]; omega
              simp[this]
              omega
            by_cases hz:ps.length=z.length
            · rw[decide_eq_true hz] at q2 hsh
              generalize ((D.str w::ps).length:Int)=ln at q2 hLn
              simp -dsimp [hix,h1,q3,x0,fs,fU,k1,k2,hzl,hLn,q2,-aU,-a6]
              exact ⟨⟨_,_,_,_,rfl⟩,rfl,good hsh⟩
            · rw[decide_eq_false hz] at q2 hsh
              generalize ((D.str w::ps).length:Int)=ln at q2 hLn
              simp -dsimp [hix,h1,q3,x0,fs,fU,k1,k2,hzl,hLn,q2,-aU,-a6]
              exact ⟨bad hsh,hlaw⟩
        · have hsb:shB d=false:=by
            unfold shB heD
            rw[hi]
            cases a with
            | str w=>have:=hns []; simp[aY] at this
            | _=>rfl
          have hns:=hns (cX S)
          simp -dsimp [hix,h1,q3,x0,hns,-aU]
          exact ⟨bad hsb,hlaw⟩
  · rintro env S' ⟨⟨e2,e3,e4,e5,rfl⟩,rfl,hg⟩
    rw[List.length_range,List.take_length] at hg
    have hB:fR ds=b8 prB ds:=by unfold fR; rw[cM ds hg]
    rw[hB]
    simp -dsimp [hfl,hsm,dR]
    refine fY (f:=fun i:Nat=>D.int i) (List.range ds.length) (fun pre _=>LbI S ds prB pre.length) rfl ⟨⟨_,_,_,_,rfl⟩,rfl,fun q hq=>by simp at hq⟩ ?_ ?_
    · rintro pre x rest env S' hpre ⟨⟨e2,e3,e4,e5,rfl⟩,rfl,hg2⟩
      obtain ⟨rfl,hx⟩:=gG hpre
      have hix:fIx (cX S) (.lst ds) (.int (pre.length:Nat))=some ds[pre.length]:=by rw[iL,gZ hx,List.getElem?_eq_getElem]
      have hm:=List.getElem_mem hx
      have bad:prB ds[pre.length]=false→.int (pre.length:Nat)=pV (b8 prB ds):=fun hb=>by
        rw[oK hx hg2 hb]
        rfl
      have good:=fun hp=>ld hx (p:=prB) hg2 hp
      have ht:=dw (by omega) (h _ hm)
      have htL:=h _ hm
      have hsh:=hg _ hm
      generalize ds[pre.length]=d at *
      obtain ⟨hd,z,ps,he,hz⟩:=oF hsh
      obtain ⟨hi,hLk⟩:=kY he
      obtain ⟨g1,g2,g3,g4,g5,g6⟩:=oE he htL
      have x0:fIx (cX S) d (.int 0)=some (.str hd):=eO (S:=cX S) hi (i:=0) (by simp)
      have k2:=hlk g4 hLk
      have hzl:bF (cX S) [.str z]=some (.int (z.length:Nat)):=by simp[bF,show z.length≤1000000 by omega]
      have hsz:a5 (z.length:Int)=true:=ck (by omega)
      have hpr:=u7 he hz
      refine ⟨_,rfl,?_⟩
      rw[List.length_append]
      simp -dsimp [hix,x0,k2,hzl,hsz,dR]
      refine av (f:=fun i:Nat=>D.int i) (List.range z.length) (fun j=>!ah ((sgs z).getD j "") (ps.getD j .none)) (fun j=>.int (j:Nat)) rfl (by rw[List.length_range]; omega) (fun j hj=>⟨_,rfl,?_,fun _=>rfl⟩) ?_
      · have hj:=List.mem_range.mp hj
        have hs:=dE z
        have x1:fIx (cX S) d (.int (1+(j:Int)))=some (ps.getD j .none):=by
          have:=eO (S:=cX S) hi (i:=j+1) (by rw[List.length_cons]; omega)
          rw[show (((j+1:Nat)):Int)=1+(j:Int) by omega] at this
          rw[this]
          simp[List.getD_eq_getElem?_getD,show j<ps.length by omega]
        have x2:fIx (cX S) (.str z) (.int (j:Nat))=some (.str ((sgs z).getD j "")):=by
          rw[fix_sg (by omega) hj]
          unfold sgs
          have hj2:j<z.cps.size:=hj
          simp[List.getD_eq_getElem?_getD,hj2,Array.getD]
        have e1:(sgs z).getD j ""=(sgs z)[j]'(by omega):=by simp[List.getD_eq_getElem?_getD,show j<(sgs z).length by omega]
        have e2:ps.getD j .none=ps[j]'(by omega):=by simp[List.getD_eq_getElem?_getD,show j<ps.length by omega]
        have m1:=g1 _ (List.getElem_mem (show j<(sgs z).length by omega))
        have m2:=g5 _ (List.getElem_mem (show j<ps.length by omega))
        rw[←e1] at m1
        rw[←e2] at m2
        have hf:=mr (S:=cX S) (dw (by omega) m2) (by omega) m1
        generalize (sgs z).getD j ""=sj at *
        generalize ps.getD j .none=pj at *
        simp[hix,x1,x2,hf]
      · have q:=ti ((List.range z.length).filter fun j=>!ah ((sgs z).getD j "") (ps.getD j .none))
        rw[←hpr] at q
        generalize (((List.range z.length).filter fun j=>!ah ((sgs z).getD j "") (ps.getD j .none)).map fun i:Nat=>D.int i)=ll at q ⊢
        cases hb:prB d with
        | false=>
          rw[hb] at q
          simp -dsimp [q,-a6]
          exact ⟨bad hb,hlaw⟩
        | true=>
          rw[hb] at q
          simp -dsimp [q,-a6]
          exact ⟨⟨_,_,_,_,rfl⟩,rfl,good hb⟩
    · rintro env S' ⟨⟨e2,e3,e4,e5,rfl⟩,rfl,hg2⟩
      rw[List.length_range,List.take_length] at hg2
      rw[cM ds hg2]
      simp -dsimp
      exact ⟨rfl,hlaw⟩
end
end DL
namespace DL
open PySem PySem.Spec PyProof.Rows L2 LamX
def Sme (S:Sto) (n:Nat) (a b:D):Prop:=aj n [a,b] S=.ok (.bool true) S
def pd:Nat→D→Bool
  | _,.int _=>true
  | _,.str x=>PyData.strOk x
  | n+1,.tup xs=>decide (xs.length≤1000000)&&xs.all (pd n)
  | n+1,.tpn xs=>decide (xs.length≤1000000)&&xs.all (pd n)
  | _,_=>false
section
variable {S:Sto} {n:Nat} {t w s:Str}
theorem oL {τ:Type} (xs:List τ):xs.filter (fun _=>false)=[]:=by induction xs<;>simp_all
theorem ig (i:Int):Sme S (n+1) (.int i) (.int i):=by
  unfold Sme aj
  apply ax
  apply ac
  simp -dsimp [aY,jH]
theorem gh (x:Str) (h:PyData.strOk x=true):Sme S (n+1) (.str x) (.str x):=by
  unfold Sme aj
  apply ax
  apply ac
  simp -dsimp [aY,jH,h]
theorem jk {a b:D} {t:String} {xs ys:List D} (ht:t="tuple"∨t="list") (ta:eF S a=some t) (tb:eF S b=some t) (la:bF S [a]=some (.int xs.length)) (lb:bF S [b]=some (.int ys.length))
    (ia:∀i,fIx S a (.int i)=atI xs i) (ib:∀i,fIx S b (.int i)=atI ys i) (hl:xs.length=ys.length) (hs:ys.length≤1000000) (hx:∀(i:Nat) (x y:D),xs[i]?=some x→ys[i]?=some y→Sme S n x y):Sme S (n+1) a b:=by
  unfold Sme aj
  apply ax
  apply ac
  have h2:aY S [b,.tup [.ty "tuple",.ty "list"]]=some (.bool true):=by rcases ht with rfl|rfl<;>simp[aY,tb,jH]
  have h3:aY S [a,.tup [.ty "tuple",.ty "list"]]=some (.bool true):=by rcases ht with rfl|rfl<;>simp[aY,ta,jH]
  have h4:∃k,aY S [a,.ty "list"]=some (.bool k)∧aY S [b,.ty "list"]=some (.bool k):=by rcases ht with rfl|rfl<;>simp[aY,ta,tb]
  obtain ⟨k,h4,h5⟩:=h4
  have hsm:a5 (ys.length:Int)=true:=ck (by omega)
  simp -dsimp [h2,h3,h4,h5,la,lb,hl,hsm,dR]
  refine av (f:=fun i:Nat=>D.int i) (List.range ys.length) (fun _=>false) (fun i=>.int i) rfl (by simp; omega) ?_ ?_
  · intro i hi
    have hi:=List.mem_range.mp hi
    have e1:atI xs (i:Int)=some (xs[i]'(by omega)):=by rw[gZ (by omega),List.getElem?_eq_getElem]
    have e2:atI ys (i:Int)=some (ys[i]):=by rw[gZ hi,List.getElem?_eq_getElem]
    have hal:=hx i _ _ (List.getElem?_eq_getElem (show i<xs.length by omega)) (List.getElem?_eq_getElem hi)
    unfold Sme at hal
    refine ⟨_,rfl,?_,fun z=>by cases z⟩
    simp[ia,ib,e1,e2,hal]
  · rw[oL]
    simp -dsimp
theorem sme_pd:∀(n:Nat) (d:D),pd n d=true→Sme S (n+1) d d:=by
  intro n
  induction n with
  | zero=>
    intro d h
    cases d<;>first|exact ig _|exact gh _ h|(unfold pd at h; cases h)
  | succ n ih=>
    intro d h
    cases d with
    | int i=>exact ig i
    | str x=>exact gh x h
    | tup xs=>
      unfold pd at h
      rw[Bool.and_eq_true,List.all_eq_true] at h
      refine jk (t:="tuple") (xs:=xs) (ys:=xs) (.inl rfl) rfl rfl rfl rfl (fun i=>rfl) (fun i=>rfl) rfl (by simpa using h.1) fun i x y h1 h2=>?_
      rw[h1] at h2
      cases h2
      exact ih x (h.2 x (List.mem_of_getElem? h1))
    | tpn xs=>
      unfold pd at h
      rw[Bool.and_eq_true,List.all_eq_true] at h
      refine jk (t:="tuple") (xs:=xs) (ys:=xs) (.inl rfl) rfl rfl rfl rfl (fun i=>rfl) (fun i=>rfl) rfl (by simpa using h.1) fun i x y h1 h2=>?_
      rw[h1] at h2
      cases h2
      exact ih x (h.2 x (List.mem_of_getElem? h1))
    | _=>unfold pd at h; cases h
theorem le {hd:Hdr} {r:Res D} {Q:D→Sto→Prop} {E:XV→Sto→Prop} (h:Res.wp r Q (fun x S=>∃d,hd x.cls x.fs=some d∧Q d S)):Res.wp (j3 hd r) Q E:=by
  cases r with
  | ok d S=>
    rw[fK] at h
    show Res.wp (.ok d S) Q E
    rw[fK]
    exact h
  | exc e S=>
    rw[sV] at h
    obtain ⟨d,e1,q⟩:=h
    show Res.wp (match hd e.cls e.fs with
      | some d=>.ok d S
      | none=>.stuck) Q E
    rw[e1]
    show Res.wp (.ok d S) Q E
    rw[fK]
    exact q
  | stuck=>
    show Res.wp .stuck Q E
    simpa using h
end
end DL
namespace DL
open PySem PySem.Spec PyProof.Rows L2 LamX
theorem lg {c:Nat}:∀ {a a' b b':List Nat},c∉a→c∉a'→a++c::b=a'++c::b'→a=a'∧b=b'
  | [],[],b,b',_,_,e=>by simpa using e
  | [],x::a',b,b',_,h,e=>by
    simp at e
    exact (h (by rw[e.1]; exact List.mem_cons_self)).elim
  | x::a,[],b,b',h,_,e=>by
    simp at e
    exact (h (by rw[←e.1]; exact List.mem_cons_self)).elim
  | x::a,y::a',b,b',h,h',e=>by
    simp only[List.cons_append,List.cons.injEq] at e
    obtain ⟨e1,e2⟩:=lg (fun z=>h (List.mem_cons_of_mem _ z)) (fun z=>h' (List.mem_cons_of_mem _ z)) e.2
    exact ⟨by rw[e.1,e1],e2⟩
theorem ii (c:Nat) (x z:Str) (ys:List Str):(PySem.Str.join (sg c) (x::z::ys)).cps.toList=x.cps.toList++c::(PySem.Str.join (sg c) (z::ys)).cps.toList:=by
  show (x.cps++(sg c).cps++(PySem.Str.join (sg c) (z::ys)).cps).toList=_
  rw[Array.toList_append,Array.toList_append,List.append_assoc]
  rfl
theorem jU {a b:Str} (h:a.cps.toList=b.cps.toList):a=b:=by
  cases a with
  | mk a=>cases b with
    | mk b=>exact congrArg Str.mk (Array.toList_inj.mp h)
theorem oM {c:Nat}:∀(xs ys:List Str),xs≠[]→ys≠[]→(∀y∈xs,c∉y.cps.toList)→(∀y∈ys,c∉y.cps.toList)→PySem.Str.join (sg c) xs=PySem.Str.join (sg c) ys→xs=ys
  | [],_,h,_,_,_,_=>(h rfl).elim
  | _::_,[],_,h,_,_,_=>(h rfl).elim
  | [x],[y],_,_,_,_,e=>by rw[show x=y from e]
  | [x],y::z::ys,_,_,h,_,e=>by
    have e2:=congrArg (fun s:Str=>s.cps.toList) e
    simp only[ii] at e2
    have:x.cps.toList=y.cps.toList++c::(PySem.Str.join (sg c) (z::ys)).cps.toList:=e2
    exact (h x List.mem_cons_self (by rw[this]; simp)).elim
  | x::z::xs,[y],_,_,_,h,e=>by
    have e2:=congrArg (fun s:Str=>s.cps.toList) e
    simp only[ii] at e2
    have:x.cps.toList++c::(PySem.Str.join (sg c) (z::xs)).cps.toList=y.cps.toList:=e2
    exact (h y List.mem_cons_self (by rw[←this]; simp)).elim
  | x::z::xs,y::w::ys,_,_,h,h',e=>by
    have e2:=congrArg (fun s:Str=>s.cps.toList) e
    simp only[ii] at e2
    obtain ⟨e3,e4⟩:=lg (h x List.mem_cons_self) (h' y List.mem_cons_self) e2
    have ih:=oM (z::xs) (w::ys) (by simp) (by simp) (fun q hq=>h q (List.mem_cons_of_mem _ hq)) (fun q hq=>h' q (List.mem_cons_of_mem _ hq)) (jU e4)
    rw[jU e3,ih]
/-- what is joined splits again -/
theorem dF {c:Nat} {ys:List Str} (h0:ys≠[]) (hf:∀y∈ys,c∉y.cps.toList):Txt.split (Txt.join (sg c) ys) (sg c)=ys:=by
  rw[show Txt.join (sg c) ys=PySem.Str.join (sg c) ys from StrLaws.glued_eq_join (sg c) ys]
  refine oM (c:=c) _ _ (n8 _ c) h0 (StrLaws.split_free _ c) hf ?_
  exact StrLaws.join_split _ _
end DL
namespace DL
open PySem PySem.Spec PyProof.Rows L2 LamX
open TL (numL numL_lt numL_step numL_digits numL_ne numL_free numL_val numL_len tl_num)
theorem eg (n:Nat):(txI n).cps.toList=numL n:=tl_num n
theorem q7:∀n:Nat,1≤n→∃c r,numL n=c::r∧49≤c:=by
  intro n
  induction n using Nat.strongRecOn with
  | _ n ih=>
    intro h0
    by_cases h:n<10
    · rw[numL_lt h]
      exact ⟨_,_,rfl,by omega⟩
    · obtain ⟨c,r,e,hc⟩:=ih (n / 10) (by omega) (by omega)
      rw[numL_step (by omega),e]
      exact ⟨c,_,rfl,hc⟩
theorem ka {n:Nat} (h:n<1000000):br (txI n)=some ((n:Nat):Int):=by
  have hl:(txI n).length=(numL n).length:=by
    show (txI n).cps.size=_
    rw[←Array.length_toList,eg]
  have h6:(numL n).length≤6:=numL_len (by decide) (by omega)
  have h1:1≤(numL n).length:=by
    cases e:numL n with
    | nil=>exact (numL_ne n e).elim
    | cons _ _=>simp
  have hf:fig (txI n)=true:=by
    unfold fig
    simp only[Bool.and_eq_true,decide_eq_true_eq,List.all_eq_true]
    refine ⟨⟨by omega,by omega⟩,fun c hc=>?_⟩
    rw[eg] at hc
    exact (n6 c).mpr (numL_digits n c hc)
  have hd:lead (txI n)=true:=by
    unfold lead
    rw[Bool.or_eq_true,decide_eq_true_eq,decide_eq_true_eq]
    by_cases h0:n=0
    · left
      rw[hl,h0,numL_lt (by decide)]
      rfl
    · right
      obtain ⟨c,r,e,hc⟩:=q7 n (by omega)
      have e2:(txI n).cps.toList=c::r:=(eg n).trans e
      have e3:(txI n).cps.getD 0 0=c:=by
        have hs:0<(txI n).cps.size:=by
          rw[←Array.length_toList,e2]
          simp
        have e4:(txI n).cps.toList[0]?=some c:=by rw[e2]; rfl
        rw[Array.getElem?_toList] at e4
        rw[Array.getD_eq_getD_getElem?,e4]
        rfl
      omega
  unfold br
  rw[hf,hd,eg,numL_val]
  rfl
theorem li {p:Nat × Nat} (h1:p.1≤60) (h2:1≤p.2) (h3:p.2≤9999):aw (rdT p)=some (.tpn [.int (p.1:Nat),.int (p.2:Nat)]):=by
  have hj:rdT p=Txt.join (sg 58) [txI p.1,txI p.2]:=rfl
  have hs:Txt.split (rdT p) (sg 58)=[txI p.1,txI p.2]:=by
    rw[hj]
    refine dF (by simp) fun y hy=>?_
    simp only[List.mem_cons,List.not_mem_nil,or_false] at hy
    rcases hy with rfl|rfl<;>rw[eg]<;>exact numL_free (by decide)
  unfold aw
  rw[show Txt.split (rdT p) ":"=[txI p.1,txI p.2] from hs]
  simp only[List.map_cons,List.map_nil]
  rw[ka (by omega),ka (by omega)]
  have e:kO [some ((p.1:Nat):Int),some ((p.2:Nat):Int)]=eX (some ((p.1:Nat):Int)) (some ((p.2:Nat):Int)):=rfl
  rw[e]
  unfold eX
  show (if _ then _ else _)=_
  rw[if_pos ⟨by omega,by omega,by omega⟩]
end DL
namespace DL
open PySem PySem.Spec PyProof.Rows L2 LamX
open TL (numL numL_free)
def rdN (p:Nat × Nat):D:=.tpn [.int (p.1:Nat),.int (p.2:Nat)]
theorem u9 (p:Nat × Nat):(rdT p).cps.toList=numL p.1++58::numL p.2:=by
  show ((txI p.1).cps++(":":Str).cps++(txI p.2).cps).toList=_
  rw[Array.toList_append,Array.toList_append,eg,eg,List.append_assoc]
  rfl
theorem kb {p:Nat × Nat} {c:Nat} (h:c<48∨58<c):c∉(rdT p).cps.toList:=by
  rw[u9,List.mem_append,List.mem_cons]
  rintro (h1|h1|h1)
  · exact numL_free (by omega) h1
  · omega
  · exact numL_free (by omega) h1
theorem lj {c k:Nat} (hc:c≠k):∀(ys:List Str),(∀y∈ys,c∉y.cps.toList)→c∉(PySem.Str.join (sg k) ys).cps.toList
  | [],_=>by
    show c∉(PySem.Str.empty).cps.toList
    simp[PySem.Str.empty]
  | [x],h=>h x List.mem_cons_self
  | x::z::ys,h=>by
    rw[ii,List.mem_append,List.mem_cons]
    rintro (h1|h1|h1)
    · exact h x List.mem_cons_self h1
    · exact hc h1
    · exact lj hc (z::ys) (fun y hy=>h y (List.mem_cons_of_mem _ hy)) h1
theorem kc {c k:Nat} (hc:c≠k) (ys:List Str) (h:∀y∈ys,c∉y.cps.toList):c∉(Txt.join (sg k) ys).cps.toList:=by
  rw[show Txt.join (sg k) ys=PySem.Str.join (sg k) ys from StrLaws.glued_eq_join (sg k) ys]
  exact lj hc ys h
theorem oN {rs:List (Nat × Nat)} (h0:rs≠[]) (hr:∀p∈rs,p.1≤60∧1≤p.2∧p.2≤9999):gH (Txt.join (sg 44) (rs.map rdT))=some (.tpn (rs.map rdN)):=by
  have hs:Txt.split (Txt.join (sg 44) (rs.map rdT)) (sg 44)=rs.map rdT:=by
    refine dF (by simpa using h0) fun y hy=>?_
    obtain ⟨p,_,rfl⟩:=List.mem_map.mp hy
    exact kb (by decide)
  have hm:(rs.map rdT).map aw=(rs.map rdN).map some:=by
    rw[List.map_map,List.map_map]
    refine List.map_congr_left fun p hp=>?_
    obtain ⟨h1,h2,h3⟩:=hr p hp
    exact li h1 h2 h3
  unfold gH
  rw[show Txt.split (Txt.join (sg 44) (rs.map rdT)) ","=rs.map rdT from hs,hm]
  unfold lU
  rw[if_pos (by simp),List.map_map]
  have e:(az∘some)=(id:D→D):=rfl
  rw[e,List.map_id]
end DL
namespace DL
open PySem PySem.Spec PyProof.Rows L2 LamX
open TL (numL numL_free)
section
variable {S:Sto} {v d x:D} {n:Nat} {s w:Str}
theorem qR {xs:List D} (e:bf x=some xs) (S:Sto) (i:Int):fIx S x (.int i)=atI xs i:=by rcases aV e with rfl|rfl<;>rfl
theorem qS {xs:List D} (e:bf x=some xs) (S:Sto):eF S x=some "tuple":=by rcases aV e with rfl|rfl<;>rfl
theorem mu {a b:D} {xs ys:List D} (ha:bf a=some xs) (hb:bf b=some ys) (hl:xs.length=ys.length) (hs:ys.length≤1000) (hx:∀(i:Nat) (x y:D),xs[i]?=some x→ys[i]?=some y→Sme S n x y):Sme S (n+1) a b:=
  jk (t:="tuple") (.inl rfl) (qS ha S) (qS hb S) (ge ha S (by omega)) (ge hb S hs) (qR ha S) (qR hb S) hl (by omega) hx
theorem q8:∀c∈cG,97≤c∧c≤122:=by decide +kernel
theorem vA:∀p∈shTbl,(∀c∈p.1.cps.toList,97≤c∧c≤122)∧p.1≠"":=by decide +kernel
theorem lm (h:bZ x=true):aw (rdT (rp x))=some (rdN (rp x))∧∀S k,Sme S (k+2) (rdN (rp x)) x:=by
  obtain ⟨a,b,e,er,ha,hb,hb2⟩:=ff h
  rw[er]
  refine ⟨li ha hb hb2,fun S k=>?_⟩
  refine mu (xs:=[.int (a:Nat),.int (b:Nat)]) rfl e rfl (by simp) fun i u v h1 h2=>?_
  rw[h1] at h2
  cases h2
  have:=List.mem_of_getElem? h1
  simp only[List.mem_cons,List.not_mem_nil,or_false] at this
  rcases this with rfl|rfl
  · exact ig _
  · exact ig _
theorem q9 (hx:aP 20 (n+1) x=true) (hs:s="n"∨s="r"∨s="v"∨s="w") (hf:ah s x=true):∃y,dU s (ptT s x)=some y∧∀S k,Sme S (k+3) y x:=by
  have ne:=af
  rcases hs with rfl|rfl|rfl|rfl
  · have hf:bI x 0 999999=true:=by unfold ah at hf; rw[if_neg ne.1,if_neg ne.2.1,if_pos rfl] at hf; exact hf
    obtain ⟨i,rfl,h1,h2⟩:=g8 hf
    have ep:ptT "n" (.int i)=txI i.toNat:=by unfold ptT; rw[if_neg ne.1,if_neg ne.2.1]
    have kn:∀w,dU "n" w=(br w).map .int:=fun _=>rfl
    refine ⟨.int i,?_,fun S k=>ig _⟩
    rw[ep,kn,ka (by omega),Int.toNat_of_nonneg h1]
    rfl
  · have hf:bZ x=true:=by unfold ah at hf; rw[if_pos rfl] at hf; exact hf
    have ep:ptT "r" x=rdT (rp x):=by unfold ptT; rw[if_pos rfl]
    have kr:∀w,dU "r" w=aw w:=fun w=>by unfold dU; rw[if_neg ne.2.2.2.2.2.2.2,if_pos rfl]
    obtain ⟨e,hm⟩:=lm hf
    exact ⟨_,by rw[ep,kr,e],fun S k=>hm S (k+1)⟩
  · obtain ⟨xs,hi,h0,hr⟩:=v_is hf
    obtain ⟨hl,_⟩:=i6 hx hi
    have ep:ptT "v" x=Txt.join (sg 44) ((xs.map rp).map rdT):=by
      unfold ptT g7
      rw[if_neg ne.2.2.2.1,if_pos rfl,hi,List.map_map]
      rfl
    have kv:∀w,dU "v" w=gH w:=fun w=>by unfold dU; rw[if_neg ne.2.2.1,if_neg ne.2.2.2.1,if_pos rfl]
    refine ⟨.tpn ((xs.map rp).map rdN),?_,fun S k=>?_⟩
    · rw[ep,kv]
      refine oN (by simpa using h0) fun p hp=>?_
      obtain ⟨y,hy,rfl⟩:=List.mem_map.mp hp
      obtain ⟨a,b,e,er,ha,hb,hb2⟩:=ff (hr y hy)
      rw[er]
      exact ⟨ha,hb,hb2⟩
    · refine mu (xs:=(xs.map rp).map rdN) rfl hi (by simp) (by omega) fun i u v h1 h2=>?_
      rw[List.map_map,List.getElem?_map,h2] at h1
      cases h1
      exact (lm (hr v (List.mem_of_getElem? h2))).2 S k
  · have hf:fj x=true:=by unfold ah at hf; rw[if_neg ne.2.2.2.2.2.1,if_neg ne.2.2.2.2.2.2.1,if_neg ne.2.2.2.2.1] at hf; exact hf
    cases x with
    | str w=>
      have ok:PyData.strOk w=true:=by rw[kW] at hx; exact (Bool.and_eq_true_iff.mp hx).1
      have ep:ptT "w" (.str w)=w:=by unfold ptT; rw[if_neg ne.2.2.2.2.2.1,if_neg ne.2.2.2.2.2.2.1]
      have kw:dU "w" w=if ja w then some (.str w) else none:=by unfold dU; rw[if_neg ne.2.2.2.2.1,if_neg ne.2.2.2.2.2.1,if_neg ne.2.2.2.2.2.2.1]
      have hf:ja w=true:=hf
      exact ⟨.str w,by rw[ep,kw,if_pos hf],fun S k=>gh _ ok⟩
    | _=>cases hf
theorem rA {c:Nat} (hc:c<44) (hx:aP 20 (n+1) x=true) (hs:s="n"∨s="r"∨s="v"∨s="w") (hf:ah s x=true):c∉(ptT s x).cps.toList:=by
  have ne:=af
  rcases hs with rfl|rfl|rfl|rfl
  · have hf:bI x 0 999999=true:=by unfold ah at hf; rw[if_neg ne.1,if_neg ne.2.1,if_pos rfl] at hf; exact hf
    obtain ⟨i,rfl,h1,h2⟩:=g8 hf
    have ep:ptT "n" (.int i)=txI i.toNat:=by unfold ptT; rw[if_neg ne.1,if_neg ne.2.1]
    rw[ep,eg]
    exact numL_free (by omega)
  · have ep:ptT "r" x=rdT (rp x):=by unfold ptT; rw[if_pos rfl]
    rw[ep]
    exact kb (by omega)
  · have ep:ptT "v" x=Txt.join (sg 44) ((g7 x).map fun y=>rdT (rp y)):=by
      unfold ptT
      rw[if_neg ne.2.2.2.1,if_pos rfl]
      rfl
    rw[ep]
    refine kc (by omega) _ fun y hy=>?_
    obtain ⟨p,hp,rfl⟩:=List.mem_map.mp hy
    exact kb (by omega)
  · have hf:fj x=true:=by unfold ah at hf; rw[if_neg ne.2.2.2.2.2.1,if_neg ne.2.2.2.2.2.2.1,if_neg ne.2.2.2.2.1] at hf; exact hf
    cases x with
    | str w=>
      have ep:ptT "w" (.str w)=w:=by unfold ptT; rw[if_neg ne.2.2.2.2.2.1,if_neg ne.2.2.2.2.2.2.1]
      have hf:ja w=true:=hf
      unfold ja at hf
      rw[Bool.and_eq_true,List.all_eq_true] at hf
      rw[ep]
      intro hm
      have:=hf.2 c hm
      rw[decide_eq_true_eq] at this
      have:=q8 c this
      omega
    | _=>cases hf
theorem kd:∀(ps:List D) (ss:List Str),ps.length=ss.length→(∀p∈ps.zip ss,∃y,dU p.2 (ptT p.2 p.1)=some y∧∀S k,Sme S (k+3) y p.1)→
    ∃ys:List D,((((ps.zip ss).map fun p=>ptT p.2 p.1).zip ss).map fun p=>dU p.2 p.1)=ys.map some∧ys.length=ps.length∧∀(j:Nat) (x y:D),ys[j]?=some x→ps[j]?=some y→∀S k,Sme S (k+3) x y
  | [],[],_,_=>⟨[],rfl,rfl,fun j x y h=>by cases h⟩
  | p::ps,s::ss,hl,h=>by
    obtain ⟨y,e,hm⟩:=h (p,s) (by simp)
    obtain ⟨ys,e2,hl2,hm2⟩:=kd ps ss (by simpa using hl) fun q hq=>h q (by rw[List.zip_cons_cons]; exact List.mem_cons_of_mem _ hq)
    refine ⟨y::ys,?_,by simp[hl2],fun j a b ha hb=>?_⟩
    · rw[List.zip_cons_cons,List.map_cons,List.zip_cons_cons,List.map_cons,e2,List.map_cons]
      exact congrArg (·::_) e
    · cases j with
      | zero=>cases ha; cases hb; exact hm
      | succ j=>exact hm2 j a b ha hb
  | [],_::_,h,_=>by cases h
  | _::_,[],h,_=>by cases h
theorem gi (ht:aP 20 (n+2) d=true) (hs:shB d=true) (hp:prB d=true):(∃y,fO (bN d)=some y∧∀S k,Sme S (k+4) y d)∧10∉(bN d).cps.toList∧bN d≠"":=by
  obtain ⟨hd,z,ps,he,hz⟩:=oF hs
  obtain ⟨hi,hL⟩:=kY he
  obtain ⟨g1,g2,g3,g4,g5,g6⟩:=oE he ht
  have hin:=vA _ (cL hL)
  have hrow:bN d=Txt.join (sg 32) (hd::(ps.zip (sgs z)).map fun p=>ptT p.2 p.1):=by unfold bN; rw[he]; rfl
  have hpr:∀p∈ps.zip (sgs z),ah p.2 p.1=true:=by
    unfold prB at hp
    rw[he] at hp
    exact List.all_eq_true.mp hp
  have hpt:∀p∈ps.zip (sgs z),aP 20 (n+1) p.1=true∧(p.2="n"∨p.2="r"∨p.2="v"∨p.2="w"):=fun p hp=>⟨g5 _ (hJ hp).1,g1 _ (hJ hp).2⟩
  have hfree:∀c,c<44→∀y∈hd::(ps.zip (sgs z)).map fun p=>ptT p.2 p.1,c∉y.cps.toList:=fun c hc y hy=>by
    rcases List.mem_cons.mp hy with hy|hy
    · rw[hy]
      intro hm
      have:=hin.1 c hm
      omega
    · obtain ⟨p,hp2,rfl⟩:=List.mem_map.mp hy
      exact rA hc (hpt p hp2).1 (hpt p hp2).2 (hpr p hp2)
  have hsp:Txt.split (bN d) (sg 32)=hd::(ps.zip (sgs z)).map fun p=>ptT p.2 p.1:=by
    rw[hrow]
    exact dF (by simp) (hfree 32 (by omega))
  refine ⟨?_,?_,?_⟩
  · obtain ⟨ys,e,hl,hm⟩:=kd ps (sgs z) (by rw[dE]; exact hz) fun p hp2=>q9 (hpt p hp2).1 (hpt p hp2).2 (hpr p hp2)
    refine ⟨.tup (.str hd::ys),?_,fun S k=>?_⟩
    · unfold fO
      rw[show Txt.split (bN d) " "=hd::(ps.zip (sgs z)).map fun p=>ptT p.2 p.1 from hsp]
      show gI hd _=_
      unfold gI
      rw[hL]
      have e':bt z ((ps.zip (sgs z)).map fun p=>ptT p.2 p.1)=ys.map some:=e
      dsimp only
      rw[e',if_pos]
      · rw[List.map_map]
        have:(az∘some)=(id:D→D):=rfl
        rw[this,List.map_id]
      · refine ⟨by rw[List.length_map,List.length_zip,dE]; omega,by simp⟩
    · refine mu (xs:=.str hd::ys) rfl hi (by simp[hl]) (by rw[List.length_cons]; omega) fun i u v h1 h2=>?_
      cases i with
      | zero=>cases h1; cases h2; exact gh _ g4
      | succ i=>exact hm i u v h1 h2 S k
  · rw[hrow]
    exact kc (by omega) _ (hfree 10 (by omega))
  · intro h0
    rw[h0] at hsp
    have:Txt.split "" (sg 32)=([""]:List Str):=by decide +kernel
    rw[this] at hsp
    have:=(List.cons.inj hsp).1
    exact hin.2 this.symm
theorem rC {ds:List D} (h:∀d∈ds,aP 20 (n+2) d=true) (hok:∀d∈ds,shB d=true∧prB d=true):eN (g9 ds)=ds.map bN:=by
  unfold eN
  cases ds with
  | nil=>rfl
  | cons d ds=>
    have hs:Txt.split (g9 (d::ds)) "\n"=(d::ds).map bN:=by
      show Txt.split (Txt.join (sg 10) ((d::ds).map bN)) (sg 10)=_
      refine dF (by simp) fun y hy=>?_
      obtain ⟨q,hq,rfl⟩:=List.mem_map.mp hy
      exact (gi (h q hq) (hok q hq).1 (hok q hq).2).2.1
    rw[if_neg,hs]
    intro h0
    rw[h0] at hs
    have:Txt.split "" "\n"=([""]:List Str):=by decide +kernel
    rw[this] at hs
    have:=(List.cons.inj hs).1
    exact (gi (h d List.mem_cons_self) (hok d List.mem_cons_self).1 (hok d List.mem_cons_self).2).2.2 this.symm
theorem vB {ds:List D} (hok:∀d∈ds,shB d=true∧prB d=true):fR ds=none:=by
  unfold fR
  rw[cM ds fun q hq=>(hok q hq).1,cM ds fun q hq=>(hok q hq).2]
theorem qT {ds:List D} (h:fR ds=none):∀d∈ds,shB d=true∧prB d=true:=by
  unfold fR at h
  cases hs:b8 shB ds with
  | some k=>rw[hs] at h; cases h
  | none=>
    rw[hs] at h
    exact fun d hd=>⟨fg ds hs d hd,fg ds h d hd⟩
/-- what read tells of what was written -/
theorem rD {ds:List D} (hl:ds.length≤20) (h:∀d∈ds,aP 20 (n+2) d=true) (hok:∀d∈ds,shB d=true∧prB d=true):Res.wp (gz [.str (g9 ds)] S) (fun r S'=>∃l ys,r=.loc l∧S'=S++[.lst ys]∧l=S.length∧ys.length=ds.length∧∀(i:Nat) (x y:D),ys[i]?=some x→ds[i]?=some y→∀S k,Sme S (k+4) x y) NoE:=by
  have hT:=pU fun d hd=>⟨h d hd,hok d hd⟩
  have hrb:=rC h hok
  have hO:Okt (g9 ds):=⟨by have:=hT.2; omega,hT.1⟩
  have hR:=ux (S:=S) hO
  rw[hrb] at hR
  have hsome:∀d∈ds,(fO (bN d)).isSome=true:=fun d hd=>by
    obtain ⟨⟨y,e,_⟩,_⟩:=gi (h d hd) (hok d hd).1 (hok d hd).2
    rw[e]
    rfl
  refine dp hR ?_ ?_
  · rintro v S' ⟨rfl,rfl,_⟩
    refine ⟨_,_,rfl,rfl,rfl,by simp,fun i x y h1 h2=>?_⟩
    rw[List.map_map,List.getElem?_map,h2] at h1
    cases h1
    have hm:=List.mem_of_getElem? h2
    obtain ⟨⟨z,e,hs⟩,_⟩:=gi (h y hm) (hok y hm).1 (hok y hm).2
    show ∀S k,Sme S (k+4) (rowD (bN y)) y
    unfold rowD
    rw[e]
    exact hs
  · rintro e S' ⟨k,T,⟨pre,y,post,e1,_,_,e2⟩,_⟩
    have hm:y∈ds.map bN:=by rw[e1]; simp
    obtain ⟨d,hd,rfl⟩:=List.mem_map.mp hm
    have:=hsome d hd
    rw[e2] at this
    cases this
end
end DL
namespace DL
open PySem PySem.Spec PyProof.Rows L2 LamX
/-- what is told instead -/
def someE:List D:=[.int (-1),.int 0,.int 60,.int 61,.int 9999,.int 10000,.int 999999,.int 1000000,.bool true,.none,.str "",.str "A",.str "x",.str "fly",.tup [],.tup [.tup [.int 0,.int 1]],.tup [.int 0,.int 1],.lst [.int 0],.tup [.int 61,.int 1],.tup [.tup [.int 3,.int 4],.tup [.int 61,.int 5]],.tup [.int 60,.int 9999],.tup [.int 60,.int 10000]]
theorem tj:∀d∈someE,aP 2 2 d=true:=by decide +kernel
theorem qU {S:Sto} {v:Int} (h0:0≤v) (h1:v<22):∃d∈someE,fIx S (.lst someE) (.int v)=some d:=by
  have hl:someE.length=22:=rfl
  have:v.toNat<someE.length:=by omega
  refine ⟨someE[v.toNat],List.getElem_mem this,?_⟩
  rw[iL,jh h0 (by omega),List.getElem?_eq_getElem]
section
variable {sc:List Int} {L:Nat}
theorem oO:∀(m k:Nat) (x:D) (o:O) (T:Sto),m<k→m≤50→aP L m x=true→2≤L→L≤900→Dr sc o→Res.wp (bY k [.loc 0,x] (o::T)) (fun a S'=>aP (L+1) (m+2) a=true∧∃o',Dr sc o'∧S'=o'::T) NoE
  | m,k+1,x,o,T,hm,hm50,hx,hL,hL2,hd=>by
    show Res.wp (bD 2 _ _ _) _ _
    apply ac
    have hsome:∀d∈someE,aP (L+1) (m+2) d=true:=fun d hd=>fQ (by omega) (by omega) (tj d hd)
    cases hi:bf x with
    | none=>
      have h1:=fun S=>fP (dw (by omega) hx) hi S
      simp -dsimp [h1]
      refine ay hd (by omega) (by omega) fun v o' hd' g0 g1=>?_
      obtain ⟨d,hdm,e⟩:=qU (S:=o'::T) g0 g1
      unfold someE at e
      simp -dsimp [-iL,e]
      exact ⟨hsome d hdm,hd'⟩
    | some xs=>
      have h1:=fun S=>dW hi S
      simp -dsimp [h1]
      refine ay hd (by omega) (by omega) fun v o1 hd1 g0 g1=>?_
      by_cases hv:v=0
      · subst hv
        simp -dsimp
        refine ay hd1 (by omega) (by omega) fun v o' hd' g0 g1=>?_
        obtain ⟨d,hdm,e⟩:=qU (S:=o'::T) g0 g1
        unfold someE at e
        simp -dsimp [-iL,e]
        exact ⟨hsome d hdm,hd'⟩
      · cases m with
        | zero=>rcases aV hi with rfl|rfl<;>cases hx
        | succ m=>
          obtain ⟨xl,xt⟩:=i6 hx hi
          have h2:=fun S=>ge hi S (by omega)
          simp -dsimp [hv,h2]
          refine ay hd1 (by omega) (by omega) fun v2 o2 hd2 g2 g3=>?_
          have hv0:=fun S=>dB (S:=S) hi
          by_cases hv2:v2=(xs.length:Int)
          · obtain ⟨cu,ec,icu⟩:=gf hi none (some (-1))
            have tcu:aP (L+1) (m+1+2) cu=true:=tV icu (by have:=mq xs none (some (-1)); omega) fun y hy=>fQ (by omega) (by omega) (xt y (gO hy))
            obtain ⟨c1,ec1,icu1⟩:=gf hi none (some 1)
            have h11:(bc xs none (some 1)).length≤1:=by
              have:=ow xs 1
              rw[show (some ((1:Nat):Int))=some 1 from rfl] at this
              rw[this,List.length_take]
              omega
            obtain ⟨cc,eca,icc⟩:=mj hi icu1 (by omega)
            have tcc:aP (L+1) (m+1+2) cc=true:=tV icc (by rw[List.length_append]; omega) fun y hy=>by
              rcases List.mem_append.mp hy with h|h
              · exact fQ (by omega) (by omega) (xt y h)
              · exact fQ (by omega) (by omega) (xt y (gO h))
            have hv1:=fun S=>dB (S:=S) icu1
            simp -dsimp [hv2,h2,hv0,ec,ec1,hv1,eca]
            refine ay hd2 (by omega) (by omega) fun v3 o3 hd3 g4 g5=>?_
            have:v3=0∨v3=1:=by omega
            rcases this with rfl|rfl
            · simp -dsimp [tcu]
              exact hd3
            · simp -dsimp [tcc]
              exact hd3
          · have h22:0≤v2∧v2<xs.length:=by omega
            have hix:∀S,fIx S x (.int v2)=some (xs[v2.toNat]'(by omega)):=fun S=>by
              have:=eO (S:=S) hi (i:=v2.toNat) (by omega)
              rw[show ((v2.toNat:Nat):Int)=v2 by omega] at this
              exact this
            have hone:=xt _ (List.getElem_mem (show v2.toNat<xs.length by omega))
            obtain ⟨cu,ec,icu⟩:=gf hi none (some v2)
            obtain ⟨cw,ew,icw⟩:=gf hi (some (v2+1)) none
            simp -dsimp [hv2,h2,hv0,ec,hix]
            refine dp (oO m k _ o2 T (by omega) (by omega) hone hL hL2 hd2) ?_ (fun _ _ z=>z.elim)
            rintro a S' ⟨ta,o',hd',rfl⟩
            have l1:=mq xs none (some v2)
            have l2:=mq xs (some (v2+1)) none
            have l3:(bc xs none (some v2)).length+(bc xs (some (v2+1)) none).length+1≤L+1:=by
              have k1:v2=((v2.toNat:Nat):Int):=by omega
              have k2:v2+1=((v2.toNat+1:Nat):Int):=by omega
              rw[k2,j6,k1,ow]
              simp
              omega
            obtain ⟨c1,e1,i1⟩:=mj (b:=.tup [a]) (ys:=[a]) icu rfl (by simp; omega)
            obtain ⟨c2,e2,i2⟩:=mj i1 icw (by simp; omega)
            have tc:aP (L+1) (m+1+2) c2=true:=tV i2 (by simp; omega) fun y hy=>by
              rcases List.mem_append.mp hy with h|h
              · rcases List.mem_append.mp h with h|h
                · exact fQ (by omega) (by omega) (xt y (gO h))
                · rw[List.mem_singleton.mp h]; exact ta
              · exact fQ (by omega) (by omega) (xt y (gO h))
            simp -dsimp [e1,e2,hv0,ew,dB i1,dB icw,dB icu]
            exact ⟨tc,hd'⟩
end
end DL
namespace DL
open PySem PySem.Spec PyProof.Rows L2 LamX
/-- a deed that may be written -/
structure DQ (d:D):Prop where
  tm:aP 6 3 d=true
  sh:shB d=true
  pr:prB d=true
section
variable {S:Sto} {v d d1 d2 d3:D} {n:Nat} {h z s1 s2 s3 w:Str}
def pW:List Str:=["p","ab","qwertz","elevensigns"]
def mw:List Str:=["y","big","p","ab","qwertz","elevensigns"]
theorem hV {w:Str} (h:w∈pW):w∈mw:=List.mem_cons_of_mem _ (List.mem_cons_of_mem _ h)
theorem i8:∀w∈mw,w.length≤200∧PyData.strOk w=true∧ja w=true:=by decide +kernel
theorem sh_at:shTbl.lookup ("fly":Str)=some "rw"∧shTbl.lookup ("sell":Str)=some "wvw"∧shTbl.lookup ("back":Str)=some "n"∧shTbl.lookup ("away":Str)=some "n"∧shTbl.lookup ("late":Str)=some "rn"∧shTbl.lookup ("off":Str)=some "r"∧shTbl.lookup ("kind":Str)=some "ww"∧shTbl.lookup ("turn":Str)=some "n"∧shTbl.lookup ("mend":Str)=some "n":=by decide +kernel
theorem sgs_at:sgs "rw"=(["r","w"]:List Str)∧sgs "wvw"=(["w","v","w"]:List Str)∧sgs "n"=(["n"]:List Str)∧sgs "rn"=(["r","n"]:List Str)∧sgs "r"=(["r"]:List Str)∧sgs "ww"=(["w","w"]:List Str):=by decide +kernel
theorem kw_ok:PyData.strOk "fly"=true∧PyData.strOk "sell"=true∧PyData.strOk "back"=true∧PyData.strOk "away"=true∧PyData.strOk "late"=true∧PyData.strOk "off"=true∧PyData.strOk "kind"=true∧PyData.strOk "turn"=true∧PyData.strOk "mend"=true∧PyData.strOk "y"=true∧PyData.strOk "big"=true:=by decide +kernel
theorem kw_len:∀w∈(["fly","sell","back","away","late","off","kind","turn","mend","y","big"]:List Str),w.length≤200:=by decide +kernel
/-- what is drawn from -/
def lp (r:D) (rs:D) (w:Str) (k:D):List D:=[.tup [.str "fly",r,.str w],.tup [.str "sell",.str w,rs,.str "y"],.tup [.str "back",k],.tup [.str "away",k],.tup [.str "late",r,k],.tup [.str "off",r],.tup [.str "kind",.str w,.str "big"],.tup [.str "turn",k],.tup [.str "mend",k]]
theorem oP {a b:Nat} (ha:a≤60) (hb:1≤b) (hb2:b≤9999):ah "r" (.tup [.int (a:Nat),.int (b:Nat)])=true:=by
  unfold ah
  rw[if_pos rfl]
  show ((decide ((0:Int)≤a)&&decide ((a:Int)≤60))&&(decide ((1:Int)≤b)&&decide ((b:Int)≤9999)))=true
  simp
  omega
theorem rE {rs:List (Nat × Nat)} (h0:rs≠[]) (hr:∀p∈rs,p.1≤60∧1≤p.2∧p.2≤9999):ah "v" (.tpn (rs.map rdP))=true:=by
  have ne:=af
  unfold ah
  rw[if_neg ne.2.2.2.1,if_pos rfl]
  show (true&&(decide (rs.map rdP≠[])&&(rs.map rdP).all bZ))=true
  rw[Bool.true_and,Bool.and_eq_true,decide_eq_true_eq,List.all_eq_true]
  refine ⟨by simpa using h0,fun y hy=>?_⟩
  obtain ⟨p,hp,rfl⟩:=List.mem_map.mp hy
  obtain ⟨h1,h2,h3⟩:=hr p hp
  have:=oP h1 h2 h3
  unfold ah at this
  rw[if_pos rfl] at this
  exact this
theorem vC {k:Nat} (hk:k<1000000):ah "n" (.int (k:Nat))=true:=by
  have ne:=af
  unfold ah
  rw[if_neg ne.1,if_neg ne.2.1,if_pos rfl]
  show (decide ((0:Int)≤k)&&decide ((k:Int)≤999999))=true
  simp
  omega
theorem ke {w:Str} (h:w∈mw):ah "w" (.str w)=true:=by
  have ne:=af
  unfold ah
  rw[if_neg ne.2.2.2.2.2.1,if_neg ne.2.2.2.2.2.2.1,if_neg ne.2.2.2.2.1]
  exact (i8 w h).2.2
theorem dq {ss:List Str} (d:D) (ps:List D) (hi:bf d=some (.str h::ps)) (hL:shTbl.lookup h=some z) (hs:sgs z=ss) (hl:ps.length=ss.length) (hf:∀p∈ps.zip ss,ah p.2 p.1=true) (ht:aP 6 3 d=true):DQ d:=by
  have he:heD d=some (h,z,ps):=by unfold heD; rw[hi]; dsimp only; rw[hL]; rfl
  have e:=dE z
  refine ⟨ht,?_,?_⟩
  · unfold shB
    rw[he]
    simp
    rw[←e,hs]
    exact hl
  · unfold prB
    rw[he]
    dsimp only
    rw[hs]
    exact List.all_eq_true.mpr hf
theorem vD {a b k:Nat} {rs:List (Nat × Nat)} (ha:a≤60) (hb:1≤b) (hb2:b≤9999) (hk:k<1000000) (hw:w∈pW) (h0:rs≠[]) (h5:rs.length≤5) (hr:∀p∈rs,p.1≤60∧1≤p.2∧p.2≤9999) :
    ∀d∈lp (.tup [.int (a:Nat),.int (b:Nat)]) (.tpn (rs.map rdP)) w (.int (k:Nat)),DQ d:=by
  have pw:=ke (hV hw)
  have py:ah "w" (.str "y")=true:=ke (by decide +kernel)
  have pb:ah "w" (.str "big")=true:=ke (by decide +kernel)
  have pr:=oP ha hb hb2
  have pv:=rE h0 hr
  have pn:=vC hk
  have ko:=kw_ok
  have kl:=kw_len
  have wo:=(i8 w (hV hw)).2.1
  have wl:=(i8 w (hV hw)).1
  have sh:=sh_at
  have sa:=sgs_at
  have tv:∀m,aP 6 (m+2) (.tpn (rs.map rdP))=true:=fun m=>by
    rw[kX,List.length_map,Bool.and_eq_true,decide_eq_true_eq,List.all_eq_true]
    refine ⟨by omega,fun q hq=>?_⟩
    obtain ⟨p,hp,rfl⟩:=List.mem_map.mp hq
    unfold rdP
    simp[fe,mf]
  have tr:∀m,aP 6 (m+1) (.tup [.int (a:Nat),.int (b:Nat)])=true:=fun m=>by simp[fe,mf]
  have ts:∀m (u:Str),PyData.strOk u=true→u.length≤200→aP 6 m (.str u)=true:=fun m u h1 h2=>by
    rw[kW,h1,decide_eq_true (by omega)]
    rfl
  have tn:∀m,aP 6 m (.int (k:Nat))=true:=fun m=>mf m _
  have t1:∀(u:Str) (x:D),PyData.strOk u=true→u.length≤200→aP 6 2 x=true→aP 6 3 (.tup [.str u,x])=true:=fun u x h1 h2 h3=>by
    rw[fe]
    simp[ts _ u h1 h2,h3]
  have t2:∀(u:Str) (x y:D),PyData.strOk u=true→u.length≤200→aP 6 2 x=true→aP 6 2 y=true→aP 6 3 (.tup [.str u,x,y])=true:=fun u x y h1 h2 h3 h4=>by
    rw[fe]
    simp[ts _ u h1 h2,h3,h4]
  have t3:∀(u:Str) (x y z:D),PyData.strOk u=true→u.length≤200→aP 6 2 x=true→aP 6 2 y=true→aP 6 2 z=true→aP 6 3 (.tup [.str u,x,y,z])=true:=fun u x y z h1 h2 h3 h4 h5=>by
    rw[fe]
    simp[ts _ u h1 h2,h3,h4,h5]
  have f1:∀(s1:Str) (x:D),ah s1 x=true→∀p∈[x].zip [s1],ah p.2 p.1=true:=fun s1 x h p hp=>by
    simp at hp
    rw[hp]
    exact h
  have f2:∀(s1 s2:Str) (x y:D),ah s1 x=true→ah s2 y=true→∀p∈[x,y].zip [s1,s2],ah p.2 p.1=true:=fun s1 s2 x y h1 h2 p hp=>by
    simp at hp
    rcases hp with rfl|rfl
    · exact h1
    · exact h2
  have f3:∀(s1 s2 s3:Str) (x y z:D),ah s1 x=true→ah s2 y=true→ah s3 z=true→∀p∈[x,y,z].zip [s1,s2,s3],ah p.2 p.1=true:=fun s1 s2 s3 x y z h1 h2 h3 p hp=>by
    simp at hp
    rcases hp with rfl|rfl|rfl
    · exact h1
    · exact h2
    · exact h3
  intro d hd
  unfold lp at hd
  simp only[List.mem_cons,List.not_mem_nil,or_false] at hd
  rcases hd with rfl|rfl|rfl|rfl|rfl|rfl|rfl|rfl|rfl
  · exact dq _ _ rfl sh.1 sa.1 rfl (f2 _ _ _ _ pr pw) (t2 _ _ _ ko.1 (kl _ (by decide +kernel)) (tr _) (ts _ _ wo wl))
  · exact dq _ _ rfl sh.2.1 sa.2.1 rfl (f3 _ _ _ _ _ _ pw pv py) (t3 _ _ _ _ ko.2.1 (kl _ (by decide +kernel)) (ts _ _ wo wl) (tv _) (ts _ _ ko.2.2.2.2.2.2.2.2.2.1 (kl _ (by decide +kernel))))
  · exact dq _ _ rfl sh.2.2.1 sa.2.2.1 rfl (f1 _ _ pn) (t1 _ _ ko.2.2.1 (kl _ (by decide +kernel)) (tn _))
  · exact dq _ _ rfl sh.2.2.2.1 sa.2.2.1 rfl (f1 _ _ pn) (t1 _ _ ko.2.2.2.1 (kl _ (by decide +kernel)) (tn _))
  · exact dq _ _ rfl sh.2.2.2.2.1 sa.2.2.2.1 rfl (f2 _ _ _ _ pr pn) (t2 _ _ _ ko.2.2.2.2.1 (kl _ (by decide +kernel)) (tr _) (tn _))
  · exact dq _ _ rfl sh.2.2.2.2.2.1 sa.2.2.2.2.1 rfl (f1 _ _ pr) (t1 _ _ ko.2.2.2.2.2.1 (kl _ (by decide +kernel)) (tr _))
  · exact dq _ _ rfl sh.2.2.2.2.2.2.1 sa.2.2.2.2.2 rfl (f2 _ _ _ _ pw pb) (t2 _ _ _ ko.2.2.2.2.2.2.1 (kl _ (by decide +kernel)) (ts _ _ wo wl) (ts _ _ ko.2.2.2.2.2.2.2.2.2.2 (kl _ (by decide +kernel))))
  · exact dq _ _ rfl sh.2.2.2.2.2.2.2.1 sa.2.2.1 rfl (f1 _ _ pn) (t1 _ _ ko.2.2.2.2.2.2.2.1 (kl _ (by decide +kernel)) (tn _))
  · exact dq _ _ rfl sh.2.2.2.2.2.2.2.2 sa.2.2.1 rfl (f1 _ _ pn) (t1 _ _ ko.2.2.2.2.2.2.2.2.1 (kl _ (by decide +kernel)) (tn _))
structure LdI (sc:List Int) (T:Sto) (pre:List Nat) (env:En) (S':Sto):Prop where
  ex:∃o ds e2 e3 e4 e5 e6 e7 e8,Dr sc o∧env=[some (.loc 0),some (.loc (T.length+1)),e2,e3,e4,e5,e6,e7,e8]∧S'=o::(T++[.lst ds])∧ds.length=pre.length∧∀d∈ds,DQ d
theorem tq {sc:List Int} {o:O} {T:Sto} {Q:D→Sto→Prop} {E:XV→Sto→Prop} (dr:Dr sc o) (k:∀o' ds,Dr sc o'→ds.length≤6→(∀d∈ds,DQ d)→Q (.loc (T.length+1)) (o'::(T++[.lst ds]))):Res.wp (dP [.loc 0] (o::T)) Q E:=by
  unfold dP
  apply ac
  unfold jR
  simp -dsimp
  refine ay dr (by omega) (by omega) fun m o1 d1 m0 m7=>?_
  have hsm:a5 m=true:=ck (by omega)
  simp -dsimp [hsm,dR]
  refine fY (f:=fun i:Nat=>D.int i) (List.range m.toNat) (fun pre _=>LdI sc T pre) (by simp) ⟨_,[],_,_,_,_,_,_,_,d1,rfl,rfl,rfl,fun d hd=>by cases hd⟩ ?_ ?_
  · rintro pre x rest env S' hpre ⟨o2,ds,e2,e3,e4,e5,e6,e7,e8,d2,rfl,rfl,hl,hds⟩
    obtain ⟨rfl,hx⟩:=gG hpre
    refine ⟨_,rfl,?_⟩
    simp -dsimp
    refine ay d2 (by omega) (by omega) fun a o3 d3 a0 a1=>?_
    simp -dsimp
    refine ay d3 (by omega) (by omega) fun c o4 d4 c0 c1=>?_
    have hm1:∃mx:Int,fIx (o4::(T++[O.lst ds])) (.lst [.int 120,.int 9999]) (.int c)=some (.int mx)∧0<mx∧mx≤9999:=by
      have:c=0∨c=1:=by omega
      rcases this with rfl|rfl
      · exact ⟨120,rfl,by omega,by omega⟩
      · exact ⟨9999,rfl,by omega,by omega⟩
    obtain ⟨mx,hmx,mx0,mx1⟩:=hm1
    simp -dsimp [hmx]
    refine ay d4 (by omega) (by omega) fun b o5 d5 b0 b1=>?_
    simp -dsimp
    refine ay d5 (by omega) (by omega) fun g o6 d6 g0 g1=>?_
    have hsg:a5 (1+g)=true:=ck (by omega)
    simp -dsimp [hsg,dR]
    refine nZ (f:=fun i:Nat=>D.int i) (List.range (1+g).toNat) (fun pre _ acc S'=>∃(o:O) (ps:List (Nat × Nat)),Dr sc o∧acc=ps.map rdP∧ps.length=pre.length∧(∀p:Nat × Nat,p∈ps→p.1≤60∧1≤p.2∧p.2≤9999)∧S'=o::(T++[.lst ds])) rfl ⟨o6,[],d6,rfl,rfl,fun _ h=>by simp at h,rfl⟩ ?_ ?_
    · rintro pre2 x2 rest2 acc S2 hpre2 ⟨o7,ps,d7,rfl,hpl,hps,rfl⟩
      obtain ⟨rfl,hx2⟩:=gG hpre2
      refine ⟨_,rfl,?_⟩
      simp -dsimp
      refine ay d7 (by omega) (by omega) fun a' o8 d8 a'0 a'1=>?_
      simp -dsimp
      refine ay d8 (by omega) (by omega) fun b' o9 d9 b'0 b'1=>?_
      simp -dsimp
      refine ⟨by omega,o9,d9,ps++[(a'.toNat,(1+b').toNat)],?_,by simp[hpl],?_,rfl⟩
      · simp[rdP,Int.toNat_of_nonneg a'0,Int.toNat_of_nonneg (show 0≤1+b' by omega)]
      · intro pa pb hp
        have hp':(pa,pb)∈ps++[(a'.toNat,(1+b').toNat)]:=by simpa using hp
        rcases List.mem_append.mp hp' with h|h
        · exact hps (pa,pb) h
        · rw[List.mem_singleton] at h
          cases h
          refine ⟨by omega,by omega,by omega⟩
    rintro acc S2 ⟨o7,ps,d7,rfl,hpl,hps,rfl⟩
    simp -dsimp [jW]
    refine ay d7 (by omega) (by omega) fun wi o8 d8 wi0 wi1=>?_
    have hw:∃wd,fIx (o8::(T++[O.lst ds])) (D.lst [D.str (Str.ofString "p"),.str (Str.ofString "ab"),.str (Str.ofString "qwertz"),.str (Str.ofString "elevensigns")]) (.int wi)=some (.str wd)∧wd∈pW:=by
      have:wi=0∨wi=1∨wi=2∨wi=3:=by omega
      rcases this with rfl|rfl|rfl|rfl
      · exact ⟨_,rfl,by decide +kernel⟩
      · exact ⟨_,rfl,by decide +kernel⟩
      · exact ⟨_,rfl,by decide +kernel⟩
      · exact ⟨_,rfl,by decide +kernel⟩
    obtain ⟨wd,hwd,hwm⟩:=hw
    simp -dsimp [hwd]
    refine ay d8 (by omega) (by omega) fun z o9 d9 z0 z1=>?_
    have hm2:∃mn:Int,fIx (o9::(T++[O.lst ds])) (.lst [.int 9,.int 1000000]) (.int z)=some (.int mn)∧0<mn∧mn≤1000000:=by
      have:z=0∨z=1:=by omega
      rcases this with rfl|rfl
      · exact ⟨9,rfl,by omega,by omega⟩
      · exact ⟨1000000,rfl,by omega,by omega⟩
    obtain ⟨mn,hmn,mn0,mn1⟩:=hm2
    simp -dsimp [hmn]
    refine ay d9 (by omega) (by omega) fun n o10 d10 n0 n1=>?_
    simp -dsimp
    have hgL:∀(u:O) (L:List D),(u::(T++[O.lst L]))[T.length+1]?=some (.lst L):=fun u L=>by simp
    have hsL:∀(u:O) (L L':List D),(u::(T++[O.lst L])).set (T.length+1) (.lst L')=u::(T++[O.lst L']):=fun u L L'=>by simp[List.set_append_right]
    have hil:bS (o10::(T++[O.lst ds])) (.loc (T.length+1))=true:=by
      unfold bS
      simp[view,view0,vt,hgL]
    rw[if_pos hil]
    simp -dsimp
    refine ay d10 (by omega) (by omega) fun ci o11 d11 ci0 ci1=>?_
    have hnine:=vD (a:=a.toNat) (b:=(1+b).toNat) (k:=n.toNat) (rs:=ps) (w:=wd) (by omega) (by omega) (by omega) (by omega) hwm (fun h=>by rw[h,List.length_range] at hpl; simp at hpl; omega) (by rw[hpl,List.length_range]; omega) hps
    rw[Int.toNat_of_nonneg a0,Int.toNat_of_nonneg (show 0≤1+b by omega),Int.toNat_of_nonneg n0] at hnine
    have hpick:∃d,fIx (o11::(T++[O.lst ds])) (.lst (lp (.tup [.int a,.int (1+b)]) (.tpn (ps.map rdP)) wd (.int n))) (.int ci)=some d∧d∈lp (.tup [.int a,.int (1+b)]) (.tpn (ps.map rdP)) wd (.int n):=by
      have:ci=0∨ci=1∨ci=2∨ci=3∨ci=4∨ci=5∨ci=6∨ci=7∨ci=8:=by omega
      rcases this with rfl|rfl|rfl|rfl|rfl|rfl|rfl|rfl|rfl<;>exact ⟨_,rfl,by simp[lp]⟩
    obtain ⟨d,hd,hdm⟩:=hpick
    have hd':=hd
    unfold lp at hd'
    erw [hd']
    have hdsl:ds.length<1000000:=by
      rw[hl]
      omega
    have happ:bH (o11::(T++[O.lst ds])) (.loc (T.length+1)) [d]=some (.none,o11::(T++[O.lst (ds++[d])])):=by
      unfold bH
      simp[hgL,hdsl,hsL]
    simp -dsimp [happ]
    refine ⟨o11,ds++[d],_,_,_,_,_,_,_,d11,rfl,rfl,by simp[hl],fun q hq=>?_⟩
    rcases List.mem_append.mp hq with h|h
    · exact hds q h
    · rw[List.mem_singleton] at h
      subst h
      exact hnine q hdm
  · rintro env S' ⟨o2,ds,e2,e3,e4,e5,e6,e7,e8,d2,rfl,rfl,hl,hds⟩
    simp -dsimp
    exact k o2 ds d2 (by rw[hl,List.length_range]; omega) hds
end
end DL
namespace DL
open PySem PySem.Spec PyProof.Rows L2 LamX
def chgM:MS:=aO (ao 6 (aN 2 aI (aB (eV 1) (aB (aJ (lv0 am) (eB bF (aB (eV 3) (aE))) (eC (.int 1))) (aE)))))
  (ao 3 (aJ (lv0 am) (aJ (lv0 am) (fm (eV 3) (pNo) (cR (eV 6))) (cD (dj (fm (eV 3) (cR (eV 6)) (cR (aJ (lv0 am) (eV 6) (eC (.int 1)))))) (gV 8) (bv) (aN 2 (bY 8) (aB (eV 1) (aB (eV 8) (aE)))) [8])) (fm (eV 3) (cR (aJ (lv0 am) (eV 6) (eC (.int 1)))) (pNo))))
noncomputable def finM:MS:=aO (ao 7 (aN 1 dA (aB (eV 3) (aE))))
  (aO (ao 7 (eIf (tOf (aJ (lv fq) (eV 7) (eC .none))) (bB (aB (eC (.str "BadDeed")) (aB (eV 7) (aE)))) (aN 1 b4 (aB (eV 3) (aE)))))
  (aO (sIf (bi (cI (aN 2 (aj 12) (aB (fG hdK (aN 1 ap (aB (eV 3) (aE)))) (aB (eV 7) (aE)))))) (aq (eC (.bool false))) (bQ))
  (sIf (tOf (aJ (lv dNe) (fG hdK (aN 1 ap (aB (bB (aE)) (aE)))) (bB (aB (eC (.str "BadDeed")) (aB (eC (.int 0)) (aE)))))) (aq (eC (.bool false))) (bQ))))
section
variable {sc:List Int} {N B C:En→Sto→Prop} {R:D→Sto→Prop} {E:XV→Sto→Prop}
theorem chg_wp {o:O} {T:Sto} {v:D} {ds:List D} {L m:Nat} {e0 e2 e4 e5 e6 e7 e8:Option D} (hv:∀o',LV (o'::T) v ds) (hl:ds.length≤15) (h:∀d∈ds,aP L m d=true) (hm:m<8) (hL:2≤L) (hL2:L≤900) (dr:Dr sc o)
    (k:∀o' ds' e6' e8',Dr sc o'→ds'.length≤ds.length+1→(∀d∈ds',aP (L+1) (m+2) d=true)→N [e0,some (.loc 0),e2,some (.lst ds'),e4,e5,e6',e7,e8'] (o'::T)):RS.wp (chgM [e0,some (.loc 0),e2,some v,e4,e5,e6,e7,e8] (o::T)) N R E B C:=by
  have h2:=fun o'=>(hv o').len
  have hv0:=fun o'=>(hv o').view0
  unfold chgM
  simp -dsimp [h2]
  refine ay dr (by omega) (by omega) fun i o1 d1 i0 i1=>?_
  obtain ⟨j,rfl⟩:∃j:Nat,i=(j:Int):=⟨i.toNat,by omega⟩
  have hk1:((j:Nat):Int)+1=((j+1:Nat):Int):=by omega
  simp -dsimp [hv0,jV]
  have hmid:(bc ds (some (j:Int)) (some ((j:Int)+1))).length≤1:=by
    rw[hk1]
    by_cases hj:j+1≤ds.length
    · rw[sY ds hj (by omega),List.length_take]
      omega
    · have:j=ds.length:=by omega
      have e:(bc ds (some (j:Int)) (some ((j+1:Nat):Int)))=[]:=by
        apply List.eq_nil_iff_forall_not_mem.mpr
        intro y hy
        unfold bc at hy
        have hs:HT.sIx ds.length 0 (some (j:Int))=ds.length:=by
          rw[this]
          simp[HT.sIx]
          omega
        rw[hs] at hy
        simp at hy
      rw[e]
      simp
  have lt:=ow ds j
  have lf:=j6 ds (j+1)
  rw[←hk1] at lf
  have sub:∀lo hi,∀d∈bc ds lo hi,aP L m d=true:=fun lo hi d hd=>h d (gO hd)
  refine nZ (f:=fun z:D=>z) (bc ds (some (j:Int)) (some ((j:Int)+1))) (fun pre _ acc S'=>∃o,Dr sc o∧S'=o::T∧acc.length=pre.length∧∀d∈acc,aP (L+1) (m+2) d=true) (by rw[List.map_id']) ⟨o1,d1,rfl,rfl,fun d hd=>by cases hd⟩ ?_ ?_
  · rintro pre x rest acc S' hpre ⟨o2,d2,rfl,hal,hat⟩
    have hx:=sub _ _ x (by rw[←hpre]; simp)
    refine ⟨_,rfl,?_⟩
    simp -dsimp
    refine dp (oO m 8 x o2 T hm (by omega) hx hL hL2 d2) ?_ (fun _ _ z=>z.elim)
    rintro a S' ⟨ta,o3,d3,rfl⟩
    refine ⟨?_,o3,d3,rfl,by simp[hal],fun d hd=>?_⟩
    · have:=congrArg List.length hpre
      simp at this
      omega
    · rcases List.mem_append.mp hd with hd|hd
      · exact hat d hd
      · rw[List.mem_singleton.mp hd]; exact ta
  · rintro acc S' ⟨o2,d2,rfl,hal,hat⟩
    have l1:(bc ds none (some (j:Int))).length≤j:=by rw[lt,List.length_take]; omega
    have l3:(bc ds (some ((j:Int)+1)) none).length≤ds.length - (j+1):=by rw[lf,List.length_drop]; omega
    have a1:(bc ds none (some (j:Int))).length+acc.length≤1000000:=by omega
    have a2:((bc ds none (some (j:Int)))++acc).length+(bc ds (some ((j:Int)+1)) none).length≤1000000:=by rw[List.length_append]; omega
    have hz1:=sub none (some (j:Int))
    have hz2:=sub (some ((j:Int)+1)) none
    obtain ⟨A,hA⟩:∃A,A=bc ds none (some (j:Int)):=⟨_,rfl⟩
    obtain ⟨Z,hZ⟩:∃Z,Z=bc ds (some ((j:Int)+1)) none:=⟨_,rfl⟩
    rw[←hA] at l1 a1 a2 hz1
    rw[←hZ] at l3 a2 hz2
    have e1:am (.lst A) (.lst acc)=some (.lst (A++acc)):=by rw[gD,if_pos a1]
    have e2:am (.lst (A++acc)) (.lst Z)=some (.lst (A++acc++Z)):=by rw[gD,if_pos a2]
    simp -dsimp [e1,e2,hv0,jV,←hA,←hZ,-gD]
    refine k o2 _ _ _ d2 ?_ fun d hd=>?_
    · rw[List.length_append,List.length_append]
      omega
    · rcases List.mem_append.mp hd with hd|hd
      · exact fQ (by omega) (by omega) (hz1 d hd)
      · rcases List.mem_append.mp hd with hd|hd
        · exact hat d hd
        · exact fQ (by omega) (by omega) (hz2 d hd)
theorem oQ (k:Nat):hdK "BadDeed" [("number",.int (k:Nat))]=some (.tup [.str "BadDeed",.int (k:Nat)]):=by
  have h1:(kindsHere.contains ("BadDeed":Str))=true:=by decide +kernel
  have h2:dX ("BadDeed":Str)=[("number":Str)]:=by decide +kernel
  unfold hdK hdOf
  rw[if_pos ⟨h1,h2.symm⟩]
  rfl
theorem bd_ok:PyData.strOk "BadDeed"=true:=by decide +kernel
def kg (ds:List D):D:=match fR ds with
  | some k=>.tup [.str "BadDeed",.int (k:Nat)]
  | none=>.str (g9 ds)
theorem my {S:Sto} {ds:List D} {n:Nat} (hl:ds.length≤20) (h:∀d∈ds,aP 20 (n+2) d=true) (hn:n+2≤58):Res.wp (j3 hdK (ap [.lst ds] S)) (fun v S'=>v=kg ds∧∃T,S'=S++T) E:=by
  refine le (dp (jT .lst hl h hn) ?_ ?_)
  · rintro v S' ⟨hb,rfl,T,rfl⟩
    exact ⟨by unfold kg; rw[hb],_,rfl⟩
  · rintro e S' ⟨k,hb,rfl,T,rfl⟩
    exact ⟨_,oQ k,by unfold kg; rw[hb],_,rfl⟩
theorem rF {S:Sto}:Res.wp (j3 hdK (ap [.tup []] S)) (fun v S'=>v=.tup [.str "BadDeed",.int 0]∧∃T,S'=S++T) E:=by
  have hf:aY S [.tup [],.ty "list"]=some (.bool false):=by simp[aY]
  have hN:Res.wp (b3 [.tup []] S) (fun _ _=>False) (fun e S'=>e=⟨"BadDeed",[("number",.int (0:Nat))]⟩∧S'=S):=by
    unfold b3
    apply ac
    unfold fc
    simp -dsimp [hf]
  have hW:Res.wp (ap [.tup []] S) (fun _ _=>False) (fun e S'=>e=⟨"BadDeed",[("number",.int (0:Nat))]⟩∧S'=S):=by
    unfold ap
    apply ac
    unfold iz
    simp -dsimp [-iM,-iJ]
    exact dp hN (fun _ _ z=>z.elim) fun _ _ z=>z
  refine le (dp hW (fun _ _ z=>z.elim) ?_)
  rintro e S' ⟨rfl,rfl⟩
  exact ⟨_,oQ 0,rfl,[],by simp⟩
theorem vE:dNe (.tup [.str "BadDeed",.int 0]) (.tup [.str "BadDeed",.int 0])=some (.bool false):=by
  have:=bd_ok
  simp[this]
theorem tw {S:Sto} {ds:List D} (ht:PyData.strOk (g9 ds)=true∨fR ds≠none):Sme S 12 (kg ds) (kg ds):=by
  unfold kg
  cases hb:fR ds with
  | none=>
    rcases ht with h|h
    · exact gh _ h
    · exact (h hb).elim
  | some k=>
    refine sme_pd 11 _ ?_
    simp[pd,bd_ok]
theorem fin_wp {o:O} {T:Sto} {ds:List D} {n:Nat} {e0 e1 e2 e4 e5 e6 e7 e8:Option D} (hl:ds.length≤20) (h:∀d∈ds,aP 20 (n+2) d=true) (hn:n+2≤58) (k:∀T' e7',N [e0,e1,e2,some (.lst ds),e4,e5,e6,e7',e8] (o::T')):RS.wp (finM [e0,e1,e2,some (.lst ds),e4,e5,e6,e7,e8] (o::T)) N R E B C:=by
  unfold finM
  simp -dsimp
  refine gY (u8 hl h hn) ?_
  rintro _ _ ⟨rfl,T1,rfl⟩
  have rest:∀(r:D) (T2:Sto),r=kg ds→RS.wp ((aO (sIf (bi (cI (aN 2 (aj 12) (aB (fG hdK (aN 1 ap (aB (eV 3) (aE)))) (aB (eV 7) (aE)))))) (aq (eC (.bool false))) (bQ))
  (sIf (tOf (aJ (lv dNe) (fG hdK (aN 1 ap (aB (bB (aE)) (aE)))) (bB (aB (eC (.str "BadDeed")) (aB (eC (.int 0)) (aE)))))) (aq (eC (.bool false))) (bQ))) [e0,e1,e2,some (.lst ds),e4,e5,e6,some r,e8] (o::T2)) N R E B C:=by
    rintro r T2 rfl
    simp -dsimp
    refine gY (my hl h hn) ?_
    rintro _ _ ⟨rfl,T3,rfl⟩
    have ht:PyData.strOk (g9 ds)=true∨fR ds≠none:=by
      by_cases hb:fR ds=none
      · exact .inl (pU fun d hd=>⟨h d hd,qT hb d hd⟩).1
      · exact .inr hb
    have hs:=tw (S:=o::(T2++T3)) ht
    unfold Sme at hs
    simp -dsimp [hs]
    refine gY rF ?_
    rintro _ _ ⟨rfl,T4,rfl⟩
    have hn:=vE
    simp -dsimp [hn,-a6]
    exact k _ _
  cases hb:fR ds with
  | some j=>
    have hd:kg ds=.tup [.str "BadDeed",.int (j:Nat)]:=by unfold kg; rw[hb]
    have hi:fq (pV (some j)) .none=some (.bool true):=rfl
    have ho:pV (some j)=.int (j:Nat):=rfl
    rw[ho] at hi ⊢
    simp -dsimp [hi,-sZ,-sE]
    have:=rest _ (T++T1) hd.symm
    simpa -dsimp using this
  | none=>
    have hi:fq (pV none) .none=some (.bool false):=rfl
    have ho:pV none=.none:=rfl
    rw[ho] at hi ⊢
    simp -dsimp [hi,-sZ,-sE]
    refine gY (oH .lst hl h (qT hb)) ?_
    rintro _ _ ⟨rfl,T2,rfl⟩
    have hd:kg ds=.str (g9 ds):=by unfold kg; rw[hb]
    have:=rest _ (T++(T1++T2)) hd.symm
    simpa -dsimp using this
end
end DL
namespace DL
open PySem PySem.Spec PyProof.Rows L2 LamX
/-- between the turns -/
structure TuI (sc:List Int) (env:En) (S':Sto):Prop where
  ex:∃o T e2 e3 e4 e5 e6 e7 e8,Dr sc o∧env=[some (.ro (sc.map .int)),some (.loc 0),e2,e3,e4,e5,e6,e7,e8]∧S'=o::T
/-- between the changes -/
structure ChI (sc:List Int) (e2 e4:Option D) (n:Nat) (env:En) (S':Sto):Prop where
  ex:∃o T v ds e5 e6 e7 e8,Dr sc o∧env=[some (.ro (sc.map .int)),some (.loc 0),e2,some v,e4,e5,e6,e7,e8]∧S'=o::T∧(∀o',LV (o'::T) v ds)∧ds.length≤7+n∧(∀d∈ds,aP (6+n) (3+2*n) d=true)∧(0<n→v=.lst ds)
noncomputable def tx:MS:=aO (eR (c7 (aB (aJ (lv0 am) (eC (.int 1)) (aN 2 aI (aB (eV 1) (aB (eC (.int 2)) (aE))))) (aE))) (gV 5) chgM) finM
theorem tz:(aO (eR (c7 (aB (aJ (lv0 am) (eC (.int 1)) (aN 2 aI (aB (eV 1) (aB (eC (.int 2)) (aE))))) (aE))) (gV 5) (aO (ao 6 (aN 2 aI (aB (eV 1) (aB (aJ (lv0 am) (eB bF (aB (eV 3) (aE))) (eC (.int 1))) (aE)))))
  (ao 3 (aJ (lv0 am) (aJ (lv0 am) (fm (eV 3) (pNo) (cR (eV 6))) (cD (dj (fm (eV 3) (cR (eV 6)) (cR (aJ (lv0 am) (eV 6) (eC (.int 1)))))) (gV 8) (bv) (aN 2 (bY 8) (aB (eV 1) (aB (eV 8) (aE)))) [8])) (fm (eV 3) (cR (aJ (lv0 am) (eV 6) (eC (.int 1)))) (pNo))))))
  (aO (ao 7 (aN 1 dA (aB (eV 3) (aE))))
  (aO (ao 7 (eIf (tOf (aJ (lv fq) (eV 7) (eC .none))) (bB (aB (eC (.str "BadDeed")) (aB (eV 7) (aE)))) (aN 1 b4 (aB (eV 3) (aE)))))
  (aO (sIf (bi (cI (aN 2 (aj 12) (aB (fG hdK (aN 1 ap (aB (eV 3) (aE)))) (aB (eV 7) (aE)))))) (aq (eC (.bool false))) (bQ))
  (sIf (tOf (aJ (lv dNe) (fG hdK (aN 1 ap (aB (bB (aE)) (aE)))) (bB (aB (eC (.str "BadDeed")) (aB (eC (.int 0)) (aE)))))) (aq (eC (.bool false))) (bQ))))))=tx:=rfl
section
variable {sc:List Int}
theorem qV {o:O} {T:Sto} {v:D} {ds:List D} {e2 e4 e5 e6 e7 e8:Option D} {R:D→Sto→Prop} {E:XV→Sto→Prop} {B C:En→Sto→Prop} (dr:Dr sc o) (hv:∀o',LV (o'::T) v ds) (hl:ds.length≤7) (h:∀d∈ds,aP 6 3 d=true) :
    RS.wp (tx [some (.ro (sc.map .int)),some (.loc 0),e2,some v,e4,e5,e6,e7,e8] (o::T)) (TuI sc) R E B C:=by
  unfold tx
  simp -dsimp
  refine ay dr (by omega) (by omega) fun m o1 d1 m0 m1=>?_
  have hsm:a5 (1+m)=true:=ck (by omega)
  simp -dsimp [hsm,dR]
  refine fY (f:=fun i:Nat=>D.int i) (List.range (1+m).toNat) (fun pre _=>ChI sc e2 e4 pre.length) rfl ⟨o1,T,v,ds,_,_,_,_,d1,rfl,rfl,hv,by simpa using hl,by simpa using h,fun z=>by simp at z⟩ ?_ ?_
  · rintro pre x rest env S' hpre ⟨o2,T2,v2,ds2,e5,e6,e7,e8,d2,rfl,rfl,hv2,hl2,ht2,_⟩
    obtain ⟨rfl,hx⟩:=gG hpre
    have hp:pre.length≤1:=by omega
    refine ⟨_,rfl,?_⟩
    refine chg_wp (e0:=some (.ro (sc.map .int))) (e2:=e2) (e4:=e4) (e5:=some (.int (pre.length:Nat))) (e6:=e6) (e7:=e7) (e8:=e8) hv2 (by omega) ht2 (by omega) (by omega) (by omega) d2 fun o3 ds3 a b d3 hl3 ht3=>?_
    rw[List.length_append]
    refine ⟨o3,T2,.lst ds3,ds3,_,_,_,_,d3,rfl,rfl,fun _=>.lst,by simp; omega,?_,fun _=>rfl⟩
    have e1:6+pre.length+1=6+(pre.length+[pre.length].length):=by simp; omega
    have e2:3+2*pre.length+2=3+2*(pre.length+[pre.length].length):=by simp; omega
    rw[e1,e2] at ht3
    exact ht3
  · rintro env S' ⟨o2,T2,v2,ds2,e5,e6,e7,e8,d2,rfl,rfl,hv2,hl2,ht2,hz⟩
    rw[List.length_range] at hl2 ht2 hz
    cases hz (by omega)
    refine fin_wp (n:=10) (by omega) (fun d hd=>fQ (by omega) (by omega) (ht2 d hd)) (by omega) fun T' a=>?_
    exact ⟨o2,T',_,_,_,_,_,_,_,d2,rfl,rfl⟩
theorem rG (sc:List Int):Res.wp (n5 [.ro (sc.map .int)] []) (fun v _=>v=.bool true) NoE:=by
  unfold n5
  apply ac
  unfold b_law
  simp -dsimp
  refine s9 fun o1 d1=>?_
  have h6:a5 6=true:=ck (by omega)
  simp -dsimp [dR,h6]
  rw[tz]
  refine fY (f:=fun i:Nat=>D.int i) (List.range 6) (fun _ _=>TuI sc) (by rfl) ⟨o1,[],_,_,_,_,_,_,_,d1,rfl,rfl⟩ ?_ ?_
  · rintro pre x rest env S' hpre ⟨o2,T,e2,e3,e4,e5,e6,e7,e8,d2,rfl,rfl⟩
    refine ⟨_,rfl,?_⟩
    simp -dsimp
    refine tq d2 fun o3 ds d3 hdl hds=>?_
    have ht:∀d∈ds,aP 20 12 d=true:=fun d hd=>fQ (by omega) (by omega) (hds d hd).tm
    have hok:∀d∈ds,shB d=true∧prB d=true:=fun d hd=>⟨(hds d hd).sh,(hds d hd).pr⟩
    have hT:=pU (n:=10) fun d hd=>⟨ht d hd,hok d hd⟩
    have hlv:∀o' U,LV (o'::(T++O.lst ds::U)) (.loc (T.length+1)) ds:=fun o' U=>.loc (by simp)
    simp -dsimp
    refine gY (oH (n:=10) (hlv o3 []) (by omega) ht hok) ?_
    rintro _ _ ⟨rfl,T1,rfl⟩
    simp -dsimp
    refine dp (jT (n:=10) (hlv o3 T1) (by omega) ht (by omega)) ?_ ?_
    rotate_left
    · rintro e S' ⟨k,hb,_⟩
      rw[vB hok] at hb
      cases hb
    rintro _ _ ⟨_,rfl,T2,rfl⟩
    have s1:=gh (S:=o3::(T++O.lst ds::(T1++T2))) (n:=11) (g9 ds) hT.1
    unfold Sme at s1
    simp -dsimp [s1]
    refine gY (rD (n:=10) (by omega) ht hok) ?_
    rintro _ _ ⟨l,ys,rfl,rfl,hl,hyl,hys⟩
    have s2:Sme (o3::(T++O.lst ds::(T1++(T2++[.lst ys])))) 12 (.loc l) (.loc (T.length+1)):=by
      have e1:(o3::(T++O.lst ds::(T1++(T2++[O.lst ys]))))[l]?=some (.lst ys):=by
        have:o3::(T++O.lst ds::(T1++(T2++[O.lst ys])))=(o3::(T++O.lst ds::(T1++T2)))++[.lst ys]:=by simp
        rw[this,hl]
        simp
      have e2:(o3::(T++O.lst ds::(T1++(T2++[O.lst ys]))))[T.length+1]?=some (.lst ds):=by simp
      have v1:LV (o3::(T++O.lst ds::(T1++(T2++[O.lst ys])))) (.loc l) ys:=.loc e1
      have v2:LV (o3::(T++O.lst ds::(T1++(T2++[O.lst ys])))) (.loc (T.length+1)) ds:=.loc e2
      exact jk (t:="list") (.inr rfl) v1.ty v2.ty v1.len v2.len v1.ix v2.ix hyl (by omega) fun i x y h1 h2=>hys i x y h1 h2 _ 7
    unfold Sme at s2
    simp -dsimp [s2]
    refine ay d3 (by omega) (by omega) fun m o4 d4 m0 m1=>?_
    have tf:∀(a b c:Option D) (v:D),True:=fun _ _ _ _=>trivial
    have hlv2:∀o',LV (o'::(T++O.lst ds::(T1++(T2++[O.lst ys])))) (.loc (T.length+1)) ds:=fun o'=>.loc (by simp)
    have htm:∀d∈ds,aP 6 3 d=true:=fun d hd=>(hds d hd).tm
    have vw:view0 (o4::(T++O.lst ds::(T1++(T2++[O.lst ys])))) (.loc (T.length+1))=.lst ds:=(hlv2 o4).view0
    have had:am (.lst ds) (.lst [.tup [.str "sell",.str "ab",.tup [],.str "y"]])=some (.lst (ds++[.tup [.str "sell",.str "ab",.tup [],.str "y"]])):=by
      rw[gD,if_pos (by simp; omega)]
    have hsell:aP 6 3 (.tup [.str "sell",.str "ab",.tup [],.str "y"])=true:=by decide +kernel
    generalize hX:D.tup [D.str "sell",D.str "ab",D.tup [],D.str "y"]=X at had hsell
    by_cases hm:m=0
    · simp -dsimp [hm,vw,hX,had]
      refine qV d4 (fun _=>.lst) (by simp; omega) fun d hd=>?_
      rcases List.mem_append.mp hd with hd|hd
      · exact htm d hd
      · rw[List.mem_singleton.mp hd]; exact hsell
    · simp -dsimp [hm]
      exact qV d4 hlv2 (by omega) htm
  · rintro env S' ⟨o2,T,e2,e3,e4,e5,e6,e7,e8,d2,rfl,rfl⟩
    simp -dsimp
end
end DL
namespace DL
open PySem PySem.Spec PyProof.Rows L2 LamX
theorem hFx {K:PySem.W.Frag} {w:World} {h:Heap} {mg:Str→Option Value} (X:K.In h) (G:h.Ns mainGlobals mg) (c:He.SaysX hAll hFn pY hTf hEx w h K):Fx K mg where
  d_AirError:=He.glo_ok X G (c.t.d.fact 0 (f:=.glo "AirError") rfl)
  d_BadChain:=He.glo_ok X G (c.t.d.fact 1 (f:=.glo "BadChain") rfl)
  d_BadClasses:=He.glo_ok X G (c.t.d.fact 2 (f:=.glo "BadClasses") rfl)
  d_BadCount:=He.glo_ok X G (c.t.d.fact 3 (f:=.glo "BadCount") rfl)
  d_BadDay:=He.glo_ok X G (c.t.d.fact 4 (f:=.glo "BadDay") rfl)
  d_BadDeed:=He.glo_ok X G (c.t.d.fact 5 (f:=.glo "BadDeed") rfl)
  d_BadFleet:=He.glo_ok X G (c.t.d.fact 6 (f:=.glo "BadFleet") rfl)
  d_BadName:=He.glo_ok X G (c.t.d.fact 7 (f:=.glo "BadName") rfl)
  d_BadNet:=He.glo_ok X G (c.t.d.fact 8 (f:=.glo "BadNet") rfl)
  d_BadPlace:=He.glo_ok X G (c.t.d.fact 9 (f:=.glo "BadPlace") rfl)
  d_BadText:=He.glo_ok X G (c.t.d.fact 10 (f:=.glo "BadText") rfl)
  d_BadTime:=He.glo_ok X G (c.t.d.fact 11 (f:=.glo "BadTime") rfl)
  d_CannotFly:=He.glo_ok X G (c.t.d.fact 12 (f:=.glo "CannotFly") rfl)
  d_DEEDS:=He.glo_ok X G (c.t.d.fact 13 (f:=.glo "DEEDS") rfl)
  d_Left:=He.glo_ok X G (c.t.d.fact 14 (f:=.glo "Left") rfl)
  d_NoBooking:=He.glo_ok X G (c.t.d.fact 15 (f:=.glo "NoBooking") rfl)
  d_NoClass:=He.glo_ok X G (c.t.d.fact 16 (f:=.glo "NoClass") rfl)
  d_NoDuty:=He.glo_ok X G (c.t.d.fact 17 (f:=.glo "NoDuty") rfl)
  d_NoKind:=He.glo_ok X G (c.t.d.fact 18 (f:=.glo "NoKind") rfl)
  d_NoLeg:=He.glo_ok X G (c.t.d.fact 19 (f:=.glo "NoLeg") rfl)
  d_NoPlane:=He.glo_ok X G (c.t.d.fact 20 (f:=.glo "NoPlane") rfl)
  d_NoSeat:=He.glo_ok X G (c.t.d.fact 21 (f:=.glo "NoSeat") rfl)
  d_NoWay:=He.glo_ok X G (c.t.d.fact 22 (f:=.glo "NoWay") rfl)
  d_SHAPES:=He.glo_ok X G (c.t.d.fact 23 (f:=.glo "SHAPES") rfl)
  d_Taken:=He.glo_ok X G (c.t.d.fact 24 (f:=.glo "Taken") rfl)
  d_Unmended:=He.glo_ok X G (c.t.d.fact 25 (f:=.glo "Unmended") rfl)
  d__law_bad:=He.glo_ok X G (c.t.d.fact 26 (f:=.glo "_law_bad") rfl)
  d__law_deeds:=He.glo_ok X G (c.t.d.fact 27 (f:=.glo "_law_deeds") rfl)
  d__law_drawn:=He.glo_ok X G (c.t.d.fact 28 (f:=.glo "_law_drawn") rfl)
  d__law_fits:=He.glo_ok X G (c.t.d.fact 29 (f:=.glo "_law_fits") rfl)
  d__law_is:=He.glo_ok X G (c.t.d.fact 30 (f:=.glo "_law_is") rfl)
  d__law_is_ride:=He.glo_ok X G (c.t.d.fact 31 (f:=.glo "_law_is_ride") rfl)
  d__law_kind:=He.glo_ok X G (c.t.d.fact 32 (f:=.glo "_law_kind") rfl)
  d__law_other:=He.glo_ok X G (c.t.d.fact 33 (f:=.glo "_law_other") rfl)
  d__law_same:=He.glo_ok X G (c.t.d.fact 34 (f:=.glo "_law_same") rfl)
  d__law_start:=He.glo_ok X G (c.t.d.fact 35 (f:=.glo "_law_start") rfl)
  d__law_text:=He.glo_ok X G (c.t.d.fact 36 (f:=.glo "_law_text") rfl)
  d_deed_of:=He.glo_ok X G (c.t.d.fact 37 (f:=.glo "deed_of") rfl)
  d_is_number:=He.glo_ok X G (c.t.d.fact 38 (f:=.glo "is_number") rfl)
  d_is_part:=He.glo_ok X G (c.t.d.fact 39 (f:=.glo "is_part") rfl)
  d_is_ride:=He.glo_ok X G (c.t.d.fact 40 (f:=.glo "is_ride") rfl)
  d_need_deeds:=He.glo_ok X G (c.t.d.fact 41 (f:=.glo "need_deeds") rfl)
  d_number_of:=He.glo_ok X G (c.t.d.fact 42 (f:=.glo "number_of") rfl)
  d_part_of:=He.glo_ok X G (c.t.d.fact 43 (f:=.glo "part_of") rfl)
  d_part_word:=He.glo_ok X G (c.t.d.fact 44 (f:=.glo "part_word") rfl)
  d_read:=He.glo_ok X G (c.t.d.fact 45 (f:=.glo "read") rfl)
  d_shape_of:=He.glo_ok X G (c.t.d.fact 46 (f:=.glo "shape_of") rfl)
  d_written:=He.glo_ok X G (c.t.d.fact 47 (f:=.glo "written") rfl)
  i_MOST_DAY:=He.int_ok X G (c.t.d.fact 48 (f:=.int "MOST_DAY" 60) rfl)
  i_MOST_FIGURES:=He.int_ok X G (c.t.d.fact 49 (f:=.int "MOST_FIGURES" 6) rfl)
  i_MOST_NUMBER:=He.int_ok X G (c.t.d.fact 50 (f:=.int "MOST_NUMBER" 9999) rfl)
  n_ValueError:=He.free_ok X G (c.t.d.fact 51 (f:=.free "ValueError") rfl)
  n_all:=He.free_ok X G (c.t.d.fact 52 (f:=.free "all") rfl)
  n_bool:=He.free_ok X G (c.t.d.fact 53 (f:=.free "bool") rfl)
  n_enumerate:=He.free_ok X G (c.t.d.fact 54 (f:=.free "enumerate") rfl)
  n_int:=He.free_ok X G (c.t.d.fact 55 (f:=.free "int") rfl)
  n_isinstance:=He.free_ok X G (c.t.d.fact 56 (f:=.free "isinstance") rfl)
  n_len:=He.free_ok X G (c.t.d.fact 57 (f:=.free "len") rfl)
  n_list:=He.free_ok X G (c.t.d.fact 58 (f:=.free "list") rfl)
  n_range:=He.free_ok X G (c.t.d.fact 59 (f:=.free "range") rfl)
  n_str:=He.free_ok X G (c.t.d.fact 60 (f:=.free "str") rfl)
  n_tuple:=He.free_ok X G (c.t.d.fact 61 (f:=.free "tuple") rfl)
  n_zip:=He.free_ok X G (c.t.d.fact 62 (f:=.free "zip") rfl)
  s_FIGURES:=He.str_ok X G (c.t.d.fact 63 (f:=.str "FIGURES" "0123456789") rfl)
  s_LETTERS:=He.str_ok X G (c.t.d.fact 64 (f:=.str "LETTERS" "abcdefghijklmnopqrstuvwxyz") rfl)
  s_MEND:=He.str_ok X G (c.t.d.fact 65 (f:=.str "MEND" "n") rfl)
  e_BadDeed:=nW (He.ba (He.ba c.more).2).1
  e_BadText:=nW (He.ba (He.ba (He.ba c.more).2).2).1
theorem hGx {P:Program} {K:PySem.W.Frag} {w:World} {h base:Heap} {mg:Str→Option Value} (X:K.In h) (G:h.Ns mainGlobals mg) (c:He.SaysX hAll hFn pY hTf hEx w h K) (tb:∀p∈hTf.map (He.cT K),TabB base mg p.1 p.2):Gx P w K mg base where
  fx:=hFx X G c
  t_DEEDS:=kdF_of (c.t.tab 0 (t:=(fun K=>He.ga K "DEEDS",["fly","sell","back","away","late","off","kind","turn","mend"])) rfl) (He.ba (He.ba (He.ba (He.ba c.more).2).2).2).1
  s_SHAPES:=kdS_of (c.t.tab 1 (t:=(fun K=>He.ga K "SHAPES",["fly","sell","back","away","late","off","kind","turn"])) rfl) (He.ba (He.ba (He.ba (He.ba (He.ba c.more).2).2).2).2).1
  kx:=qc X G (He.ba (He.ba c.more).1).1 (fun y hy=>c.t.d.facts (List.mem_append_right _ (List.mem_append_left _ (List.mem_append_left _ (List.mem_map.mpr ⟨y,hy,rfl⟩)))))
    (c.t.d.facts (List.mem_append_right _ (List.mem_append_left _ (List.mem_append_right _ (List.mem_singleton.mpr rfl))))) (fun C hC=>c.t.d.facts (List.mem_append_right _ (List.mem_append_right _ (List.mem_map.mpr ⟨C,hC,rfl⟩))))
  tb:=fun p hp=>tb _ (List.mem_map.mpr ⟨p.1,List.mem_map.mpr ⟨p,hp,rfl⟩,rfl⟩)
  tm:=(lG (He.ba (He.ba c.more).1).2).1
  tu:=(lG (He.ba (He.ba c.more).1).2).2
  f_part_word:=c.t.d.def_ 0 (d:=d_part_word) rfl
  f_is_number:=c.t.d.def_ 1 (d:=d_is_number) rfl
  f_is_ride:=c.t.d.def_ 2 (d:=d_is_ride) rfl
  f_is_part:=c.t.d.def_ 3 (d:=d_is_part) rfl
  f_BadDeed_init__:=c.t.d.def_ 4 (d:=eu) rfl
  f_shape_of:=c.t.d.def_ 5 (d:=d_shape_of) rfl
  f_need_deeds:=c.t.d.def_ 6 (d:=d_need_deeds) rfl
  f_written:=c.t.d.def_ 7 (d:=d_written) rfl
  f_law_kind:=c.t.d.def_ 8 (d:=jl) rfl
  f_law_same:=c.t.d.def_ 9 (d:=jm) rfl
  f_law_text:=c.t.d.def_ 10 (d:=jn) rfl
  f_law_is:=c.t.d.def_ 11 (d:=m5) rfl
  f_law_is_ride:=c.t.d.def_ 12 (d:=gm) rfl
  f_law_fits:=c.t.d.def_ 13 (d:=jo) rfl
  f_law_bad:=c.t.d.def_ 14 (d:=k6) rfl
  f_law_drawn:=c.t.d.def_ 15 (d:=i9) rfl
  f_law_other:=c.t.d.def_ 16 (d:=jA) rfl
  f_BadText_init__:=c.t.d.def_ 17 (d:=e9) rfl
  f_number_of:=c.t.d.def_ 18 (d:=d_number_of) rfl
  f_part_of:=c.t.d.def_ 19 (d:=d_part_of) rfl
  f_deed_of:=c.t.d.def_ 20 (d:=d_deed_of) rfl
  f_read:=c.t.d.def_ 21 (d:=d_read) rfl
  f_law_deeds:=c.t.d.def_ 22 (d:=jB) rfl
  f_law_start:=c.t.d.def_ 23 (d:=jC) rfl
  f_law:=c.t.d.def_ 24 (d:=rK) rfl
/-- THE ROW,from what the law's mirror gives at each script -/
theorem row_of (hLaw:∀ns:List Int,ns.length≤63→(∀z∈ns,Builtin.Int.intBits z≤1048576)→∃S,n5 [.ro (ns.map .int)] []=.ok (.bool true) S):PySem.Challenge.rw_airhouse_k19_deeds_written_and_read.Holds:=by
  w_on; o_law
  refine HandSHeadRun.head_any (r:=PySem.W.OpenLaw.row PySem.Challenge.rw_airhouse_k19_deeds_written_and_read) (q:=PySem.W.view (PySem.W.OpenLaw.row PySem.Challenge.rw_airhouse_k19_deeds_written_and_read).prog [59]) (H:=hHk) (ob:=hOb) (M:=20000) (loose:=fS) (d:=HandSHeadRun.topDef (PySem.W.OpenLaw.row PySem.Challenge.rw_airhouse_k19_deeds_written_and_read).prog 59) (kwd:=[]) hOb_eq
    (by kernel_rfl) (fun s=>by kernel_rfl) hRun (by kernel_rfl) (by kernel_rfl) (by kernel_rfl) (by rfl) (by first|assumption|decide +kernel) (by decide +kernel) ⟨rfl,rfl,rfl,rfl,rfl,by decide +kernel⟩ ?hw ?hc
  case hw=>w_witness2
  case hc=>
    refine LamX.walk_ofTsE (l:=PySem.Challenge.rw_airhouse_k19_deeds_written_and_read) (n:=63) (k:=16) (x:="_law_script") (CX:=fun w=>L2N.CX PySem.Challenge.rw_airhouse_k19_deeds_written_and_read.prog w) rfl (by decide) (by kernel_rfl) ⟨rfl,by decide,by decide⟩ ?F (fun _ _ _ _ _ z=>sC z)
    intro w mg fa h Y G hmg0
    obtain ⟨K,KX,c⟩:=Y
    have hmg:mg ("law":PySem.Str)=some (.ref fa):=by
      have e:(HandSHeadRun.topDef (PySem.W.OpenLaw.row PySem.Challenge.rw_airhouse_k19_deeds_written_and_read).prog 59).name=("law":PySem.Str):=by kernel_rfl
      rw[←e]
      exact hmg0
    obtain ⟨fd,F⟩:=c.t.d.def_ 24 (d:=rK) rfl
    have e:=hmg.symm.trans (He.glo_ok KX G (c.t.d.fact 66 (f:=.glo "law") rfl))
    cases e
    have b:=FunD.bindsA (ps:=["_law_script"]) F fun _ _ _ _ _ _ us hl=>match us,hl with|[_],_=>rfl
    refine ⟨K,KX,fd,hTf.map (He.cT K),spD K mg 1 n5,fun p hp=>?_,fun p hp=>?_,fun p hp=>?_,fun s v=>b s [v] rfl,fun H a ns hl hbits hH hS=>?_,fun base KB GB TB=>(ok_law (hGx KX G c TB) F).ok⟩
    · obtain ⟨q,hq,rfl⟩:=List.mem_map.mp hp
      exact c.empty q hq
    · obtain ⟨q,hq,rfl⟩:=List.mem_map.mp hp
      exact c.out q hq
    · obtain ⟨q,hq,rfl⟩:=List.mem_map.mp hp
      exact PySem.W.codeHd_of_K KX (c.hd q hq)
    · refine sD hS (fun p hp=>?_) (hLaw ns hl hbits)
      obtain ⟨q,hq,rfl⟩:=List.mem_map.mp hp
      exact hH (He.cT K q.1) (List.mem_map.mpr ⟨q.1,List.mem_map.mpr ⟨q,hq,rfl⟩,rfl⟩)
end DL
namespace DL
open PySem PySem.Spec PyProof.Rows L2 LamX
theorem t4 {α:Type} {r:Res α} {v:α} (h:Res.wp r (fun a _=>a=v) NoE):∃S,r=.ok v S:=by
  cases r with
  | ok a S=>rw[fK] at h; exact ⟨S,by rw[h]⟩
  | exc e S=>simp at h
  | stuck=>simp at h
end DL
open DL in
theorem PySem.Challenge.cw_airhouse_k19_deeds_written_and_read_holds : PySem.Challenge.rw_airhouse_k19_deeds_written_and_read.Holds := by
  exact row_of fun ns _ _ => t4 (rG ns)
